import PyProof.Rows.All
import Wide.All
import OpenK.AllK
import Wide.FinOn
import HandS.ForMost
import HandS.Lambda
import KE.KDictKeyed
import HandS.TupAny
import HandS.Style
import HandS.Deep
import KE.LtData
import HandS.TupMul
import HandS.Text
import KE.SortData
import KE.DataCmp
import KE.DataMinMax
import HandS.StrMore
import HandS.ExcIs
import PyProof.ReprRoads
import PyProof.StrLawsRepr
import HandS.Iter
import HandS.Zip
import HandS.IsInst
import KE.SortKeyHeap
import KE.KDictCopyH
import PyProof.TupleOfSeq
import HandS.SortKw
import HandS.EndTab
import HandS.HeadWalk
import HandS.HeadHook4
import HandS.Head0
import HandS.Head1
import HandS.Head2
import HandS.HeadEnd
import HandS.HeadHook1
import HandS.HeadHook2
import HandS.HeadHook3
import PySem.Challenge.RW_deskgrove_k84_whole_weights_and_quotas
set_option autoImplicit false
set_option linter.all false
/-! PlCore: a small evaluator for the subset of Python that the program and its laws use: pure values, a heap of lists and dicts, expressions, statements, calls by number. -/
namespace PL
open PySem

inductive PV where
  | non | bl (b : Bool) | int (i : Int) | str (x : List Nat) | tup (xs : List PV) | ref (l : Nat) | fl (xs : List PV)

inductive PO where
  | lst (xs : List PV)
  | dct (kvs : List (PV × PV))
  | lkd (kvs : List (PV × PV))

abbrev Hv := List PO
inductive Er where
  | stuck
abbrev R (α : Type) := Except Er (α × Hv)
abbrev Env := List (Option PV)
abbrev stk {α : Type} : Except Er α := .error .stuck
@[inline] def thn {α β : Type} (r : R α) (f : α → Hv → Except Er β) : Except Er β :=
  match r with
  | .ok (a, h) => f a h
  | .error e => .error e
@[simp] theorem thn_ok {α β : Type} (a : α) (h : Hv) (f : α → Hv → Except Er β) : thn (.ok (a, h)) f = f a h := rfl
theorem thn_some {α β : Type} {r : R α} {f : α → Hv → Except Er β} {b : β} (h : thn r f = .ok b) : ∃ a g, r = .ok (a, g) ∧ f a g = .ok b := by
  unfold thn at h
  split at h
  · exact ⟨_, _, rfl, h⟩
  · cases h

/-! ### values -/
mutual
def PV.beq : PV → PV → Bool
  | .non, .non => true
  | .bl a, .bl b => a == b
  | .int i, .int j => decide (i = j)
  | .str x, .str y => decide (x = y)
  | .tup xs, .tup ys => PV.beqs xs ys
  | .ref l, .ref m => decide (l = m)
  | .fl xs, .fl ys => PV.beqs xs ys
  | _, _ => false
def PV.beqs : List PV → List PV → Bool
  | [], [] => true
  | x :: xs, y :: ys => PV.beq x y && PV.beqs xs ys
  | _, _ => false
end
mutual
theorem PV.beq_refl : ∀ v : PV, PV.beq v v = true
  | .non => rfl
  | .bl b => by cases b <;> rfl
  | .int i => by simp [PV.beq]
  | .str x => by simp [PV.beq]
  | .tup xs => by rw [PV.beq]; exact PV.beqs_refl xs
  | .ref l => by simp [PV.beq]
  | .fl xs => by rw [PV.beq]; exact PV.beqs_refl xs
theorem PV.beqs_refl : ∀ xs : List PV, PV.beqs xs xs = true
  | [] => rfl
  | x :: xs => by rw [PV.beqs, PV.beq_refl x, PV.beqs_refl xs]; rfl
end
mutual
theorem PV.beq_eq : ∀ v u : PV, PV.beq v u = true → v = u
  | .non, u, h => by cases u <;> first | rfl | (simp [PV.beq] at h)
  | .bl b, u, h => by cases u <;> first | (simp [PV.beq] at h; rw [h]) | (simp [PV.beq] at h)
  | .int b, u, h => by cases u <;> first | (simp [PV.beq] at h; rw [h]) | (simp [PV.beq] at h)
  | .str b, u, h => by cases u <;> first | (simp [PV.beq] at h; rw [h]) | (simp [PV.beq] at h)
  | .ref b, u, h => by cases u <;> first | (simp [PV.beq] at h; rw [h]) | (simp [PV.beq] at h)
  | .tup xs, u, h => by
    cases u with
    | tup ys => rw [PV.beq] at h; rw [PV.beqs_eq xs ys h]
    | _ => simp [PV.beq] at h
  | .fl xs, u, h => by
    cases u with
    | fl ys => rw [PV.beq] at h; rw [PV.beqs_eq xs ys h]
    | _ => simp [PV.beq] at h
theorem PV.beqs_eq : ∀ xs ys : List PV, PV.beqs xs ys = true → xs = ys
  | [], [], _ => rfl
  | [], _ :: _, h => by simp [PV.beqs] at h
  | _ :: _, [], h => by simp [PV.beqs] at h
  | x :: xs, y :: ys, h => by
    rw [PV.beqs, Bool.and_eq_true] at h
    rw [PV.beq_eq x y h.1, PV.beqs_eq xs ys h.2]
end
instance : BEq PV := ⟨PV.beq⟩
instance : LawfulBEq PV where
  eq_of_beq := fun {a b} h => PV.beq_eq a b h
  rfl := fun {a} => PV.beq_refl a
instance : DecidableEq PV := fun a b => if h : PV.beq a b = true then isTrue (PV.beq_eq a b h) else isFalse (fun e => h (by rw [e]; exact PV.beq_refl b))

def PO.beq : PO → PO → Bool
  | .lst xs, .lst ys => xs == ys
  | .dct xs, .dct ys => xs == ys
  | .lkd xs, .lkd ys => xs == ys
  | _, _ => false
theorem PO.beq_refl : ∀ o : PO, PO.beq o o = true
  | .lst xs => by simp [PO.beq]
  | .dct xs => by simp [PO.beq]
  | .lkd xs => by simp [PO.beq]
theorem PO.beq_eq : ∀ o p : PO, PO.beq o p = true → o = p
  | .lst xs, p, h => by cases p <;> simp [PO.beq] at h ⊢ <;> exact h
  | .dct xs, p, h => by cases p <;> simp [PO.beq] at h ⊢ <;> exact h
  | .lkd xs, p, h => by cases p <;> simp [PO.beq] at h ⊢ <;> exact h

mutual
/-- all references in it are below n -/
def PV.rb (n : Nat) : PV → Bool
  | .ref l => decide (l < n)
  | .tup xs => PV.rbs n xs
  | .fl xs => PV.rbs n xs
  | _ => true
def PV.rbs (n : Nat) : List PV → Bool
  | [] => true
  | x :: xs => PV.rb n x && PV.rbs n xs
end
def PO.rb (n : Nat) : PO → Bool
  | .lst xs => PV.rbs n xs
  | .dct kvs => kvs.all fun p => p.1.rb n && p.2.rb n
  | .lkd kvs => kvs.all fun p => p.1.rb n && p.2.rb n
mutual
/-- nothing but values in it -/
def PV.pure : PV → Bool
  | .ref _ => false
  | .fl _ => false
  | .tup xs => PV.pures xs
  | _ => true
def PV.pures : List PV → Bool
  | [] => true
  | x :: xs => PV.pure x && PV.pures xs
end

mutual
def depth : PV → Nat
  | .tup xs => depths xs + 1
  | _ => 0
def depths : List PV → Nat
  | [] => 0
  | x :: xs => max (depth x) (depths xs)
end
/-- what can be compared: values, not too deep -/
def PV.fit (v : PV) : Bool := PV.pure v && decide (depth v ≤ 60)
def PV.fits (vs : List PV) : Bool := PV.pures vs && decide (depths vs ≤ 60)

/-! ### what is thrown away -/
def clean (n : Nat) : Hv → Hv → Bool
  | [], _ => true
  | _ :: _, [] => false
  | o :: os, p :: ps => (PO.beq p o || PO.rb n p) && clean n os ps
/-- the value of a call or of an element, and the heap behind it -/
def gcR (v : PV) (old new : Hv) : PV × Hv :=
  match v with
  | .ref l => if l < old.length then (if clean old.length old new then (v, new.take old.length) else (v, new))
    else match new[l]? with
      | some o => if PO.rb old.length o && clean old.length old new then (.ref old.length, new.take old.length ++ [o]) else (v, new)
      | none => (v, new)
  | v => if PV.rb old.length v && clean old.length old new then (v, new.take old.length) else (v, new)
/-- the heap behind a turn of a loop -/
def gcE (env : Env) (old new : Hv) : Hv :=
  if (env.all fun o => match o with | some v => PV.rb old.length v | none => true) && clean old.length old new then new.take old.length else new

/-! ### order and equality, as Python has them -/
def b2 (b : Bool) : Int := if b then 1 else 0
mutual
def eqv : PV → PV → Bool
  | .non, .non => true
  | .bl a, .bl b => a == b
  | .bl a, .int j => decide (b2 a = j)
  | .int i, .bl b => decide (i = b2 b)
  | .int i, .int j => decide (i = j)
  | .str x, .str y => decide (x = y)
  | .tup xs, .tup ys => eqvs xs ys
  | _, _ => false
def eqvs : List PV → List PV → Bool
  | [], [] => true
  | x :: xs, y :: ys => eqv x y && eqvs xs ys
  | _, _ => false
end
mutual
/-- of one kind, place by place -/
def alk : PV → PV → Bool
  | .bl _, .bl _ => true
  | .int _, .int _ => true
  | .str _, .str _ => true
  | .non, .non => true
  | .tup xs, .tup ys => alks xs ys
  | _, _ => false
def alks : List PV → List PV → Bool
  | x :: xs, y :: ys => alk x y && alks xs ys
  | _, _ => true
end
mutual
def ltv : PV → PV → Bool
  | .bl a, .bl b => decide (b2 a < b2 b)
  | .int i, .int j => decide (i < j)
  | .str x, .str y => decide (x < y)
  | .tup xs, .tup ys => ltvs xs ys
  | _, _ => false
def ltvs : List PV → List PV → Bool
  | [], [] => false
  | [], _ :: _ => true
  | _ :: _, [] => false
  | x :: xs, y :: ys => if eqv x y then ltvs xs ys else ltv x y
end
/-- the contents of a list, a tuple, a written list -/
def items? (h : Hv) : PV → Option (List PV)
  | .tup xs => some xs
  | .ref l => match h[l]? with
    | some (.lst xs) => some xs
    | _ => none
  | _ => none
def eqP (h : Hv) (a b : PV) : Option Bool :=
  match a, b with
  | .ref l, .ref m => match items? h (.ref l), items? h (.ref m) with
    | some xs, some ys => if PV.fits xs && PV.fits ys then some (eqvs xs ys) else none
    | _, _ => none
  | .ref l, v => match items? h (.ref l) with
    | some xs => if PV.fits xs && PV.fit v then some false else none
    | none => none
  | v, .ref l => match items? h (.ref l) with
    | some xs => if PV.fits xs && PV.fit v then some false else none
    | none => none
  | a, b => if PV.fit a && PV.fit b then some (eqv a b) else none

def line : Nat := 16777216
/-- insertion into a sorted row, behind equal ones -/
def ins (lt : PV → PV → Bool) (x : PV × PV) : List (PV × PV) → List (PV × PV)
  | [] => [x]
  | y :: ys => if lt x.1 y.1 then x :: y :: ys else y :: ins lt x ys
def isort (lt : PV → PV → Bool) (xs : List (PV × PV)) : List (PV × PV) := xs.foldl (fun acc x => ins lt x acc) []

/-! ### syntax -/
inductive Op2 where
  | add | sub | mul | fdiv | mod | pow
  deriving DecidableEq
inductive Cm where
  | eq | ne | lt | le | gt | ge | isin | notin | is | isnot
  deriving DecidableEq
inductive Ty where
  | int | str | tuple | bool | list
  deriving DecidableEq
inductive Bl where
  | len | abs | int | str | ord | repr | sum | min | max | all | any | tuple | list | dict | sorted
  deriving DecidableEq
inductive Mt where
  | append | index | join | split | find | replace | get | pop | setdefault
  deriving DecidableEq
inductive Tg where
  | name (i : Nat)
  | tup2 (a b : Tg)
  | tup3 (a b c : Tg)
mutual
inductive Ex where
  | var (i : Nat)
  | lit (v : PV)
  | glob (x : Str) (v : PV)
  | tup (es : Exs)
  | lst (es : Exs)
  | dct0
  | bin (o : Op2) (a b : Ex)
  | neg (a : Ex)
  | not (a : Ex)
  | and (es : Exs)
  | or (es : Exs)
  | cmp (o : Cm) (a b : Ex)
  | chn (o p : Cm) (a b c : Ex)
  | ite (c a b : Ex)
  | call (f : Nat) (es : Exs)
  | blt (f : Bl) (es : Exs)
  | isi (a : Ex) (t : Ty)
  | mth (m : Mt) (o : Ex) (es : Exs)
  | idx (a i : Ex)
  | slc (a : Ex) (lo hi : OEx)
  | comp (own : List Nat) (t : Tg) (s : Src) (c : OEx) (e : Ex)
  | comp2 (own : List Nat) (t : Tg) (s : Src) (c : OEx) (t1 : Tg) (s1 : Src) (c1 : OEx) (e : Ex)
  | srt (a : Ex) (f : Nat)
  | srtL (a : Ex) (i : Nat) (e : Ex)
inductive Exs where
  | nil
  | cons (e : Ex) (es : Exs)
inductive OEx where
  | none
  | some (e : Ex)
inductive Src where
  | val (e : Ex)
  | keys (i : Nat)
  | rng1 (e : Ex)
  | rng2 (a b : Ex)
  | rng3 (a b c : Ex)
  | enum (e : Ex)
  | zip (a b : Ex)
end
mutual
inductive St where
  | set (i : Nat) (e : Ex)
  | tset (t : Tg) (e : Ex)
  | sset (o i e : Ex)
  | aug (i : Nat) (o : Op2) (e : Ex)
  | expr (e : Ex)
  | ite (c : Ex) (a b : Sts)
  | loop (t : Tg) (s : Src) (b : Sts)
  | whl (c : Ex) (b : Sts)
  | ret (e : Ex)
  | retN
  | pass
  | brk
  | never
inductive Sts where
  | nil
  | cons (s : St) (ss : Sts)
end
inductive Out where
  | next (e : Env)
  | brk (e : Env)
  | ret (v : PV)

/-! ### values of operators -/
abbrev Fun := Nat → List PV → Hv → R PV
abbrev okv (v : PV) (h : Hv) : R PV := .ok (v, h)
def alloc (o : PO) (h : Hv) : R PV := .ok (.ref h.length, h ++ [o])
def upd (h : Hv) (l : Nat) (o : PO) : Hv := h.set l o

def mulOk (i j : Int) : Bool := decide ((-(2 ^ 64) < i ∧ i < 2 ^ 64) ∨ (-(2 ^ 64) < j ∧ j < 2 ^ 64))
def repN {α : Type} (n : Nat) (xs : List α) : List α := (List.replicate n xs).flatten
def evBin (o : Op2) (a b : PV) (h : Hv) : R PV :=
  match o with
  | .add => match a, b with
    | .int i, .int j => okv (.int (i + j)) h
    | .str x, .str y => if x.length + y.length ≤ line then okv (.str (x ++ y)) h else stk
    | .tup x, .tup y => if x.length + y.length ≤ line then okv (.tup (x ++ y)) h else stk
    | .ref l, .ref m => match h[l]?, h[m]? with
      | some (.lst x), some (.lst y) => if x.length + y.length ≤ line then alloc (.lst (x ++ y)) h else stk
      | _, _ => stk
    | _, _ => stk
  | .sub => match a, b with
    | .int i, .int j => okv (.int (i - j)) h
    | _, _ => stk
  | .mul => match a, b with
    | .int i, .int j => if mulOk i j then okv (.int (i * j)) h else stk
    | .str x, .int j => if x.length * j.toNat ≤ line && decide (j < 2 ^ 62) && decide (-(2 ^ 62) < j) then okv (.str (repN j.toNat x)) h else stk
    | .tup x, .int j => if decide (x ≠ []) && decide (2 ≤ j) && decide (j ≤ 1000) && decide (x.length ≤ 1000) then okv (.tup (repN j.toNat x)) h else stk
    | _, _ => stk
  | .fdiv => match a, b with
    | .int i, .int j => if j ≠ 0 ∧ j.natAbs < 1073741824 then okv (.int (i.fdiv j)) h else stk
    | _, _ => stk
  | .mod => match a, b with
    | .int i, .int j => if j ≠ 0 then okv (.int (i.fmod j)) h else stk
    | _, _ => stk
  | .pow => match a, b with
    | .int i, .int j => if 0 ≤ j ∧ j ≤ 1000 ∧ i.natAbs < 2 ^ 64 then okv (.int (i ^ j.toNat)) h else stk
    | _, _ => stk

/-- the place of a number among n -/
def ix (n : Nat) (i : Int) : Option Nat :=
  if 0 ≤ i then (if i < n then some i.toNat else none) else (if 0 ≤ i + n then some (i + n).toNat else none)
/-- a bound of a slice -/
def sx (n : Nat) (d : Nat) : Option Int → Nat
  | none => d
  | some i => if 0 ≤ i then min i.toNat n else (i + n).toNat
def cutL {α : Type} (xs : List α) (lo hi : Option Int) : List α :=
  (xs.drop (sx xs.length 0 lo)).take (sx xs.length xs.length hi - sx xs.length 0 lo)
def small (i : Int) : Bool := decide (-(2 ^ 62) ≤ i ∧ i < 2 ^ 62)

def valAt (kvs : List (PV × PV)) (k : PV) : Option PV := (kvs.find? fun p => p.1 == k).map (·.2)
def putAt (k v : PV) : List (PV × PV) → List (PV × PV)
  | [] => [(k, v)]
  | p :: ps => if p.1 == k then (p.1, v) :: ps else p :: putAt k v ps
def dropAt (k : PV) (kvs : List (PV × PV)) : List (PV × PV) := kvs.filter fun p => !(p.1 == k)
mutual
/-- what may be a key: a number, a text; a tuple of keys (not deep) -/
def keyN : Nat → PV → Bool
  | _, .int _ => true
  | _, .str _ => true
  | 0, _ => false
  | n + 1, .tup xs => keysN n xs
  | _, _ => false
def keysN : Nat → List PV → Bool
  | _, [] => true
  | n, x :: xs => keyN n x && keysN n xs
end
def tupK (v : PV) : Bool := match v with
  | .tup _ => keyN 5 v
  | _ => false
def flatK (v : PV) : Bool := match v with
  | .int _ => true
  | .str _ => true
  | _ => false
/-- the keys are all tuples, or all numbers and texts -/
def kindOk (kvs : List (PV × PV)) (k : PV) : Bool :=
  (tupK k && kvs.all fun p => tupK p.1) || (flatK k && kvs.all fun p => flatK p.1)
def dict? (h : Hv) : PV → Option (List (PV × PV))
  | .ref l => match h[l]? with
    | some (.dct kvs) => some kvs
    | some (.lkd kvs) => some kvs
    | _ => none
  | _ => none
def evIdx (a i : PV) (h : Hv) : R PV :=
  match dict? h a with
  | some kvs => if kindOk kvs i then match valAt kvs i with
      | some v => okv v h
      | none => stk
    else stk
  | none => match i with
    | .int j => match a with
      | .str x => match ix x.length j with
        | some k => match x[k]? with
          | some c => okv (.str [c]) h
          | none => stk
        | none => stk
      | a => match items? h a with
        | some xs => match ix xs.length j with
          | some k => match xs[k]? with
            | some v => okv v h
            | none => stk
          | none => stk
        | none => stk
    | _ => stk
def bound? : Option PV → Option (Option Int)
  | none => some none
  | some (.int i) => some (some i)
  | _ => none
def evSlc (a : PV) (lo hi : Option PV) (h : Hv) : R PV :=
  match bound? lo, bound? hi with
  | some l, some u => match a with
    | .str x => okv (.str (cutL x l u)) h
    | .tup x => okv (.tup (cutL x l u)) h
    | .ref r => match h[r]? with
      | some (.lst x) => alloc (.lst (cutL x l u)) h
      | _ => stk
    | _ => stk
  | _, _ => stk
def inItems (x : PV) (xs : List PV) : Bool := xs.any fun y => eqv y x
def evIn (a b : PV) (h : Hv) : Option Bool :=
  match dict? h b with
  | some kvs => if kindOk kvs a then some (valAt kvs a).isSome else none
  | none => match a, b with
    | .str [c], .str y => some (y.contains c)
    | .str _, .str _ => none
    | _, .str _ => none
    | a, b => match items? h b with
      | some ys => if PV.fit a && PV.fits ys then some (inItems a ys) else none
      | none => none
def evIs (a b : PV) : Option Bool :=
  match a, b with
  | a, .non => some (a == .non)
  | .bl x, .bl y => some (x == y)
  | _, _ => none
def ordOk (a b : PV) : Bool := match a, b with
  | .int _, .int _ => true
  | .str _, .str _ => true
  | .tup _, .tup _ => PV.fit a && PV.fit b && alk a b
  | _, _ => false
def evCm (o : Cm) (a b : PV) (h : Hv) : Option Bool :=
  match o with
  | .eq => eqP h a b
  | .ne => (eqP h a b).map (!·)
  | .lt => if ordOk a b then some (ltv a b) else none
  | .gt => if ordOk a b then some (ltv b a) else none
  | .le => if ordOk a b then some (!ltv b a) else none
  | .ge => if ordOk a b then some (!ltv a b) else none
  | .isin => evIn a b h
  | .notin => (evIn a b h).map (!·)
  | .is => evIs a b
  | .isnot => (evIs a b).map (!·)
def retB (o : Option Bool) (h : Hv) : R PV := match o with
  | some b => okv (.bl b) h
  | none => stk
def hasTy (h : Hv) (v : PV) (t : Ty) : Option Bool :=
  match v, t with
  | .bl _, .int => some true
  | .int _, .int => some true
  | .bl _, .bool => some true
  | .str _, .str => some true
  | .tup _, .tuple => some true
  | .ref l, t => match h[l]? with
    | some (.lst _) => some (decide (t = .list))
    | _ => none
  | .fl _, _ => none
  | _, _ => some false

/-! ### builtins -/
def numText (i : Int) : List Nat := match i with
  | .ofNat n => (Nat.toDigits 10 n).map Char.toNat
  | .negSucc n => 45 :: (Nat.toDigits 10 (n + 1)).map Char.toNat
def isDig (c : Nat) : Bool := decide (48 ≤ c ∧ c ≤ 57)
def digVal (x : List Nat) : Int := x.foldl (fun (n : Int) (c : Nat) => n * 10 + ((c : Int) - 48)) 0
def ints? (xs : List PV) : Option (List Int) := xs.mapM fun v => match v with
  | .int i => some i
  | _ => none
def bools? (xs : List PV) : Option (List Bool) := xs.mapM fun v => match v with
  | .bl b => some b
  | _ => none
/-- the first least one -/
def least (lt : PV → PV → Bool) (x : PV) (xs : List PV) : PV := xs.foldl (fun a y => if lt y a then y else a) x
def most (lt : PV → PV → Bool) (x : PV) (xs : List PV) : PV := xs.foldl (fun a y => if lt a y then y else a) x
def ordAll (x : PV) (xs : List PV) : Bool := (x :: xs).all fun a => ordOk a a && (x :: xs).all fun b => alk a b
def pair? (v : PV) : Option (PV × PV) := match v with
  | .tup [a, b] => some (a, b)
  | _ => none
def pairs? : List PV → Option (List (PV × PV))
  | [] => some []
  | x :: xs => match pair? x, pairs? xs with
    | some p, some ps => some (p :: ps)
    | _, _ => none
def putAll (acc ps : List (PV × PV)) : List (PV × PV) := ps.foldl (fun acc p => putAt p.1 p.2 acc) acc
mutual
def toD : PV → PyData
  | .non => .none
  | .bl b => .bool b
  | .int i => .int i
  | .str x => .str ⟨x.toArray⟩
  | .tup xs => .tuple (toDs xs)
  | _ => .none
def toDs : List PV → List PyData
  | [] => []
  | x :: xs => toD x :: toDs xs
end
/-- how a value is shown -/
def shownT (v : PV) : List Nat := (toD v).shown.cps.toList
mutual
/-- a bound for the length of what is shown -/
def shSz : PV → Nat
  | .int i => if i.natAbs < 2 ^ 1000 then 1002 else line
  | .str x => 10 * x.length + 2
  | .tup xs => shSzs xs + 3
  | _ => 5
def shSzs : List PV → Nat
  | [] => 0
  | x :: xs => shSz x + 2 + shSzs xs
end
def reprOk (v : PV) : Bool := PV.fit v && decide (shSz v + 64 ≤ line)
def evBl1 (f : Bl) (v : PV) (h : Hv) : R PV :=
  match f, v with
  | .len, .str x => okv (.int x.length) h
  | .len, .tup x => okv (.int x.length) h
  | .len, .ref l => match h[l]? with
    | some (.lst x) => okv (.int x.length) h
    | some (.dct x) => okv (.int x.length) h
    | some (.lkd x) => okv (.int x.length) h
    | none => stk
  | .abs, .int i => okv (.int (if i < 0 then -i else i)) h
  | .int, .int i => okv (.int i) h
  | .int, .bl b => okv (.int (b2 b)) h
  | .int, .str x => if 0 < x.length ∧ x.length ≤ 640 ∧ x.all isDig then okv (.int (digVal x)) h else stk
  | .str, .int i => if i.natAbs.log2 < 1920 then okv (.str (numText i)) h else stk
  | .ord, .str [c] => okv (.int c) h
  | .repr, v => if reprOk v then okv (.str (shownT v)) h else stk
  | .sum, .ref l => match items? h (.ref l) with
    | some xs => match ints? xs with
      | some ns => okv (.int ns.sum) h
      | none => stk
    | none => stk
  | .all, .ref l => match items? h (.ref l) with
    | some xs => match bools? xs with
      | some bs => okv (.bl (bs.all id)) h
      | none => stk
    | none => stk
  | .any, .ref l => match items? h (.ref l) with
    | some xs => match bools? xs with
      | some bs => okv (.bl (bs.any id)) h
      | none => stk
    | none => stk
  | .min, .ref l => match items? h (.ref l) with
    | some (x :: xs) => if ordAll x xs then okv (least ltv x xs) h else stk
    | _ => stk
  | .max, .ref l => match items? h (.ref l) with
    | some (x :: xs) => if ordAll x xs then okv (most ltv x xs) h else stk
    | _ => stk
  | .tuple, .tup x => okv (.tup x) h
  | .tuple, .ref l => match h[l]? with
    | some (.lst x) => okv (.tup x) h
    | _ => stk
  | .list, .tup x => alloc (.lst x) h
  | .list, .fl x => alloc (.lst x) h
  | .list, .ref l => match h[l]? with
    | some (.lst x) => alloc (.lst x) h
    | _ => stk
  | .dict, .ref l => match h[l]? with
    | some (.lst xs) => match pairs? xs with
      | some ps => if ps.all fun p => tupK p.1 then alloc (.dct (putAll [] ps)) h else stk
      | none => stk
    | _ => stk
  | _, _ => stk
def evBl2 (f : Bl) (v u : PV) (h : Hv) : R PV :=
  match f, v, u with
  | .min, .int i, .int j => okv (.int (if j < i then j else i)) h
  | .max, .int i, .int j => okv (.int (if j > i then j else i)) h
  | _, _, _ => stk
def evBl (f : Bl) (vs : List PV) (h : Hv) : R PV :=
  match vs with
  | [v] => evBl1 f v h
  | [v, u] => evBl2 f v u h
  | _ => stk
def evMt1 (m : Mt) (o v : PV) (h : Hv) : R PV :=
  match m, o with
  | .append, .ref l => match h[l]? with
    | some (.lst xs) => if xs.length < line then okv .non (upd h l (.lst (xs ++ [v]))) else stk
    | _ => stk
  | .index, .str x => match v with
    | .str [c] => match x.findIdx? (· == c) with
      | some i => okv (.int i) h
      | none => stk
    | _ => stk
  | _, _ => stk
def evMt (m : Mt) (o : PV) (vs : List PV) (h : Hv) : R PV :=
  match vs with
  | [v] => evMt1 m o v h
  | _ => stk
/-- what has methods: a text, a list -/
def mtOn (x : PV) (h : Hv) : Bool := match x with
  | .str _ => true
  | .ref l => match h[l]? with
    | some (.lst _) => true
    | _ => false
  | _ => false

/-! ### targets, sources -/
def bind (t : Tg) (v : PV) (e : Env) : Option Env :=
  match t with
  | .name i => some (e.set i (some v))
  | .tup2 a b => match v with
    | .tup [x, y] => match bind a x e with
      | some e1 => bind b y e1
      | none => none
    | _ => none
  | .tup3 a b c => match v with
    | .tup [x, y, z] => match bind a x e with
      | some e1 => match bind b y e1 with
        | some e2 => bind c z e2
        | none => none
      | none => none
    | _ => none
def wipeE (e : Env) : List Nat → Env
  | [] => e
  | v :: vs => (wipeE e vs).set v none
/-- what is walked: the items, and what must stay as it is meanwhile -/
structure Walk where
  xs : List PV
  gd : List Nat
  lk : Option (Nat × List (PV × PV)) := none
/-- behind the walk: what was locked is free again -/
def unlk (w : Walk) (h : Hv) : Option Hv := match w.lk with
  | none => some h
  | some (l, kvs) => match h[l]? with
    | some (.lkd k2) => if k2 == kvs then some (upd h l (.dct kvs)) else none
    | _ => none
def rngL (a c : Int) (n : Nat) : List PV := (List.range n).map fun (i : Nat) => PV.int (a + (i : Int) * c)
def srcItems (h : Hv) (v : PV) : Option Walk :=
  match v with
  | .tup xs => some ⟨xs, [], none⟩
  | .str x => some ⟨x.map fun c => .str [c], [], none⟩
  | .ref l => match items? h (.ref l) with
    | some xs => some ⟨xs, [l], none⟩
    | none => none
  | _ => none
def steps3 (a b c : Int) : Nat := if 0 < c then ((b - a + c - 1) / c).toNat else ((a - b - c - 1) / (-c)).toNat
def chk (gd : List Nat) (h h' : Hv) : Bool := gd.all fun l => match h[l]?, h'[l]? with
  | some o, some p => PO.beq p o
  | _, _ => false
def mapC (f : PV → Hv → R (Option PV)) (ok : Hv → Bool) : List PV → Hv → R (List PV)
  | [], h => .ok ([], h)
  | x :: xs, h => thn (f x h) fun o h1 => match o with
    | some y => let g := gcR y h h1; if ok g.2 then thn (mapC f ok xs g.2) fun ys h3 => .ok (g.1 :: ys, h3) else stk
    | none => let g := gcE [] h h1; if ok g then mapC f ok xs g else stk
def forC (f : PV → Env → Hv → R Out) (ok : Hv → Bool) : List PV → Env → Hv → R Out
  | [], e, h => .ok (.next e, h)
  | x :: xs, e, h => thn (f x e h) fun o h1 => match o with
    | .next e1 => if ok h1 then forC f ok xs e1 (gcE e1 h h1) else stk
    | .brk e1 => .ok (.next e1, h1)
    | .ret v => .ok (.ret v, h1)
def whlC (c : Env → Hv → R PV) (f : Env → Hv → R Out) : Nat → Env → Hv → R Out
  | 0, _, _ => stk
  | k + 1, e, h => thn (c e h) fun v h1 => match v with
    | .bl true => thn (f e h1) fun o h2 => match o with
      | .next e1 => whlC c f k e1 (gcE e1 h h2)
      | .brk e1 => .ok (.next e1, h2)
      | .ret v => .ok (.ret v, h2)
    | .bl false => .ok (.next e, gcE e h h1)
    | _ => stk
/-- the keys, one behind another -/
def keysG (g : PV → Hv → R PV) : List PV → Hv → R (List PV)
  | [], h => .ok ([], h)
  | x :: xs, h => thn (g x h) fun k h1 => thn (keysG g xs h1) fun ks h2 => .ok (k :: ks, h2)
/-- what is sorted: a tuple, a list, the keys of a dict -/
def sorts (h : Hv) (v : PV) : Option (List PV) := match dict? h v with
  | some kvs => if kvs.all fun p => tupK p.1 then some (kvs.map (·.1)) else none
  | none => items? h v
def keyOk (k : PV) : Bool := match k with
  | .tup (_ :: _) => PV.fit k
  | .int _ => true
  | .str _ => true
  | _ => false
def keysOk (ks : List PV) : Bool := ks.all fun k => keyOk k && ks.all fun j => alk k j
def sortBy (xs ks : List PV) (h : Hv) : R PV := if keysOk ks && decide (xs.length ≤ line) then alloc (.lst (((ks.zip xs).mergeSort fun a b => !ltv b.1 a.1).map (·.2))) h else stk

/-- x[y] = v -/
def evSt (x y v : PV) (h : Hv) : Option Hv := match x with
  | .ref l => match h[l]? with
    | some (.lst xs) => match y with
      | .int j => match ix xs.length j with
        | some k => some (upd h l (.lst (xs.set k v)))
        | none => none
      | _ => none
    | some (.dct kvs) => if kindOk kvs y && decide (kvs.length < line) then some (upd h l (.dct (putAt y v kvs))) else none
    | _ => none
  | _ => none
/-- x += y, x -= y -/
def evAug (o : Op2) (x y : PV) (h : Hv) : R PV := match o, x, y with
  | .add, .ref l, .ref m => match h[l]?, h[m]? with
    | some (.lst xs), some (.lst ys) => if xs.length + ys.length ≤ line then .ok (.ref l, upd h l (.lst (xs ++ ys))) else stk
    | _, _ => stk
  | .add, .int i, .int j => okv (.int (i + j)) h
  | .add, .str x, .str y => if x.length + y.length ≤ line then okv (.str (x ++ y)) h else stk
  | .add, .tup x, .tup y => if x.length + y.length ≤ line then okv (.tup (x ++ y)) h else stk
  | .sub, .int i, .int j => okv (.int (i - j)) h
  | _, _, _ => stk

/-! ### the evaluator -/
section
variable (F : Fun)
mutual
def evE : Ex → Env → Hv → R PV
  | .var i, e, h => match e[i]? with
    | some (some v) => .ok (v, h)
    | _ => stk
  | .lit v, _, h => .ok (v, h)
  | .glob _ v, _, h => .ok (v, h)
  | .tup es, e, h => thn (evEs es e h) fun vs h1 => if vs.length ≤ line then .ok (.tup vs, h1) else stk
  | .lst es, e, h => thn (evEs es e h) fun vs h1 => if vs.length ≤ line then alloc (.lst vs) h1 else stk
  | .dct0, _, h => alloc (.dct []) h
  | .bin o a b, e, h => thn (evE a e h) fun x h1 => thn (evE b e h1) fun y h2 => evBin o x y h2
  | .neg a, e, h => thn (evE a e h) fun x h1 => match x with
    | .int i => okv (.int (-i)) h1
    | _ => stk
  | .not a, e, h => thn (evE a e h) fun x h1 => match x with
    | .bl b => okv (.bl (!b)) h1
    | _ => stk
  | .and es, e, h => evAnd es e h
  | .or es, e, h => evOr es e h
  | .cmp o a b, e, h => thn (evE a e h) fun x h1 => thn (evE b e h1) fun y h2 => retB (evCm o x y h2) h2
  | .chn o p a b c, e, h => thn (evE a e h) fun x h1 => thn (evE b e h1) fun y h2 => match evCm o x y h2 with
    | some true => thn (evE c e h2) fun z h3 => retB (evCm p y z h3) h3
    | some false => okv (.bl false) h2
    | none => stk
  | .ite c a b, e, h => thn (evE c e h) fun x h1 => match x with
    | .bl true => evE a e h1
    | .bl false => evE b e h1
    | _ => stk
  | .call f es, e, h => thn (evEs es e h) fun vs h1 => F f vs h1
  | .blt f es, e, h => thn (evEs es e h) fun vs h1 => evBl f vs h1
  | .isi a t, e, h => thn (evE a e h) fun x h1 => retB (hasTy h1 x t) h1
  | .mth m o es, e, h => thn (evE o e h) fun x h1 => if mtOn x h1 then thn (evEs es e h1) fun vs h2 => evMt m x vs h2 else stk
  | .idx a i, e, h => thn (evE a e h) fun x h1 => thn (evE i e h1) fun y h2 => evIdx x y h2
  | .slc a lo hi, e, h => thn (evE a e h) fun x h1 => thn (evO lo e h1) fun l h2 => thn (evO hi e h2) fun u h3 => evSlc x l u h3
  | .comp own t s c el, e, h => thn (evSrc s e h) fun w h1 =>
      thn (mapC (fun v g => match bind t v (wipeE e own) with
        | some e1 => thn (evC c e1 g) fun b g1 => match b with
          | true => thn (evE el e1 g1) fun y g2 => .ok (some y, g2)
          | false => .ok (none, g1)
        | none => stk) (chk w.gd h1) w.xs h1) fun ys h2 => match unlk w h2 with
        | some h3 => if ys.length ≤ line then alloc (.lst ys) h3 else stk
        | none => stk
  | .comp2 own t s c t1 s1 c1 el, e, h => stk
  | .srt a f, e, h => thn (evE a e h) fun x h1 => match sorts h1 x with
    | some xs => thn (keysG (fun x g => F f [x] g) xs h1) fun ks h2 => sortBy xs ks h2
    | none => stk
  | .srtL a i el, e, h => thn (evE a e h) fun x h1 => match sorts h1 x with
    | some xs => thn (keysG (fun v g => thn (evE el (e.set i (some v)) g) fun y g2 => .ok (gcR y g g2)) xs h1) fun ks h2 => sortBy xs ks h2
    | none => stk
def evEs : Exs → Env → Hv → R (List PV)
  | .nil, _, h => .ok ([], h)
  | .cons a as, e, h => thn (evE a e h) fun x h1 => thn (evEs as e h1) fun xs h2 => .ok (x :: xs, h2)
def evAnd : Exs → Env → Hv → R PV
  | .nil, _, _ => stk
  | .cons a .nil, e, h => evE a e h
  | .cons a as, e, h => thn (evE a e h) fun x h1 => match x with
    | .bl true => evAnd as e h1
    | .bl false => okv (.bl false) h1
    | _ => stk
def evOr : Exs → Env → Hv → R PV
  | .nil, _, _ => stk
  | .cons a .nil, e, h => evE a e h
  | .cons a as, e, h => thn (evE a e h) fun x h1 => match x with
    | .bl false => evOr as e h1
    | .bl true => okv (.bl true) h1
    | _ => stk
def evO : OEx → Env → Hv → R (Option PV)
  | .none, _, h => .ok (none, h)
  | .some a, e, h => thn (evE a e h) fun x h1 => .ok (some x, h1)
def evC : OEx → Env → Hv → R Bool
  | .none, _, h => .ok (true, h)
  | .some a, e, h => thn (evE a e h) fun x h1 => match x with
    | .bl b => .ok (b, h1)
    | _ => stk
def evSrc : Src → Env → Hv → R Walk
  | .val a, e, h => thn (evE a e h) fun x h1 => match srcItems h1 x with
    | some w => .ok (w, h1)
    | none => stk
  | .keys i, e, h => match e[i]? with
    | some (some (.ref l)) => match h[l]? with
      | some (.dct kvs) => .ok (⟨kvs.map (·.1), [l], some (l, kvs)⟩, upd h l (.lkd kvs))
      | _ => stk
    | _ => stk
  | .rng1 a, e, h => thn (evE a e h) fun x h1 => match x with
    | .int i => if small i then .ok (⟨rngL 0 1 i.toNat, [], none⟩, h1) else stk
    | _ => stk
  | .rng2 a b, e, h => thn (evE a e h) fun x h1 => thn (evE b e h1) fun y h2 => match x, y with
    | .int i, .int j => if small i && small j then .ok (⟨rngL i 1 (j - i).toNat, [], none⟩, h2) else stk
    | _, _ => stk
  | .rng3 a b c, e, h => thn (evE a e h) fun x h1 => thn (evE b e h1) fun y h2 => thn (evE c e h2) fun z h3 => match x, y, z with
    | .int i, .int j, .int k => if small i && small j && decide (k = -1) then .ok (⟨rngL i k (i - j).toNat, [], none⟩, h3) else stk
    | _, _, _ => stk
  | .enum a, e, h => thn (evE a e h) fun x h1 => match x with
    | .ref l => match items? h1 (.ref l) with
      | some xs => .ok (⟨xs.zipIdx.map fun p => .tup [.int p.2, p.1], [l], none⟩, h1)
      | none => stk
    | _ => stk
  | .zip a b, e, h => thn (evE a e h) fun x h1 => thn (evE b e h1) fun y h2 => match x, y with
    | .ref l, .ref m => match items? h2 (.ref l), items? h2 (.ref m) with
      | some xs, some ys => .ok (⟨(xs.zip ys).map fun p => .tup [p.1, p.2], [l, m], none⟩, h2)
      | _, _ => stk
    | .tup xs, .tup ys => .ok (⟨(xs.zip ys).map fun p => .tup [p.1, p.2], [], none⟩, h2)
    | _, _ => stk
end
variable (W : Nat)
mutual
def evS : St → Env → Hv → R Out
  | .set i a, e, h => thn (evE F a e h) fun x h1 => .ok (.next (e.set i (some x)), h1)
  | .tset t a, e, h => thn (evE F a e h) fun x h1 => match bind t x e with
    | some e1 => .ok (.next e1, h1)
    | none => stk
  | .sset o i a, e, h => thn (evE F a e h) fun v h1 => thn (evE F o e h1) fun x h2 => thn (evE F i e h2) fun y h3 => match evSt x y v h3 with
    | some h4 => .ok (.next e, h4)
    | none => stk
  | .aug i o a, e, h => match e[i]? with
    | some (some x) => thn (evE F a e h) fun y h1 => thn (evAug o x y h1) fun z h2 => .ok (.next (e.set i (some z)), h2)
    | _ => stk
  | .expr a, e, h => thn (evE F a e h) fun _ h1 => .ok (.next e, h1)
  | .ite c a b, e, h => thn (evE F c e h) fun x h1 => match x with
    | .bl true => evSs a e h1
    | .bl false => evSs b e h1
    | _ => stk
  | .loop t s b, e, h => thn (evSrc F s e h) fun w h1 => thn (forC (fun v e1 g => match bind t v e1 with
      | some e2 => evSs b e2 g
      | none => stk) (chk w.gd h1) w.xs e h1) fun o h2 => match unlk w h2 with
      | some h3 => .ok (o, h3)
      | none => stk
  | .whl c b, e, h => whlC (fun e1 g => evE F c e1 g) (fun e1 g => evSs b e1 g) W e h
  | .ret a, e, h => thn (evE F a e h) fun x h1 => .ok (.ret x, h1)
  | .retN, _, h => .ok (.ret .non, h)
  | .pass, e, h => .ok (.next e, h)
  | .brk, e, h => .ok (.brk e, h)
  | .never, _, _ => stk
def evSs : Sts → Env → Hv → R Out
  | .nil, e, h => .ok (.next e, h)
  | .cons s ss, e, h => thn (evS s e h) fun o h1 => match o with
    | .next e1 => evSs ss e1 h1
    | o => .ok (o, h1)
end
end
structure Df where
  name : Str
  ar : Nat
  nm : List Str
  body : Sts
def run (D : List Df) (W : Nat) : Nat → Fun
  | 0, _, _, _ => stk
  | n + 1, f, vs, h => match D[f]? with
    | some d => if vs.length = d.ar then
        thn (evSs (run D W n) W d.body (vs.map some ++ List.replicate (d.nm.length - vs.length) none) h) fun o h1 => match o with
          | .ret v => let g := gcR v h h1; .ok (g.1, g.2)
          | .next _ => let g := gcR .non h h1; .ok (g.1, g.2)
          | .brk _ => stk
      else stk
    | none => stk
end PL
set_option autoImplicit false
set_option linter.all false
set_option maxRecDepth 20000
/-! PlRel: how the evaluator's values and heap stand in the abstract heap of the hand layer. -/
namespace PL
open PySem PySem.Spec PyProof.Rows L2

abbrev tx (x : List Nat) : Str := ⟨x.toArray⟩
theorem tx_inj {x y : List Nat} (h : tx x = tx y) : x = y := by
  have e := congrArg (fun s : Str => s.cps.toList) h
  simpa using e

/-- a text as it can be: its length, its codes -/
def okS (x : List Nat) : Prop := x.length ≤ sizeLine ∧ ∀ c ∈ x, c < 0x110000
/-- a list that is read alone: known to the object, or one of the module's -/
def RL (K : PySem.W.Frag) (H : Hp) (a : Addr) (xs : List V) : Prop :=
  (∃ o, H a = some (.frz o (.lst xs))) ∨
    ∃ (o : Obj) (its : Array Value) (n : Nat), K.lookup a = some o ∧ o.cls = .type "list" ∧ o.dict = none ∧ o.data = .seq its n ∧ its.size ≤ sizeLine ∧ Vals xs its.toList
theorem RL.seq {K : PySem.W.Frag} {H : Hp} {a : Addr} {xs : List V} (h : RL K H a xs) : SqL K H a xs := by
  rcases h with ⟨o, h⟩ | h
  · exact .inl (.inr ⟨o, h⟩)
  · exact .inr h
section
variable (K : PySem.W.Frag) (μ : List Addr) (H : Hp)
mutual
inductive VR : V → PV → Prop
  | non : VR .non .non
  | bl (b : Bool) : VR (.bl b) (.bl b)
  | int (i : Int) : VR (.int i) (.int i)
  | str (x : List Nat) : okS x → VR (.str (tx x)) (.str x)
  | tup {a : Addr} {xs : List V} {vs : List PV} : SqT K H a xs → VRs xs vs → VR (.ref a) (.tup vs)
  | ref {a : Addr} {l : Nat} : μ[l]? = some a → VR (.ref a) (.ref l)
  | fl {a : Addr} {xs : List V} {vs : List PV} : RL K H a xs → VRs xs vs → VR (.ref a) (.fl vs)
inductive VRs : List V → List PV → Prop
  | nil : VRs [] []
  | cons {x : V} {v : PV} {xs : List V} {vs : List PV} : VR x v → VRs xs vs → VRs (x :: xs) (v :: vs)
end
end

mutual
/-- a key as the library has it -/
def nk : PV → NestedKey
  | .int i => .num i
  | .str x => .text (tx x)
  | .bl b => .num (b2 b)
  | .tup xs => .tup (nks xs)
  | _ => .none
def nks : List PV → List NestedKey
  | [] => []
  | x :: xs => nk x :: nks xs
end
/-- a dict with tuple keys, by its one object -/
abbrev RawT := List (NestedKey × Addr × Value)
def DictT (P : Program) (w : World) (a : Addr) (raw : RawT) : HO := .ext fun h =>
  (a == sysModules) = false ∧ ∃ o es ep, h.get? a = some o ∧ o.ExactDict ∧ o.data = .dict es ep ∧ es.toList = raw.map (entryOfKey (nestedKind P w)) ∧ (raw.map (·.1)).Nodup
def fk : PV → Key
  | .int i => .inl i
  | .str x => .inr (tx x)
  | _ => .inl 0
/-- a key that is a number or a text -/
def FK (k : PV) : Prop := flatK k = true ∧ ∀ x, k = .str x → okS x
section
variable (P : Program) (w : World) (K : PySem.W.Frag) (μ : List Addr) (H : Hp)
/-- entries with tuple keys -/
inductive ERs : RawT → List (PV × PV) → Prop
  | nil : ERs [] []
  | cons {k : PV} {v : PV} {a : Addr} {x : V} {u : Value} {r : RawT} {kvs : List (PV × PV)} : tupK k = true → VR K μ H (.ref a) k → RelV x u → VR K μ H x v → ERs r kvs → ERs ((nk k, a, u) :: r) ((k, v) :: kvs)
/-- entries with keys that are numbers or texts -/
inductive FRs : List (Key × V) → List (PV × PV) → Prop
  | nil : FRs [] []
  | cons {k : PV} {v : PV} {x : V} {r : List (Key × V)} {kvs : List (PV × PV)} : FK k → VR K μ H x v → FRs r kvs → FRs ((fk k, x) :: r) ((k, v) :: kvs)
/-- what stands for a dict -/
def DR (a : Addr) (o : HO) (kvs : List (PV × PV)) : Prop :=
  (∃ raw, o = DictT P w a raw ∧ ERs K μ H raw kvs ∧ raw.length ≤ sizeLine ∧ kvs ≠ []) ∨ (∃ fs, o = .dK fs ∧ FRs K μ H fs kvs)
def OR (a : Addr) : PO → Prop
  | .lst vs => ∃ xs, H a = some (.lst xs) ∧ VRs K μ H xs vs
  | .dct kvs => ∃ o, H a = some o ∧ DR P w K μ H a o kvs
  | .lkd kvs => ∃ od o, H a = some (.frz od o) ∧ DR P w K μ H a o kvs
structure HR (T : List (Addr × Str)) (hp : Hv) : Prop where
  obj : ∀ (l : Nat) (o : PO), hp[l]? = some o → ∃ a, μ[l]? = some a ∧ OR P w K μ H a o
  nd : μ.Nodup
  len : μ.length = hp.length
  tab : LamX.Tabs T H
def ER (env : Env) (σ : L2.St) : Prop := ∀ (i : Nat) (v : PV), env[i]? = some (some v) → ∃ x : V, σ[i]? = some (some x) ∧ VR K μ H x v
end

/-- all that was there, but what is known of the heap's own objects, is as it was -/
structure Ext (μ : List Addr) (H : Hp) (μ' : List Addr) (H' : Hp) : Prop where
  pre : ∃ ν, μ' = μ ++ ν ∧ ∀ a ∈ ν, H a = none
  tup : ∀ b xs, H b = some (.tup xs) → H' b = some (.tup xs)
  frz : ∀ b o u, H b = some (.frz o u) → H' b = some (.frz o u)
  all : ∀ b o, H b = some o → b ∉ μ → (∀ ps, o ≠ .tbl ps) → H' b = some o
  there : ∀ b o, H b = some o → ∃ o', H' b = some o'

section
variable {P : Program} {w : World} {K : PySem.W.Frag} {μ μ' μ'' : List Addr} {H H' H'' : Hp} {T : List (Addr × Str)}
theorem Ext.refl : Ext μ H μ H := ⟨⟨[], by simp⟩, fun _ _ h => h, fun _ _ _ h => h, fun _ _ h _ _ => h, fun _ o h => ⟨o, h⟩⟩
theorem Ext.free (e : Ext μ H μ' H') {a : Addr} (h : H' a = none) : H a = none := by
  cases q : H a with
  | none => rfl
  | some o =>
    obtain ⟨o', h'⟩ := e.there a o q
    rw [h] at h'; cases h'
theorem Ext.trans (a : Ext μ H μ' H') (b : Ext μ' H' μ'' H'') : Ext μ H μ'' H'' := by
  obtain ⟨ν, rfl, h1⟩ := a.pre
  obtain ⟨ν', rfl, h2⟩ := b.pre
  refine ⟨⟨ν ++ ν', by simp, fun c hc => ?_⟩, fun c xs h => b.tup c xs (a.tup c xs h), fun c o u h => b.frz c o u (a.frz c o u h), fun c o h n t => ?_, fun c o h => ?_⟩
  · rcases List.mem_append.mp hc with q | q
    · exact h1 c q
    · exact a.free (h2 c q)
  · refine b.all c o (a.all c o h n t) (fun q => ?_) t
    rcases List.mem_append.mp q with q | q
    · exact n q
    · rw [h1 c q] at h; cases h
  · obtain ⟨o', h'⟩ := a.there c o h
    exact b.there c o' h'
theorem Ext.get (e : Ext μ H μ' H') {l : Nat} {a : Addr} (h : μ[l]? = some a) : μ'[l]? = some a := by
  obtain ⟨ν, rfl, _⟩ := e.pre
  rw [List.getElem?_append_left (List.getElem?_eq_some_iff.mp h).1]
  exact h
/-- of the longer row the shorter one can be taken -/
theorem Ext.shrink {μ1 μ2 : List Addr} {ν1 ν2 : List Addr} (e : Ext μ H μ2 H') (h2 : μ2 = μ ++ ν2) (h1 : μ1 = μ ++ ν1) (hs : ∀ a ∈ ν1, a ∈ ν2) : Ext μ H μ1 H' := by
  obtain ⟨ν, e1, h⟩ := e.pre
  have : ν = ν2 := List.append_cancel_left (e1.symm.trans h2)
  subst this
  exact ⟨⟨ν1, h1, fun a ha => h a (hs a ha)⟩, e.tup, e.frz, e.all, e.there⟩

/-! ### readable things stay -/
theorem rd_kp (e : Ext μ H μ' H') {a : Addr} {xs : List V} (h : Rd H a (.tup xs)) : Rd H' a (.tup xs) := by
  rcases h with h | ⟨o, h⟩
  · exact .inl (e.tup a xs h)
  · exact .inr ⟨o, e.frz a o _ h⟩
theorem sqT_kp (e : Ext μ H μ' H') {a : Addr} {xs : List V} (h : SqT K H a xs) : SqT K H' a xs := by
  rcases h with h | h
  · exact .inl (rd_kp e h)
  · exact .inr h
theorem RL.ext (e : Ext μ H μ' H') {a : Addr} {xs : List V} (h : RL K H a xs) : RL K H' a xs := by
  rcases h with ⟨o, h⟩ | h
  · exact .inl ⟨o, e.frz a o _ h⟩
  · exact .inr h
mutual
theorem VR.ext (e : Ext μ H μ' H') : ∀ {x : V} {v : PV}, VR K μ H x v → VR K μ' H' x v
  | _, _, .non => .non
  | _, _, .bl b => .bl b
  | _, _, .int i => .int i
  | _, _, .str x h => .str x h
  | _, _, .tup h r => .tup (sqT_kp e h) (VRs.ext e r)
  | _, _, .ref h => .ref (e.get h)
  | _, _, .fl h r => .fl (h.ext e) (VRs.ext e r)
theorem VRs.ext (e : Ext μ H μ' H') : ∀ {xs : List V} {vs : List PV}, VRs K μ H xs vs → VRs K μ' H' xs vs
  | _, _, .nil => .nil
  | _, _, .cons h r => .cons (VR.ext e h) (VRs.ext e r)
end
theorem ERs.ext (e : Ext μ H μ' H') : ∀ {r : RawT} {kvs : List (PV × PV)}, ERs K μ H r kvs → ERs K μ' H' r kvs
  | _, _, .nil => .nil
  | _, _, .cons a b c d r => .cons a (b.ext e) c (d.ext e) (ERs.ext e r)
theorem FRs.ext (e : Ext μ H μ' H') : ∀ {r : List (Key × V)} {kvs : List (PV × PV)}, FRs K μ H r kvs → FRs K μ' H' r kvs
  | _, _, .nil => .nil
  | _, _, .cons a d r => .cons a (d.ext e) (FRs.ext e r)
theorem DR.ext (e : Ext μ H μ' H') {a : Addr} {o : HO} {kvs : List (PV × PV)} (h : DR P w K μ H a o kvs) : DR P w K μ' H' a o kvs := by
  rcases h with ⟨raw, e1, h, z⟩ | ⟨fs, e1, h⟩
  · exact .inl ⟨raw, e1, h.ext e, z⟩
  · exact .inr ⟨fs, e1, h.ext e⟩
/-- an object whose place is as it was -/
theorem OR.ext (e : Ext μ H μ' H') {a : Addr} {o : PO} (h : OR P w K μ H a o) (ha : H' a = H a) : OR P w K μ' H' a o := by
  cases o with
  | lst vs => obtain ⟨xs, h1, h2⟩ := h; exact ⟨xs, ha.trans h1, h2.ext e⟩
  | dct kvs => obtain ⟨o, h1, h2⟩ := h; exact ⟨o, ha.trans h1, h2.ext e⟩
  | lkd kvs => obtain ⟨od, o, h1, h2⟩ := h; exact ⟨od, o, ha.trans h1, h2.ext e⟩
theorem ER.ext (e : Ext μ H μ' H') {env : Env} {σ : L2.St} (h : ER K μ H env σ) : ER K μ' H' env σ := fun i v hi => by
  obtain ⟨x, h1, h2⟩ := h i v hi
  exact ⟨x, h1, h2.ext e⟩

/-! ### rows of values -/
theorem VRs.len : ∀ {xs : List V} {vs : List PV}, VRs K μ H xs vs → xs.length = vs.length
  | _, _, .nil => rfl
  | _, _, .cons _ r => congrArg (· + 1) r.len
theorem VRs.get : ∀ {xs : List V} {vs : List PV}, VRs K μ H xs vs → ∀ {i : Nat} {x : V}, xs[i]? = some x → ∃ v, vs[i]? = some v ∧ VR K μ H x v
  | _, _, .nil, i, x, h => by simp at h
  | _, _, .cons (v := v) a r, 0, x, h => ⟨v, rfl, by simp at h; rw [← h]; exact a⟩
  | _, _, .cons a r, i + 1, x, h => by
    obtain ⟨v, h1, h2⟩ := VRs.get r (i := i) (x := x) (by simpa using h)
    exact ⟨v, by simpa using h1, h2⟩
theorem VRs.get' : ∀ {xs : List V} {vs : List PV}, VRs K μ H xs vs → ∀ {i : Nat} {v : PV}, vs[i]? = some v → ∃ x, xs[i]? = some x ∧ VR K μ H x v
  | _, _, .nil, i, x, h => by simp at h
  | _, _, .cons (x := x) a r, 0, v, h => ⟨x, rfl, by simp at h; rw [← h]; exact a⟩
  | _, _, .cons a r, i + 1, x, h => by
    obtain ⟨v, h1, h2⟩ := VRs.get' r (i := i) (v := x) (by simpa using h)
    exact ⟨v, by simpa using h1, h2⟩
theorem VRs.append : ∀ {xs ys : List V} {vs us : List PV}, VRs K μ H xs vs → VRs K μ H ys us → VRs K μ H (xs ++ ys) (vs ++ us)
  | _, _, _, _, .nil, s => s
  | _, _, _, _, .cons a r, s => .cons a (VRs.append r s)
theorem VRs.take : ∀ (n : Nat) {xs : List V} {vs : List PV}, VRs K μ H xs vs → VRs K μ H (xs.take n) (vs.take n)
  | 0, _, _, _ => by simp; exact .nil
  | n + 1, _, _, .nil => by simp; exact .nil
  | n + 1, _, _, .cons a r => .cons a (VRs.take n r)
theorem VRs.drop : ∀ (n : Nat) {xs : List V} {vs : List PV}, VRs K μ H xs vs → VRs K μ H (xs.drop n) (vs.drop n)
  | 0, _, _, r => r
  | n + 1, _, _, .nil => .nil
  | n + 1, _, _, .cons a r => VRs.drop n r
theorem VRs.set {x : V} {v : PV} (a : VR K μ H x v) : ∀ {xs : List V} {vs : List PV} (i : Nat), VRs K μ H xs vs → VRs K μ H (xs.set i x) (vs.set i v)
  | _, _, _, .nil => .nil
  | _, _, 0, .cons _ r => .cons a r
  | _, _, i + 1, .cons b r => .cons b (VRs.set a i r)
theorem VRs.snoc {x : V} {v : PV} {xs : List V} {vs : List PV} (r : VRs K μ H xs vs) (a : VR K μ H x v) : VRs K μ H (xs ++ [x]) (vs ++ [v]) := r.append (.cons a .nil)

/-! ### references below a number -/
mutual
theorem VR.low : ∀ {x : V} {v : PV}, VR K μ H x v → PV.rb μ.length v = true
  | _, _, .non => rfl
  | _, _, .bl _ => rfl
  | _, _, .int _ => rfl
  | _, _, .str _ _ => rfl
  | _, _, .tup _ r => by rw [PV.rb]; exact VRs.low r
  | _, _, .ref h => by rw [PV.rb]; exact decide_eq_true (List.getElem?_eq_some_iff.mp h).1
  | _, _, .fl _ r => by rw [PV.rb]; exact VRs.low r
theorem VRs.low : ∀ {xs : List V} {vs : List PV}, VRs K μ H xs vs → PV.rbs μ.length vs = true
  | _, _, .nil => rfl
  | _, _, .cons a r => by rw [PV.rbs, VR.low a, VRs.low r]; rfl
end
mutual
theorem VR.shrink {ν : List Addr} : ∀ {x : V} {v : PV}, VR K (μ ++ ν) H x v → PV.rb μ.length v = true → VR K μ H x v
  | _, _, .non, _ => .non
  | _, _, .bl b, _ => .bl b
  | _, _, .int i, _ => .int i
  | _, _, .str x h, _ => .str x h
  | _, _, .tup h r, q => .tup h (VRs.shrink r (by rwa [PV.rb] at q))
  | _, _, .ref h, q => .ref (by
    rw [PV.rb] at q
    rwa [List.getElem?_append_left (of_decide_eq_true q)] at h)
  | _, _, .fl h r, q => .fl h (VRs.shrink r (by rwa [PV.rb] at q))
theorem VRs.shrink {ν : List Addr} : ∀ {xs : List V} {vs : List PV}, VRs K (μ ++ ν) H xs vs → PV.rbs μ.length vs = true → VRs K μ H xs vs
  | _, _, .nil, _ => .nil
  | _, _, .cons a r, q => by
    rw [PV.rbs, Bool.and_eq_true] at q
    exact .cons (VR.shrink a q.1) (VRs.shrink r q.2)
end
theorem ERs.shrink {ν : List Addr} : ∀ {r : RawT} {kvs : List (PV × PV)}, ERs K (μ ++ ν) H r kvs → (∀ p ∈ kvs, p.1.rb μ.length = true ∧ p.2.rb μ.length = true) → ERs K μ H r kvs
  | _, _, .nil, _ => .nil
  | _, _, .cons a b c d r, q => .cons a (b.shrink (q _ List.mem_cons_self).1) c (d.shrink (q _ List.mem_cons_self).2) (ERs.shrink r fun p hp => q p (List.mem_cons_of_mem _ hp))
theorem FRs.shrink {ν : List Addr} : ∀ {r : List (Key × V)} {kvs : List (PV × PV)}, FRs K (μ ++ ν) H r kvs → (∀ p ∈ kvs, p.1.rb μ.length = true ∧ p.2.rb μ.length = true) → FRs K μ H r kvs
  | _, _, .nil, _ => .nil
  | _, _, .cons a d r, q => .cons a (d.shrink (q _ List.mem_cons_self).2) (FRs.shrink r fun p hp => q p (List.mem_cons_of_mem _ hp))
theorem DR.shrink {ν : List Addr} {a : Addr} {o : HO} {kvs : List (PV × PV)} (h : DR P w K (μ ++ ν) H a o kvs) (q : ∀ p ∈ kvs, p.1.rb μ.length = true ∧ p.2.rb μ.length = true) : DR P w K μ H a o kvs := by
  rcases h with ⟨raw, e1, h, z⟩ | ⟨fs, e1, h⟩
  · exact .inl ⟨raw, e1, h.shrink q, z⟩
  · exact .inr ⟨fs, e1, h.shrink q⟩
theorem OR.shrink {ν : List Addr} {a : Addr} {o : PO} (h : OR P w K (μ ++ ν) H a o) (q : PO.rb μ.length o = true) : OR P w K μ H a o := by
  have pr : ∀ {kvs : List (PV × PV)}, (kvs.all fun p => p.1.rb μ.length && p.2.rb μ.length) = true → ∀ p ∈ kvs, p.1.rb μ.length = true ∧ p.2.rb μ.length = true := fun h p hp => by
    have := List.all_eq_true.mp h p hp
    rwa [Bool.and_eq_true] at this
  cases o with
  | lst vs => obtain ⟨xs, h1, h2⟩ := h; exact ⟨xs, h1, h2.shrink q⟩
  | dct kvs => obtain ⟨o, h1, h2⟩ := h; exact ⟨o, h1, h2.shrink (pr q)⟩
  | lkd kvs => obtain ⟨od, o, h1, h2⟩ := h; exact ⟨od, o, h1, h2.shrink (pr q)⟩
theorem VR.rbMono : ∀ {n m : Nat} {v : PV}, n ≤ m → PV.rb n v = true → PV.rb m v = true := by
  intro n m v hnm
  induction v using PV.rec (motive_2 := fun vs => PV.rbs n vs = true → PV.rbs m vs = true) with
  | non => intro _; rfl
  | bl _ => intro _; rfl
  | int _ => intro _; rfl
  | str _ => intro _; rfl
  | ref l => intro h; rw [PV.rb] at h ⊢; exact decide_eq_true (Nat.lt_of_lt_of_le (of_decide_eq_true h) hnm)
  | tup xs ih => intro h; rw [PV.rb] at h ⊢; exact ih h
  | fl xs ih => intro h; rw [PV.rb] at h ⊢; exact ih h
  | nil => rfl
  | cons x xs ih1 ih2 =>
    rename_i h
    rw [PV.rbs, Bool.and_eq_true] at h ⊢
    exact ⟨ih1 h.1, ih2 h.2⟩
theorem OR.low {a : Addr} {o : PO} (h : OR P w K μ H a o) : PO.rb μ.length o = true := by
  have e1 : ∀ {r : RawT} {kvs : List (PV × PV)}, ERs K μ H r kvs → (kvs.all fun p => p.1.rb μ.length && p.2.rb μ.length) = true := by
    intro r kvs h
    induction h with
    | nil => rfl
    | cons _ b _ d _ ih => rw [List.all_cons, b.low, d.low, ih]; rfl
  have e2 : ∀ {r : List (Key × V)} {kvs : List (PV × PV)}, FRs K μ H r kvs → (kvs.all fun p => p.1.rb μ.length && p.2.rb μ.length) = true := by
    intro r kvs h
    induction h with
    | nil => rfl
    | cons a d _ ih =>
      rename_i k v x r kvs _
      rw [List.all_cons, d.low, ih]
      cases k <;> first | rfl | (have a := a.1; simp [flatK] at a)
  have e3 : ∀ {o : HO} {kvs : List (PV × PV)}, DR P w K μ H a o kvs → (kvs.all fun p => p.1.rb μ.length && p.2.rb μ.length) = true := fun h => by
    rcases h with ⟨_, _, h, _⟩ | ⟨_, _, h⟩
    · exact e1 h
    · exact e2 h
  cases o with
  | lst vs => obtain ⟨xs, h1, h2⟩ := h; exact h2.low
  | dct kvs => obtain ⟨o, h1, h2⟩ := h; exact e3 h2
  | lkd kvs => obtain ⟨od, o, h1, h2⟩ := h; exact e3 h2
end
end PL
set_option autoImplicit false
set_option linter.all false
set_option maxRecDepth 20000
/-! PlHeap: steps of the heap: something new is laid, an object is written, what nobody holds is thrown away. -/
namespace PL
open PySem PySem.Spec PyProof.Rows L2
section
variable {P : Program} {w : World} {K : PySem.W.Frag} {μ μ' μ'' : List Addr} {H H' H'' : Hp} {T : List (Addr × Str)} {hp hp' : Hv}

theorem upd_kept {p : Addr} {o : HO} (h : H p = none) : ∀ b u, H b = some u → L2.upd H p o b = some u := fun b u e => by
  rw [upd_ne (ne_of_none e h)]; exact e
theorem Ext.fresh {p : Addr} {o : HO} (h : H p = none) : Ext μ H μ (L2.upd H p o) :=
  ⟨⟨[], by simp⟩, fun b xs e => upd_kept h b _ e, fun b u v e => upd_kept h b _ e, fun b u e _ _ => upd_kept h b _ e, fun b u e => ⟨u, upd_kept h b _ e⟩⟩
theorem Ext.new {p : Addr} {o : HO} (h : H p = none) : Ext μ H (μ ++ [p]) (L2.upd H p o) :=
  ⟨⟨[p], rfl, fun a ha => by rw [List.mem_singleton.mp ha]; exact h⟩, fun b xs e => upd_kept h b _ e, fun b u v e => upd_kept h b _ e, fun b u e _ _ => upd_kept h b _ e, fun b u e => ⟨u, upd_kept h b _ e⟩⟩
/-- an object whose tracked place is as it was -/
theorem OR.keep (e : Ext μ H μ' H') {a : Addr} {o : PO} (h : OR P w K μ H a o) (ha : ∀ u, H a = some u → H' a = some u) : OR P w K μ' H' a o := by
  cases o with
  | lst vs => obtain ⟨xs, h1, h2⟩ := h; exact ⟨xs, ha _ h1, h2.ext e⟩
  | dct kvs => obtain ⟨o, h1, h2⟩ := h; exact ⟨o, ha _ h1, h2.ext e⟩
  | lkd kvs => obtain ⟨od, o, h1, h2⟩ := h; exact ⟨od, o, ha _ h1, h2.ext e⟩
/-- nothing is written -/
theorem HR.fresh {p : Addr} {o : HO} (R : HR P w K μ H T hp) (h : H p = none) : HR P w K μ (L2.upd H p o) T hp :=
  ⟨fun l q e => by
    obtain ⟨a, h1, h2⟩ := R.obj l q e
    exact ⟨a, h1, h2.keep (Ext.fresh h) (upd_kept h a)⟩, R.nd, R.len, R.tab.ext (upd_kept h)⟩
theorem HR.lt (R : HR P w K μ H T hp) {l : Nat} {o : PO} (e : hp[l]? = some o) : l < hp.length := (List.getElem?_eq_some_iff.mp e).1
/-- a new object -/
theorem HR.new {p : Addr} {o : HO} {q : PO} (R : HR P w K μ H T hp) (h : H p = none) (hq : OR P w K (μ ++ [p]) (L2.upd H p o) p q) (hn : p ∉ μ) : HR P w K (μ ++ [p]) (L2.upd H p o) T (hp ++ [q]) := by
  refine ⟨fun l u e => ?_, ?_, by simp [R.len], R.tab.ext (upd_kept h)⟩
  · by_cases hl : l < hp.length
    · rw [List.getElem?_append_left hl] at e
      obtain ⟨a, h1, h2⟩ := R.obj l u e
      exact ⟨a, (Ext.new (o := o) h).get h1, h2.keep (Ext.new h) (upd_kept h a)⟩
    · have hl' : l < (hp ++ [q]).length := (List.getElem?_eq_some_iff.mp e).1
      have : l = hp.length := by simp at hl'; omega
      subst this
      rw [List.getElem?_append_right (Nat.le_refl _)] at e
      simp at e
      subst e
      exact ⟨p, by rw [← R.len]; simp, hq⟩
  · rw [List.nodup_append]
    refine ⟨R.nd, by simp, fun a ha b hb => ?_⟩
    rw [List.mem_singleton.mp hb]
    exact fun z => hn (z ▸ ha)
/-- an address of the heap's own is tracked (or an object of the module) -/
theorem HR.mem_lst (R : HR P w K μ H T hp) {l : Nat} {xs : List PV} (e : hp[l]? = some (.lst xs)) : ∃ a ys, μ[l]? = some a ∧ H a = some (.lst ys) ∧ VRs K μ H ys xs := by
  obtain ⟨a, h1, ys, h2, h3⟩ := R.obj l _ e
  exact ⟨a, ys, h1, h2, h3⟩
/-- a place that may be written -/
def Wr (a : Addr) (o : HO) : Prop := (∀ xs, o ≠ .tup xs) ∧ (∀ u v, o ≠ .frz u v) ∧ (∀ ps, o ≠ .tbl ps) ∧ ∀ x, o ≠ LamX.CodeO a x
theorem Wr.ne {a : Addr} {o o' : HO} (ho : H a = some o) (b : Addr) (u : HO) (e : H b = some u) (z : u ≠ o) : L2.upd H a o' b = some u := by
  rw [upd_ne (fun q => z (by rw [q, ho] at e; exact (Option.some.inj e).symm))]; exact e
theorem Ext.write {a : Addr} {o o' : HO} (am : a ∈ μ) (ho : H a = some o) (n : Wr a o) : Ext μ H μ (L2.upd H a o') := by
  obtain ⟨n1, n2, n3, n4⟩ := n
  refine ⟨⟨[], by simp⟩, fun b xs e => Wr.ne ho b _ e (fun z => n1 xs z.symm), fun b u v e => Wr.ne ho b _ e (fun z => n2 u v z.symm), fun b u e n _ => ?_, fun b u e => ?_⟩
  · rw [upd_ne (show b ≠ a from fun z => n (by rw [z]; exact am))]; exact e
  · by_cases hb : b = a
    · exact ⟨o', by rw [hb, upd_same]⟩
    · exact ⟨u, by rw [upd_ne hb]; exact e⟩
/-- an object is written -/
theorem HR.write {l : Nat} {a : Addr} {o o' : HO} {q q' : PO} (R : HR P w K μ H T hp) (e : hp[l]? = some q) (ea : μ[l]? = some a) (ho : H a = some o) (n : Wr a o)
    (hq : Ext μ H μ (L2.upd H a o') → OR P w K μ (L2.upd H a o') a q') : Ext μ H μ (L2.upd H a o') ∧ HR P w K μ (L2.upd H a o') T (PL.upd hp l q') := by
  have am : a ∈ μ := List.mem_of_getElem? ea
  have X : Ext μ H μ (L2.upd H a o') := Ext.write am ho n
  obtain ⟨n1, n2, n3, n4⟩ := n
  refine ⟨X, ⟨fun j u ej => ?_, R.nd, by simp [PL.upd, R.len], fun p hp => ?_⟩⟩
  · unfold PL.upd at ej
    by_cases hj : j = l
    · subst hj
      rw [List.getElem?_set_self (R.lt e)] at ej
      cases ej
      exact ⟨a, ea, hq X⟩
    · rw [List.getElem?_set_ne (Ne.symm hj)] at ej
      obtain ⟨b, h1, h2⟩ := R.obj j u ej
      refine ⟨b, h1, h2.keep X fun v hv => ?_⟩
      have nb : b ≠ a := fun z => by
        subst z
        obtain ⟨i1, g1⟩ := List.getElem?_eq_some_iff.mp h1
        obtain ⟨i2, g2⟩ := List.getElem?_eq_some_iff.mp ea
        exact hj ((List.getElem_inj R.nd).mp (g1.trans g2.symm))
      rw [upd_ne nb]; exact hv
  · obtain ⟨ps, t1, t2, t3⟩ := R.tab p hp
    refine ⟨ps, Wr.ne ho _ _ t1 (fun z => n3 ps z.symm), t2, fun pos cv hc => ?_⟩
    obtain ⟨c, c1, c2⟩ := t3 pos cv hc
    refine ⟨c, c1, ?_⟩
    by_cases hc : c = a
    · subst hc
      rw [c2] at ho
      exact absurd (Option.some.inj ho).symm (n4 _)
    · rw [upd_ne hc]; exact c2

/-! ### what is thrown away -/
mutual
theorem VR.app {ν : List Addr} : ∀ {x : V} {v : PV}, VR K μ H x v → VR K (μ ++ ν) H x v
  | _, _, .non => .non
  | _, _, .bl b => .bl b
  | _, _, .int i => .int i
  | _, _, .str x h => .str x h
  | _, _, .tup h r => .tup h (VRs.app r)
  | _, _, .ref h => .ref (by rw [List.getElem?_append_left (List.getElem?_eq_some_iff.mp h).1]; exact h)
  | _, _, .fl h r => .fl h (VRs.app r)
theorem VRs.app {ν : List Addr} : ∀ {xs : List V} {vs : List PV}, VRs K μ H xs vs → VRs K (μ ++ ν) H xs vs
  | _, _, .nil => .nil
  | _, _, .cons a r => .cons (VR.app a) (VRs.app r)
end
theorem ERs.app {ν : List Addr} : ∀ {r : RawT} {kvs : List (PV × PV)}, ERs K μ H r kvs → ERs K (μ ++ ν) H r kvs
  | _, _, .nil => .nil
  | _, _, .cons a b c d r => .cons a b.app c d.app (ERs.app r)
theorem FRs.app {ν : List Addr} : ∀ {r : List (Key × V)} {kvs : List (PV × PV)}, FRs K μ H r kvs → FRs K (μ ++ ν) H r kvs
  | _, _, .nil => .nil
  | _, _, .cons a d r => .cons a d.app (FRs.app r)
theorem DR.app {ν : List Addr} {a : Addr} {o : HO} {kvs : List (PV × PV)} (h : DR P w K μ H a o kvs) : DR P w K (μ ++ ν) H a o kvs := by
  rcases h with ⟨raw, e1, h, z⟩ | ⟨fs, e1, h⟩
  · exact .inl ⟨raw, e1, h.app, z⟩
  · exact .inr ⟨fs, e1, h.app⟩
theorem OR.app {ν : List Addr} {a : Addr} {o : PO} (h : OR P w K μ H a o) : OR P w K (μ ++ ν) H a o := by
  cases o with
  | lst vs => obtain ⟨xs, h1, h2⟩ := h; exact ⟨xs, h1, h2.app⟩
  | dct kvs => obtain ⟨o, h1, h2⟩ := h; exact ⟨o, h1, h2.app⟩
  | lkd kvs => obtain ⟨od, o, h1, h2⟩ := h; exact ⟨od, o, h1, h2.app⟩

theorem clean_at {n : Nat} : ∀ {old new : Hv}, clean n old new = true → ∀ {l : Nat} {o p : PO}, old[l]? = some o → new[l]? = some p → p = o ∨ PO.rb n p = true
  | [], _, _, l, o, p, h, _ => by simp at h
  | _ :: _, [], h, _, _, _, _, _ => by simp [clean] at h
  | o :: os, p :: ps, h, 0, o', p', h1, h2 => by
    rw [clean, Bool.and_eq_true, Bool.or_eq_true] at h
    simp at h1 h2
    subst h1 h2
    rcases h.1 with h | h
    · exact .inl (PO.beq_eq _ _ h)
    · exact .inr h
  | o :: os, p :: ps, h, l + 1, o', p', h1, h2 => by
    rw [clean, Bool.and_eq_true] at h
    exact clean_at h.2 (l := l) (by simpa using h1) (by simpa using h2)
theorem clean_len {n : Nat} : ∀ {old new : Hv}, clean n old new = true → old.length ≤ new.length
  | [], _, _ => Nat.zero_le _
  | _ :: _, [], h => by simp [clean] at h
  | o :: os, p :: ps, h => by
    rw [clean, Bool.and_eq_true] at h
    exact Nat.succ_le_succ (clean_len h.2)
/-- the heap as it was long, with what was changed of it -/
theorem HR.cut (R : HR P w K μ H T hp) (E : Ext μ H μ' H') (R' : HR P w K μ' H' T hp') (c : clean hp.length hp hp' = true) : Ext μ H μ H' ∧ HR P w K μ H' T (hp'.take hp.length) := by
  obtain ⟨ν, e, hν⟩ := E.pre
  subst e
  have E0 : Ext μ H μ H' := E.shrink (ν1 := []) (ν2 := ν) rfl (by simp) (by simp)
  refine ⟨E0, fun l o h => ?_, R.nd, by rw [List.length_take, Nat.min_eq_left (clean_len c)]; exact R.len, R'.tab⟩
  rw [List.getElem?_take] at h
  split at h
  · rename_i hl
    obtain ⟨a, h1, h2⟩ := R'.obj l o h
    rw [List.getElem?_append_left (by rw [R.len]; exact hl)] at h1
    refine ⟨a, h1, h2.shrink ?_⟩
    rcases clean_at c (List.getElem?_eq_getElem hl) h with q | q
    · subst q
      obtain ⟨b, _, h4⟩ := R.obj l _ (List.getElem?_eq_getElem hl)
      exact h4.low
    · rw [R.len]; exact q
  · cases h
theorem gcE_ok {env : Env} {σ : L2.St} (R : HR P w K μ H T hp) (E : Ext μ H μ' H') (R' : HR P w K μ' H' T hp') (hE : ER K μ' H' env σ) : ∃ μ2, Ext μ H μ2 H' ∧ HR P w K μ2 H' T (gcE env hp hp') ∧ ER K μ2 H' env σ := by
  unfold gcE
  split
  · rename_i c
    rw [Bool.and_eq_true] at c
    obtain ⟨E0, R0⟩ := R.cut E R' c.2
    refine ⟨μ, E0, R0, fun i v h => ?_⟩
    obtain ⟨x, h1, h2⟩ := hE i v h
    obtain ⟨ν, e, _⟩ := E.pre
    subst e
    refine ⟨x, h1, h2.shrink ?_⟩
    have := List.all_eq_true.mp c.1 _ (List.mem_of_getElem? h)
    rw [R.len]; exact this
  · exact ⟨μ', E, R', hE⟩
theorem gcR_ok {x : V} {v : PV} (R : HR P w K μ H T hp) (E : Ext μ H μ' H') (R' : HR P w K μ' H' T hp') (hv : VR K μ' H' x v) : ∃ μ2, Ext μ H μ2 H' ∧ HR P w K μ2 H' T (gcR v hp hp').2 ∧ VR K μ2 H' x (gcR v hp hp').1 := by
  have same : ∃ μ2, Ext μ H μ2 H' ∧ HR P w K μ2 H' T hp' ∧ VR K μ2 H' x v := ⟨μ', E, R', hv⟩
  obtain ⟨ν, e, hν⟩ := E.pre
  have plain : PV.rb hp.length v = true → clean hp.length hp hp' = true → ∃ μ2, Ext μ H μ2 H' ∧ HR P w K μ2 H' T (hp'.take hp.length) ∧ VR K μ2 H' x v := fun c1 c2 => by
    obtain ⟨E0, R0⟩ := R.cut E R' c2
    exact ⟨μ, E0, R0, by subst e; exact hv.shrink (by rw [R.len]; exact c1)⟩
  have gen : ∀ z : PV × Hv, z = (if PV.rb hp.length v && clean hp.length hp hp' then (v, hp'.take hp.length) else (v, hp')) → ∃ μ2, Ext μ H μ2 H' ∧ HR P w K μ2 H' T z.2 ∧ VR K μ2 H' x z.1 := fun z hz => by
    subst hz
    split
    · rename_i c
      rw [Bool.and_eq_true] at c
      exact plain c.1 c.2
    · exact same
  cases v with
  | non => exact gen _ rfl
  | bl b => exact gen _ rfl
  | int i => exact gen _ rfl
  | str s => exact gen _ rfl
  | tup vs => exact gen _ rfl
  | fl vs => exact gen _ rfl
  | ref l =>
    show ∃ μ2, Ext μ H μ2 H' ∧ HR P w K μ2 H' T (gcR (.ref l) hp hp').2 ∧ VR K μ2 H' x (gcR (.ref l) hp hp').1
    simp only [gcR]
    split
    · rename_i hl
      split
      · rename_i c
        exact plain (by rw [PV.rb]; exact decide_eq_true hl) c
      · exact same
    · rename_i hl
      split
      · rename_i o ho
        split
        · rename_i c
          rw [Bool.and_eq_true] at c
          obtain ⟨a, h1, h2⟩ := R'.obj l o ho
          obtain ⟨E0, R0⟩ := R.cut E R' c.2
          subst e
          have hlm : μ.length ≤ l := by rw [R.len]; omega
          have h1' := h1
          rw [List.getElem?_append_right hlm] at h1'
          have am : a ∈ ν := List.mem_of_getElem? h1'
          have anm : a ∉ μ := fun z => by
            have nd := R'.nd
            rw [List.nodup_append] at nd
            exact nd.2.2 a z a am rfl
          have E1 : Ext μ H (μ ++ [a]) H' := E.shrink (ν1 := [a]) (ν2 := ν) rfl rfl (by simpa using am)
          have E2 : Ext μ H' (μ ++ [a]) H' → True := fun _ => trivial
          have ho' : OR P w K μ H' a o := h2.shrink (by rw [R.len]; exact c.1)
          have up : ∀ {b : Addr} {q : PO}, OR P w K μ H' b q → OR P w K (μ ++ [a]) H' b q := fun z => z.app
          obtain rfl : x = V.ref a := by
            cases hv with
            | ref q => rw [q] at h1; cases h1; rfl
          refine ⟨μ ++ [a], E1, ⟨fun j q ej => ?_, ?_, by simp [R0.len, R.len], R'.tab⟩, .ref ?_⟩
          · have ej : (hp'.take hp.length ++ [o])[j]? = some q := ej
            by_cases hj : j < (hp'.take hp.length).length
            · rw [List.getElem?_append_left hj] at ej
              obtain ⟨b, g1, g2⟩ := R0.obj j q ej
              exact ⟨b, by rw [List.getElem?_append_left (List.getElem?_eq_some_iff.mp g1).1]; exact g1, up g2⟩
            · rw [List.getElem?_append_right (by omega)] at ej
              have ej0 : j - (hp'.take hp.length).length = 0 := by
                have := (List.getElem?_eq_some_iff.mp ej).1
                simp at this ⊢; omega
              rw [ej0] at ej
              simp at ej
              subst ej
              have jl : j = μ.length := by
                have := R0.len
                omega
              exact ⟨a, by rw [jl]; simp, up ho'⟩
          · rw [List.nodup_append]
            refine ⟨R.nd, by simp, fun b hb c hc => ?_⟩
            rw [List.mem_singleton.mp hc]
            exact fun z => anm (z ▸ hb)
          · show (μ ++ [a])[hp.length]? = some a
            rw [← R.len]; simp
        · exact same
      · exact same
end
end PL
set_option autoImplicit false
set_option linter.all false
set_option maxRecDepth 20000
set_option maxHeartbeats 1000000
/-! PlOps: each operation of the evaluator is what the machine does. -/
namespace PL
open PySem PySem.Spec PyProof.Rows L2

/-- what is wanted of a value and a heap behind a step -/
def Post (P : Program) (w : World) (K : PySem.W.Frag) (T : List (Addr × Str)) (μ : List Addr) (H : Hp) (hp' : Hv) (v : PV) (Q : VK) : Prop :=
  ∀ μ' x H', Ext μ H μ' H' → HR P w K μ' H' T hp' → VR K μ' H' x v → Q x H'
section
variable (P : Program) (w : World) (K : PySem.W.Frag) (T : List (Addr × Str))
/-- an operation of two values -/
def rO2 (g : PV → PV → Hv → R PV) : R2 := fun x y H Q => ∃ μ hp u v r hp', HR P w K μ H T hp ∧ VR K μ H x u ∧ VR K μ H y v ∧ g u v hp = .ok (r, hp') ∧ Post P w K T μ H hp' r Q
def rO1 (g : PV → Hv → R PV) : V → Hp → VK → Prop := fun x H Q => ∃ μ hp u r hp', HR P w K μ H T hp ∧ VR K μ H x u ∧ g u hp = .ok (r, hp') ∧ Post P w K T μ H hp' r Q
def rOs (g : List PV → Hv → R PV) : List V → Hp → VK → Prop := fun xs H Q => ∃ μ hp us r hp', HR P w K μ H T hp ∧ VRs K μ H xs us ∧ g us hp = .ok (r, hp') ∧ Post P w K T μ H hp' r Q
def rOm (g : PV → List PV → Hv → R PV) : V → List V → Hp → VK → Prop := fun x xs H Q => ∃ μ hp u us r hp', HR P w K μ H T hp ∧ VR K μ H x u ∧ VRs K μ H xs us ∧ g u us hp = .ok (r, hp') ∧ Post P w K T μ H hp' r Q
end
section
variable {P : Program} {w : World} {K : PySem.W.Frag} {μ : List Addr} {H : Hp} {T : List (Addr × Str)} {hp hp' : Hv} {Q : VK}
/-- a value of no place -/
theorem Post.val {v : PV} {x : V} (p : Post P w K T μ H hp v Q) (R : HR P w K μ H T hp) (r : VR K μ H x v) : Q x H := p μ x H Ext.refl R r
/-- a new tuple -/
theorem Post.tup {xs : List V} {vs : List PV} {a : Addr} (p : Post P w K T μ H hp (.tup vs) Q) (R : HR P w K μ H T hp) (r : VRs K μ H xs vs) (h : H a = none) : Q (.ref a) (L2.upd H a (.tup xs)) :=
  p μ _ _ (Ext.fresh h) (R.fresh h) (.tup (.inl (.inl upd_same)) (r.ext (Ext.fresh h)))
/-- an address that is tracked is no new one -/
theorem HR.nmem (R : HR P w K μ H T hp) {a : Addr} (h : H a = none) : a ∉ μ := fun hm => by
  obtain ⟨i, hi, e⟩ := List.getElem_of_mem hm
  have hl : i < hp.length := by rw [← R.len]; exact hi
  obtain ⟨b, h1, h2⟩ := R.obj i _ (List.getElem?_eq_getElem hl)
  rw [List.getElem?_eq_getElem hi, e] at h1
  cases h1
  generalize hp[i] = o at h2
  cases o with
  | lst vs => obtain ⟨xs, h3, _⟩ := h2; rw [h] at h3; cases h3
  | dct kvs => obtain ⟨o, h3, _⟩ := h2; rw [h] at h3; cases h3
  | lkd kvs => obtain ⟨od, o, h3, _⟩ := h2; rw [h] at h3; cases h3
/-- a new list -/
theorem Post.lst {xs : List V} {vs : List PV} {a : Addr} (p : Post P w K T μ H (hp ++ [.lst vs]) (.ref hp.length) Q) (R : HR P w K μ H T hp) (r : VRs K μ H xs vs) (h : H a = none) : Q (.ref a) (L2.upd H a (.lst xs)) := by
  have q : OR P w K (μ ++ [a]) (L2.upd H a (.lst xs)) a (.lst vs) := ⟨xs, upd_same, r.ext (Ext.new h)⟩
  exact p _ _ _ (Ext.new h) (R.new h q (R.nmem h)) (.ref (by rw [← R.len]; simp))
end
end PL
set_option autoImplicit false
set_option linter.all false
set_option maxRecDepth 20000
set_option maxHeartbeats 1000000
/-! PlOps2: arithmetic, slices, subscripts. -/
namespace PL
open PySem PySem.Spec PyProof.Rows L2
theorem line_eq : line = sizeLine := by rw [sizeLine_eq]; rfl
section
variable {X : Cx} {T : List (Addr × Str)}
theorem foldl_rep (c : Array Nat) : ∀ (n : Nat) (a : Array Nat), (List.replicate n c).foldl (· ++ ·) a = a ++ (List.replicate n c.toList).flatten.toArray
  | 0, a => by simp
  | n + 1, a => by
    rw [List.replicate_succ, List.foldl_cons, foldl_rep c n, List.replicate_succ, List.flatten_cons]
    apply Array.ext'
    simp
theorem tx_len (x : List Nat) : (tx x).length = x.length := by simp [Str.length]
theorem op_mul_strI : OpR X (binaryOp .Mult) (fun x y H Q => ∃ (z : List Nat) (k : Int), x = .str (tx z) ∧ y = .int k ∧ -(2 ^ 62) < k ∧ k < 2 ^ 62 ∧ z.length * k.toNat ≤ sizeLine ∧ Q (.str (tx (repN k.toNat z))) H) := by
  intro pins s σ H x y v u Q I rx ry h
  obtain ⟨z, k, rfl, rfl, h1, h2, h3, q⟩ := h
  obtain ⟨t, rfl⟩ := rx
  obtain ⟨t', rfl⟩ := ry
  have hz := tx_len z
  have hlen : (repN k.toNat z).length = z.length * k.toNat := by
    unfold repN
    rw [List.length_flatten, List.map_replicate, List.sum_replicate_nat, Nat.mul_comm]
  refine PySem.P.mul_str ?_ ?_ ?_ ?_
  · rw [Bool.or_eq_false_iff]; exact ⟨decide_eq_false (by omega), decide_eq_false (by omega)⟩
  · intro hk _ hgt
    rw [hz] at hgt
    have e1 : z.length * k.toNat ≤ 16777216 := by rw [sizeLine_eq] at h3; exact h3
    have e2 : (z.length : Int) * k ≤ 16777216 := by
      have : ((z.length * k.toNat : Nat) : Int) ≤ 16777216 := by
        generalize z.length * k.toNat = m at e1
        omega
      rw [Int.natCast_mul, Int.toNat_of_nonneg (by omega)] at this
      exact this
    have e3 : (z.length : Int) ≤ (2 ^ 63 - 1) / k := by
      rw [Int.le_ediv_iff_mul_le (by omega)]
      omega
    omega
  · intro hk _
    rw [hz]
    exact decide_eq_false (Nat.not_lt.mpr h3)
  · have mk : ∀ (w : Str), w = tx (repN k.toNat z) → (Made.str w).post (EP X pins σ Q) s := fun w e => by
      subst e
      exact ⟨by rw [tx_len, hlen]; exact h3, V.str (tx (repN k.toNat z)), H, I.tok _, ⟨_, rfl⟩, q⟩
    split
    · rename_i hk
      refine mk _ ?_
      have : k.toNat = 0 := by omega
      rw [this]; rfl
    · split
      · rename_i hk hc
        show EP X pins σ Q (.str (tx z) t) s
        refine ⟨V.str (tx z), H, I, ⟨t, rfl⟩, ?_⟩
        have e : repN k.toNat z = z := by
          rw [Bool.or_eq_true, beq_iff_eq, beq_iff_eq] at hc
          rcases hc with hc | hc
          · subst hc; simp [repN]
          · rw [hz] at hc
            have : z = [] := List.eq_nil_of_length_eq_zero hc
            subst this
            unfold repN
            induction k.toNat with
            | zero => rfl
            | succ n ih => rw [List.replicate_succ, List.flatten_cons, ih]; rfl
        rw [e] at q
        exact q
      · refine mk _ ?_
        rw [foldl_rep]
        simp [repN]

/-! ### addition and its kin -/
theorem VR.str_inv {K : PySem.W.Frag} {μ : List Addr} {H : Hp} {x : V} {z : List Nat} (h : VR K μ H x (.str z)) : x = .str (tx z) := by cases h; rfl
theorem VR.str_ok {K : PySem.W.Frag} {μ : List Addr} {H : Hp} {x : V} {z : List Nat} (h : VR K μ H x (.str z)) : okS z := by cases h; assumption
theorem okS.append {x y : List Nat} (h : okS x) (g : okS y) (hl : x.length + y.length ≤ sizeLine) : okS (x ++ y) :=
  ⟨by rw [List.length_append]; exact hl, fun c hc => (List.mem_append.mp hc).elim (h.2 c) (g.2 c)⟩
theorem okS.sub {x y : List Nat} (h : okS x) (hl : y.length ≤ x.length) (hs : ∀ c ∈ y, c ∈ x) : okS y := ⟨Nat.le_trans hl h.1, fun c hc => h.2 c (hs c hc)⟩
theorem okS.rep {x : List Nat} {n : Nat} (h : okS x) (hl : x.length * n ≤ sizeLine) : okS (repN n x) := by
  refine ⟨?_, fun c hc => ?_⟩
  · unfold repN
    rw [List.length_flatten, List.map_replicate, List.sum_replicate_nat, Nat.mul_comm]
    exact hl
  · unfold repN at hc
    obtain ⟨l, hl, hc⟩ := List.mem_flatten.mp hc
    rw [(List.mem_replicate.mp hl).2] at hc
    exact h.2 c hc
theorem VR.int_inv {K : PySem.W.Frag} {μ : List Addr} {H : Hp} {x : V} {z : Int} (h : VR K μ H x (.int z)) : x = .int z := by cases h; rfl
theorem VR.bl_inv {K : PySem.W.Frag} {μ : List Addr} {H : Hp} {x : V} {z : Bool} (h : VR K μ H x (.bl z)) : x = .bl z := by cases h; rfl
theorem VR.non_inv {K : PySem.W.Frag} {μ : List Addr} {H : Hp} {x : V} (h : VR K μ H x .non) : x = .non := by cases h; rfl
theorem VR.tup_inv {K : PySem.W.Frag} {μ : List Addr} {H : Hp} {x : V} {vs : List PV} (h : VR K μ H x (.tup vs)) : ∃ a xs, x = .ref a ∧ SqT K H a xs ∧ VRs K μ H xs vs := by
  cases h with
  | tup h r => exact ⟨_, _, rfl, h, r⟩
theorem VR.ref_inv {K : PySem.W.Frag} {μ : List Addr} {H : Hp} {x : V} {l : Nat} (h : VR K μ H x (.ref l)) : ∃ a, x = .ref a ∧ μ[l]? = some a := by
  cases h with
  | ref h => exact ⟨_, rfl, h⟩
theorem VR.fl_inv {K : PySem.W.Frag} {μ : List Addr} {H : Hp} {x : V} {vs : List PV} (h : VR K μ H x (.fl vs)) : ∃ a xs, x = .ref a ∧ RL K H a xs ∧ VRs K μ H xs vs := by
  cases h with
  | fl h r => exact ⟨_, _, rfl, h, r⟩
/-- the list at l -/
theorem HR.lst_at {P : Program} {w : World} {K : PySem.W.Frag} {μ : List Addr} {H : Hp} {hp : Hv} (R : HR P w K μ H T hp) {l : Nat} {a : Addr} {vs : List PV} (ha : μ[l]? = some a) (e : hp[l]? = some (.lst vs)) : ∃ xs, H a = some (.lst xs) ∧ VRs K μ H xs vs := by
  obtain ⟨b, h1, h2⟩ := R.obj l _ e
  rw [ha] at h1
  cases h1
  exact h2
theorem VRs.nil_iff {K : PySem.W.Frag} {μ : List Addr} {H : Hp} {xs : List V} {vs : List PV} (r : VRs K μ H xs vs) : xs = [] ↔ vs = [] := by
  constructor
  · rintro rfl; cases r; rfl
  · rintro rfl; cases r; rfl
theorem tx_append (x y : List Nat) : tx x ++ tx y = tx (x ++ y) := by
  show Str.append _ _ = _
  simp [Str.append, tx]
theorem oD_add : OpR X (binaryOp .Add) (rO2 X.prog X.w X.K T (evBin .add)) := by
  intro pins s σ H x y v u Q I rx ry h
  obtain ⟨μ, hp, a, b, r, hp', R, va, vb, ev, post⟩ := h
  unfold evBin at ev
  dsimp only at ev
  split at ev
  · cases ev
    rw [va.int_inv] at rx
    rw [vb.int_inv] at ry
    exact op_add pins s σ H _ _ v u Q I rx ry ⟨_, _, rfl, rfl, post.val R (.int _)⟩
  · split at ev
    · rename_i hl
      cases ev
      rw [va.str_inv] at rx
      rw [vb.str_inv] at ry
      exact op_add_str pins s σ H _ _ v u Q I rx ry ⟨_, _, rfl, rfl, by rw [tx_len, tx_len, ← line_eq]; exact hl, by rw [tx_append]; exact post.val R (.str _ (va.str_ok.append vb.str_ok (by rw [← line_eq]; exact hl)))⟩
    · cases ev
  · split at ev
    · rename_i x' y' hl
      cases ev
      obtain ⟨p, xs, rfl, hx, rxs⟩ := va.tup_inv
      obtain ⟨q, ys, rfl, hy, rys⟩ := vb.tup_inv
      refine op_catA pins s σ H _ _ v u Q I rx ry ⟨p, q, xs, ys, rfl, rfl, hx, hy, by rw [rxs.len, rys.len, ← line_eq]; exact hl, fun e => ?_, fun _ e => ?_, fun _ _ c hc => ?_⟩
      · have := rxs.nil_iff.mp e
        subst this
        exact post.val R (.tup hy rys)
      · have := rys.nil_iff.mp e
        subst this
        rw [List.append_nil] at post
        exact post.val R (.tup hx rxs)
      · exact post.tup R (rxs.append rys) hc
    · cases ev
  · split at ev
    · rename_i x' y' e1 e2
      split at ev
      · rename_i hl
        cases ev
        obtain ⟨p, rfl, hp1⟩ := va.ref_inv
        obtain ⟨q, rfl, hq1⟩ := vb.ref_inv
        obtain ⟨xs, hx, rxs⟩ := R.lst_at hp1 e1
        obtain ⟨ys, hy, rys⟩ := R.lst_at hq1 e2
        exact op_cat pins s σ H _ _ v u Q I rx ry ⟨p, q, xs, ys, rfl, rfl, hx, hy, by rw [rxs.len, rys.len, ← line_eq]; exact hl, fun c hc => post.lst R (rxs.append rys) hc⟩
      · cases ev
    · cases ev
  · cases ev
theorem oD_sub : OpR X (binaryOp .Sub) (rO2 X.prog X.w X.K T (evBin .sub)) := by
  intro pins s σ H x y v u Q I rx ry h
  obtain ⟨μ, hp, a, b, r, hp', R, va, vb, ev, post⟩ := h
  unfold evBin at ev
  dsimp only at ev
  split at ev
  · cases ev
    rw [va.int_inv] at rx
    rw [vb.int_inv] at ry
    exact op_sub pins s σ H _ _ v u Q I rx ry ⟨_, _, rfl, rfl, post.val R (.int _)⟩
  · cases ev
theorem oD_fdiv : OpR X (binaryOp .FloorDiv) (rO2 X.prog X.w X.K T (evBin .fdiv)) := by
  intro pins s σ H x y v u Q I rx ry h
  obtain ⟨μ, hp, a, b, r, hp', R, va, vb, ev, post⟩ := h
  unfold evBin at ev
  dsimp only at ev
  split at ev
  · split at ev
    · rename_i hc
      cases ev
      rw [va.int_inv] at rx
      rw [vb.int_inv] at ry
      exact op_fdivN pins s σ H _ _ v u Q I rx ry ⟨_, _, rfl, rfl, hc, post.val R (.int _)⟩
    · cases ev
  · cases ev
theorem oD_mod : OpR X (binaryOp .Mod) (rO2 X.prog X.w X.K T (evBin .mod)) := by
  intro pins s σ H x y v u Q I rx ry h
  obtain ⟨μ, hp, a, b, r, hp', R, va, vb, ev, post⟩ := h
  unfold evBin at ev
  dsimp only at ev
  split at ev
  · split at ev
    · rename_i hc
      cases ev
      rw [va.int_inv] at rx
      rw [vb.int_inv] at ry
      exact op_modN pins s σ H _ _ v u Q I rx ry ⟨_, _, rfl, rfl, hc, post.val R (.int _)⟩
    · cases ev
  · cases ev
theorem oD_pow : OpR X (binaryOp .Pow) (rO2 X.prog X.w X.K T (evBin .pow)) := by
  intro pins s σ H x y v u Q I rx ry h
  obtain ⟨μ, hp, a, b, r, hp', R, va, vb, ev, post⟩ := h
  unfold evBin at ev
  dsimp only at ev
  split at ev
  · split at ev
    · rename_i hc
      cases ev
      rw [va.int_inv] at rx
      rw [vb.int_inv] at ry
      exact op_pow pins s σ H _ _ v u Q I rx ry ⟨_, _, rfl, rfl, ⟨hc.1, by omega, hc.2.2⟩, post.val R (.int _)⟩
    · cases ev
  · cases ev
theorem oD_mul : OpR X (binaryOp .Mult) (rO2 X.prog X.w X.K T (evBin .mul)) := by
  intro pins s σ H x y v u Q I rx ry h
  obtain ⟨μ, hp, a, b, r, hp', R, va, vb, ev, post⟩ := h
  unfold evBin at ev
  dsimp only at ev
  split at ev
  · split at ev
    · rename_i hc
      cases ev
      rw [va.int_inv] at rx
      rw [vb.int_inv] at ry
      exact op_mul pins s σ H _ _ v u Q I rx ry ⟨_, _, rfl, rfl, (by unfold mulOk at hc; unfold CMul; exact of_decide_eq_true hc), post.val R (.int _)⟩
    · cases ev
  · split at ev
    · rename_i hc
      cases ev
      rw [va.str_inv] at rx
      rw [vb.int_inv] at ry
      rw [Bool.and_eq_true, Bool.and_eq_true, decide_eq_true_eq, decide_eq_true_eq, decide_eq_true_eq] at hc
      exact op_mul_strI pins s σ H _ _ v u Q I rx ry ⟨_, _, rfl, rfl, hc.2, hc.1.2, by rw [← line_eq]; exact hc.1.1, post.val R (.str _ (va.str_ok.rep (by rw [← line_eq]; exact hc.1.1)))⟩
    · cases ev
  · split at ev
    · rename_i x' j hc
      simp only [Bool.and_eq_true, decide_eq_true_eq] at hc
      cases ev
      obtain ⟨p, xs, rfl, hx, rxs⟩ := va.tup_inv
      rw [vb.int_inv] at ry
      refine op_repT pins s σ H _ _ v u Q I rx ry ⟨p, _, xs, rfl, rfl, hx, fun e => hc.1.1.1 (rxs.nil_iff.mp e), hc.1.1.2, hc.1.2, by rw [rxs.len]; exact hc.2, fun c h0 => ?_⟩
      refine post.tup R ?_ h0
      unfold repN
      generalize j.toNat = n
      induction n with
      | zero => exact .nil
      | succ n ih => rw [List.replicate_succ, List.flatten_cons, List.replicate_succ, List.flatten_cons]; exact rxs.append ih
    · cases ev
  · cases ev
def binM : Op2 → Operator → Bool
  | .add, .Add => true
  | .sub, .Sub => true
  | .mul, .Mult => true
  | .fdiv, .FloorDiv => true
  | .mod, .Mod => true
  | .pow, .Pow => true
  | _, _ => false
theorem oD_bin {o : Op2} {op : Operator} (h : binM o op = true) : OpR X (binaryOp op) (rO2 X.prog X.w X.K T (evBin o)) := by
  cases o <;> cases op <;> try (exact absurd h Bool.false_ne_true)
  · exact oD_add
  · exact oD_sub
  · exact oD_mul
  · exact oD_fdiv
  · exact oD_mod
  · exact oD_pow
end
end PL
set_option autoImplicit false
set_option linter.all false
set_option maxRecDepth 20000
set_option maxHeartbeats 1000000
/-! PlOps3: equality, order, membership. -/
namespace PL
open PySem PySem.Spec PyProof.Rows L2
section
variable {K : PySem.W.Frag} {μ : List Addr} {H : Hp}
mutual
theorem VR.dp : ∀ {x : V} {v : PV}, VR K μ H x v → PV.pure v = true → Dp K H x (toD v)
  | _, _, .non, _ => .non
  | _, _, .bl b, _ => .bl b
  | _, _, .int i, _ => .int i
  | _, _, .str x _, _ => .str _
  | _, _, .tup h r, q => .tup h (VRs.dp r (by rwa [PV.pure] at q))
  | _, _, .ref _, q => by simp [PV.pure] at q
  | _, _, .fl _ _, q => by simp [PV.pure] at q
theorem VRs.dp : ∀ {xs : List V} {vs : List PV}, VRs K μ H xs vs → PV.pures vs = true → DpAll K H xs (toDs vs)
  | _, _, .nil, _ => .nil
  | _, _, .cons a r, q => by
    rw [PV.pures, Bool.and_eq_true] at q
    exact .cons (VR.dp a q.1) (VRs.dp r q.2)
end
mutual
theorem VR.lay : ∀ {x : V} {v : PV}, VR K μ H x v → (toD v).canLay0 = true
  | _, _, .non => rfl
  | _, _, .bl _ => rfl
  | _, _, .int _ => rfl
  | _, _, .str x h => by
    show (tx x).cps.all (· < 0x110000) = true
    rw [Array.all_eq_true_iff_forall_mem]
    intro c hc
    exact decide_eq_true (h.2 c (by simpa using hc))
  | _, _, .tup h r => by
    show PyData.canLayAll0 _ = true
    exact VRs.lay r
  | _, _, .ref _ => rfl
  | _, _, .fl _ _ => rfl
theorem VRs.lay : ∀ {xs : List V} {vs : List PV}, VRs K μ H xs vs → PyData.canLayAll0 (toDs vs) = true
  | _, _, .nil => rfl
  | _, _, .cons a r => by
    show (PyData.canLay0 _ && PyData.canLayAll0 _) = true
    rw [VR.lay a, VRs.lay r]; rfl
end
end
mutual
theorem depth_toD : ∀ v : PV, (toD v).depth = depth v
  | .non => rfl
  | .bl _ => rfl
  | .int _ => rfl
  | .str _ => rfl
  | .ref _ => rfl
  | .fl _ => rfl
  | .tup xs => congrArg (· + 1) (depth_toDs xs)
theorem depth_toDs : ∀ vs : List PV, PyData.depthAll (toDs vs) = depths vs
  | [] => rfl
  | x :: xs => by
    show max (PyData.depth _) (PyData.depthAll _) = max (depth x) (depths xs)
    rw [depth_toD x, depth_toDs xs]
end
theorem b2_eq (b : Bool) : b2 b = if b then 1 else 0 := rfl
theorem str_beq (x y : List Nat) : (tx x == tx y) = decide (x = y) := by
  by_cases h : x = y
  · subst h; simp
  · rw [decide_eq_false h]
    exact beq_eq_false_iff_ne.mpr fun e => h (tx_inj e)
mutual
theorem eqv_toD : ∀ v u : PV, PV.pure v = true → PV.pure u = true → PyData.eqv (toD v) (toD u) = eqv v u
  | .non, u, _, h => by cases u <;> first | rfl | (simp [PV.pure] at h)
  | .bl a, u, _, h => by cases u <;> first | rfl | (simp [PV.pure] at h)
  | .int a, .int j, _, _ => (Bool.beq_eq_decide_eq a j : (a == j) = decide (a = j))
  | .int a, .bl b, _, _ => (Bool.beq_eq_decide_eq a (b2 b) : (a == b2 b) = decide (a = b2 b))
  | .int a, .non, _, _ => rfl
  | .int a, .str _, _, _ => rfl
  | .int a, .tup _, _, _ => rfl
  | .int a, .ref _, _, h => by simp [PV.pure] at h
  | .int a, .fl _, _, h => by simp [PV.pure] at h
  | .str x, .str y, _, _ => str_beq x y
  | .str a, .non, _, _ => rfl
  | .str a, .int _, _, _ => rfl
  | .str a, .bl _, _, _ => rfl
  | .str a, .tup _, _, _ => rfl
  | .str a, .ref _, _, h => by simp [PV.pure] at h
  | .str a, .fl _, _, h => by simp [PV.pure] at h
  | .tup xs, .tup ys, h1, h => eqvs_toD xs ys (by rwa [PV.pure] at h1) (by rwa [PV.pure] at h)
  | .tup a, .non, _, _ => rfl
  | .tup a, .int _, _, _ => rfl
  | .tup a, .bl _, _, _ => rfl
  | .tup a, .str _, _, _ => rfl
  | .tup a, .ref _, _, h => by simp [PV.pure] at h
  | .tup a, .fl _, _, h => by simp [PV.pure] at h
  | .ref _, u, h, _ => by simp [PV.pure] at h
  | .fl _, u, h, _ => by simp [PV.pure] at h
theorem eqvs_toD : ∀ vs us : List PV, PV.pures vs = true → PV.pures us = true → PyData.eqvAll (toDs vs) (toDs us) = eqvs vs us
  | [], [], _, _ => rfl
  | [], _ :: _, _, _ => rfl
  | _ :: _, [], _, _ => rfl
  | x :: xs, y :: ys, h1, h2 => by
    rw [PV.pures, Bool.and_eq_true] at h1 h2
    show (PyData.eqv _ _ && PyData.eqvAll _ _) = (eqv x y && eqvs xs ys)
    rw [eqv_toD x y h1.1 h2.1, eqvs_toD xs ys h1.2 h2.2]
end
mutual
theorem alk_toD : ∀ v u : PV, PV.pure v = true → PV.pure u = true → PySem.W.alike (toD v) (toD u) = alk v u
  | .non, u, _, h => by cases u <;> first | rfl | (simp [PV.pure] at h)
  | .bl a, u, _, h => by cases u <;> first | rfl | (simp [PV.pure] at h)
  | .int a, u, _, h => by cases u <;> first | rfl | (simp [PV.pure] at h)
  | .str x, u, _, h => by cases u <;> first | rfl | (simp [PV.pure] at h)
  | .tup xs, .tup ys, h1, h => alks_toD xs ys (by rwa [PV.pure] at h1) (by rwa [PV.pure] at h)
  | .tup a, .non, _, _ => rfl
  | .tup a, .int _, _, _ => rfl
  | .tup a, .bl _, _, _ => rfl
  | .tup a, .str _, _, _ => rfl
  | .tup a, .ref _, _, h => by simp [PV.pure] at h
  | .tup a, .fl _, _, h => by simp [PV.pure] at h
  | .ref _, u, h, _ => by simp [PV.pure] at h
  | .fl _, u, h, _ => by simp [PV.pure] at h
theorem alks_toD : ∀ vs us : List PV, PV.pures vs = true → PV.pures us = true → PySem.W.alikeAll (toDs vs) (toDs us) = alks vs us
  | [], [], _, _ => rfl
  | [], _ :: _, _, _ => rfl
  | _ :: _, [], _, _ => rfl
  | x :: xs, y :: ys, h1, h2 => by
    rw [PV.pures, Bool.and_eq_true] at h1 h2
    show (PySem.W.alike _ _ && PySem.W.alikeAll _ _) = (alk x y && alks xs ys)
    rw [alk_toD x y h1.1 h2.1, alks_toD xs ys h1.2 h2.2]
end
mutual
theorem ltv_toD : ∀ v u : PV, PV.pure v = true → PV.pure u = true → alk v u = true → v ≠ .non → PySem.W.dataLt (toD v) (toD u) = ltv v u
  | .non, u, _, _, _, h => absurd rfl h
  | .bl a, .bl b, _, _, h, _ => PySem.W.dataLt_bool a b
  | .int a, .int b, _, _, h, _ => PySem.W.dataLt_int _ _
  | .str x, .str y, _, _, h, _ => PySem.W.dataLt_str (tx x) (tx y)
  | .tup xs, .tup ys, h1, h2, h, _ => by
    show PySem.W.dataLt (.tuple (toDs xs)) (.tuple (toDs ys)) = ltvs xs ys
    rw [PySem.W.dataLt_tuple]
    exact ltvs_toD xs ys (by rwa [PV.pure] at h1) (by rwa [PV.pure] at h2) (by rwa [alk] at h)
  | .ref _, u, h, _, _, _ => by simp [PV.pure] at h
  | .fl _, u, h, _, _, _ => by simp [PV.pure] at h
  | .bl _, .non, _, _, h, _ | .bl _, .int _, _, _, h, _ | .bl _, .str _, _, _, h, _ | .bl _, .tup _, _, _, h, _ | .bl _, .ref _, _, _, h, _ | .bl _, .fl _, _, _, h, _ => by simp [alk] at h
  | .int _, .non, _, _, h, _ | .int _, .bl _, _, _, h, _ | .int _, .str _, _, _, h, _ | .int _, .tup _, _, _, h, _ | .int _, .ref _, _, _, h, _ | .int _, .fl _, _, _, h, _ => by simp [alk] at h
  | .str _, .non, _, _, h, _ | .str _, .int _, _, _, h, _ | .str _, .bl _, _, _, h, _ | .str _, .tup _, _, _, h, _ | .str _, .ref _, _, _, h, _ | .str _, .fl _, _, _, h, _ => by simp [alk] at h
  | .tup _, .non, _, _, h, _ | .tup _, .int _, _, _, h, _ | .tup _, .bl _, _, _, h, _ | .tup _, .str _, _, _, h, _ | .tup _, .ref _, _, _, h, _ | .tup _, .fl _, _, _, h, _ => by simp [alk] at h
theorem ltvs_toD : ∀ vs us : List PV, PV.pures vs = true → PV.pures us = true → alks vs us = true → PyProof.Rows.lexLt itemOrd (PySem.W.keyToksAll (toDs vs)) (PySem.W.keyToksAll (toDs us)) = ltvs vs us
  | [], [], _, _, _ => by decide
  | [], y :: ys, _, _, _ => by
    show PyProof.Rows.lexLt itemOrd [Sum.inl 0] (PySem.W.keyToksAll (toD y :: toDs ys)) = true
    rw [PySem.W.toks_all_cons, lex_cons]
    have : itemOrd.blt (Sum.inl 0 : Int ⊕ List Nat) (Sum.inl 1) = true := by decide
    rw [this]; rfl
  | x :: xs, [], _, _, _ => by
    show PyProof.Rows.lexLt itemOrd (PySem.W.keyToksAll (toD x :: toDs xs)) [Sum.inl 0] = false
    rw [PySem.W.toks_all_cons, lex_cons]
    have e1 : itemOrd.blt (Sum.inl 1 : Int ⊕ List Nat) (Sum.inl 0) = false := by decide
    have e2 : itemOrd.blt (Sum.inl 0 : Int ⊕ List Nat) (Sum.inl 1) = true := by decide
    rw [e1, e2]; rfl
  | x :: xs, y :: ys, h1, h2, h => by
    rw [PV.pures, Bool.and_eq_true] at h1 h2
    rw [alks, Bool.and_eq_true] at h
    have ha : PySem.W.alike (toD x) (toD y) = true := by rw [alk_toD x y h1.1 h2.1]; exact h.1
    show PyProof.Rows.lexLt itemOrd (PySem.W.keyToksAll (toD x :: toDs xs)) (PySem.W.keyToksAll (toD y :: toDs ys)) = if eqv x y then ltvs xs ys else ltv x y
    rw [PySem.W.dataLt_cons ha, eqv_toD x y h1.1 h2.1]
    split
    · exact ltvs_toD xs ys h1.2 h2.2 h.2
    · rename_i he
      refine ltv_toD x y h1.1 h2.1 h.1 fun e => he ?_
      subst e
      cases y <;> simp [alk] at h
      rfl
end
end PL
set_option autoImplicit false
set_option linter.all false
set_option maxRecDepth 20000
set_option maxHeartbeats 1000000
/-! PlOps4: comparisons. -/
namespace PL
open PySem PySem.Spec PyProof.Rows L2
mutual
theorem alk_symm : ∀ v u : PV, alk v u = alk u v
  | .tup xs, .tup ys => by rw [alk, alk]; exact alks_symm xs ys
  | .non, u => by cases u <;> rfl
  | .bl _, u => by cases u <;> rfl
  | .int _, u => by cases u <;> rfl
  | .str _, u => by cases u <;> rfl
  | .ref _, u => by cases u <;> rfl
  | .fl _, u => by cases u <;> rfl
  | .tup _, .non => rfl
  | .tup _, .bl _ => rfl
  | .tup _, .int _ => rfl
  | .tup _, .str _ => rfl
  | .tup _, .ref _ => rfl
  | .tup _, .fl _ => rfl
theorem alks_symm : ∀ vs us : List PV, alks vs us = alks us vs
  | [], [] => rfl
  | [], _ :: _ => rfl
  | _ :: _, [] => rfl
  | x :: xs, y :: ys => by rw [alks, alks, alk_symm x y, alks_symm xs ys]
end
theorem fit_inv {v : PV} (h : PV.fit v = true) : PV.pure v = true ∧ depth v ≤ 60 := by
  unfold PV.fit at h
  rw [Bool.and_eq_true, decide_eq_true_eq] at h
  exact h
theorem fits_inv {v : List PV} (h : PV.fits v = true) : PV.pures v = true ∧ depths v ≤ 60 := by
  unfold PV.fits at h
  rw [Bool.and_eq_true, decide_eq_true_eq] at h
  exact h
theorem fit_int (i : Int) : PV.fit (.int i) = true := rfl
theorem fit_str (x : List Nat) : PV.fit (.str x) = true := rfl
theorem ordOk_inv {a b : PV} (h : ordOk a b = true) : PV.fit a = true ∧ PV.fit b = true ∧ alk a b = true ∧ a ≠ .non ∧ b ≠ .non := by
  unfold ordOk at h
  split at h
  · exact ⟨rfl, rfl, rfl, nofun, nofun⟩
  · exact ⟨rfl, rfl, rfl, nofun, nofun⟩
  · rw [Bool.and_eq_true, Bool.and_eq_true] at h
    exact ⟨h.1.1, h.1.2, h.2, nofun, nofun⟩
  · cases h
section
variable {X : Cx} {T : List (Addr × Str)} {pins : List (Addr × Obj)} {s : Shared} {σ : L2.St} {H : Hp}
/-- a value is read as its datum -/
theorem reads_of {μ : List Addr} {x : V} {v : PV} {u : Value} (I : Inv X pins σ H s) (h : VR X.K μ H x v) (p : PV.pure v = true) (r : RelV x u) : ∃ as, Reads s.heap u (toD v) as := Dp.reads I _ _ _ (h.dp p) r
theorem shaped_of {μ : List Addr} {x : V} {v : PV} (h : VR X.K μ H x v) (p : PV.fit v = true) : SeqAt.shaped (toD v) = true := by
  unfold SeqAt.shaped
  rw [h.lay, depth_toD, Bool.true_and]
  exact decide_eq_true (Nat.le_trans (fit_inv p).2 (by decide))
/-- the operations that give a truth value -/
def gC (o : Cm) : PV → PV → Hv → R PV := fun a b h => retB (evCm o a b h) h
theorem retB_ok {o : Option Bool} {h h' : Hv} {r : PV} (e : retB o h = .ok (r, h')) : ∃ b, o = some b ∧ r = .bl b ∧ h' = h := by
  cases o with
  | none => cases e
  | some b => cases e; exact ⟨b, rfl, rfl, rfl⟩
theorem ord_data {a b : PV} {μ : List Addr} {x y : V} {v u : Value} {hp : Hv} (hu : X.A.units + 200 < cLine) (I : Inv X pins σ H s) (va : VR X.K μ H x a) (vb : VR X.K μ H y b) (rx : RelV x v) (ry : RelV y u) (h : ordOk a b = true) :
    ∃ da db as bs, Reads s.heap v da as ∧ Reads s.heap u db bs ∧ PySem.W.alike da db = true ∧ da ≠ .none ∧ X.A.units + min da.depth db.depth < cLine ∧ PySem.W.dataLt da db = ltv a b ∧ PySem.W.dataLt db da = ltv b a := by
  obtain ⟨fa, fb, ha, na, nb⟩ := ordOk_inv h
  obtain ⟨pa, da⟩ := fit_inv fa
  obtain ⟨pb, db⟩ := fit_inv fb
  obtain ⟨as, r1⟩ := reads_of I va pa rx
  obtain ⟨bs, r2⟩ := reads_of I vb pb ry
  refine ⟨toD a, toD b, as, bs, r1, r2, by rw [alk_toD a b pa pb]; exact ha, fun e => na ?_, ?_, ltv_toD a b pa pb ha na, ltv_toD b a pb pa (by rw [alk_symm]; exact ha) nb⟩
  · cases a <;> first | rfl | (cases e; done) | (simp [PV.pure] at pa)
  · rw [depth_toD, depth_toD]
    have : min (depth a) (depth b) ≤ depth a := Nat.min_le_left _ _
    omega
theorem oD_lt (hu : X.A.units + 200 < cLine) : OpR X (compareOp .Lt) (rO2 X.prog X.w X.K T (gC .lt)) := by
  intro pins s σ H x y v u Q I rx ry h
  obtain ⟨μ, hp, a, b, r, hp', R, va, vb, ev, post⟩ := h
  obtain ⟨k, e, rfl, rfl⟩ := retB_ok ev
  dsimp only [evCm] at e
  split at e
  · rename_i hc
    cases e
    obtain ⟨da, db, as, bs, r1, r2, h1, h2, h3, h4, h5⟩ := ord_data (hp := hp') hu I va vb rx ry hc
    exact PySem.W.lt_data r1 r2 h1 h2 h3 ⟨.bl _, H, I, by rw [h4]; rfl, post.val R (.bl _)⟩
  · cases e
theorem oD_gt (hu : X.A.units + 200 < cLine) : OpR X (compareOp .Gt) (rO2 X.prog X.w X.K T (gC .gt)) := by
  intro pins s σ H x y v u Q I rx ry h
  obtain ⟨μ, hp, a, b, r, hp', R, va, vb, ev, post⟩ := h
  obtain ⟨k, e, rfl, rfl⟩ := retB_ok ev
  dsimp only [evCm] at e
  split at e
  · rename_i hc
    cases e
    obtain ⟨da, db, as, bs, r1, r2, h1, h2, h3, h4, h5⟩ := ord_data (hp := hp') hu I va vb rx ry hc
    exact PySem.W.gt_data r1 r2 h1 h2 h3 ⟨.bl _, H, I, by rw [h5]; rfl, post.val R (.bl _)⟩
  · cases e
theorem oD_le (hu : X.A.units + 200 < cLine) : OpR X (compareOp .LtE) (rO2 X.prog X.w X.K T (gC .le)) := by
  intro pins s σ H x y v u Q I rx ry h
  obtain ⟨μ, hp, a, b, r, hp', R, va, vb, ev, post⟩ := h
  obtain ⟨k, e, rfl, rfl⟩ := retB_ok ev
  dsimp only [evCm] at e
  split at e
  · rename_i hc
    cases e
    obtain ⟨da, db, as, bs, r1, r2, h1, h2, h3, h4, h5⟩ := ord_data (hp := hp') hu I va vb rx ry hc
    exact PySem.W.le_data r1 r2 h1 h2 h3 ⟨.bl _, H, I, by rw [h5]; rfl, post.val R (.bl _)⟩
  · cases e
theorem oD_ge (hu : X.A.units + 200 < cLine) : OpR X (compareOp .GtE) (rO2 X.prog X.w X.K T (gC .ge)) := by
  intro pins s σ H x y v u Q I rx ry h
  obtain ⟨μ, hp, a, b, r, hp', R, va, vb, ev, post⟩ := h
  obtain ⟨k, e, rfl, rfl⟩ := retB_ok ev
  dsimp only [evCm] at e
  split at e
  · rename_i hc
    cases e
    obtain ⟨da, db, as, bs, r1, r2, h1, h2, h3, h4, h5⟩ := ord_data (hp := hp') hu I va vb rx ry hc
    exact PySem.W.ge_data r1 r2 h1 h2 h3 ⟨.bl _, H, I, by rw [h4]; rfl, post.val R (.bl _)⟩
  · cases e
/-- both sides of an equality, as data -/
theorem eqP_data {P : Program} {w : World} {a b : PV} {μ : List Addr} {x y : V} {hp : Hv} {k : Bool} (R : HR P w X.K μ H T hp) (va : VR X.K μ H x a) (vb : VR X.K μ H y b) (e : eqP hp a b = some k) :
    ∃ d e, Dp X.K H x d ∧ Dp X.K H y e ∧ SeqAt.shaped d = true ∧ SeqAt.shaped e = true ∧ PyData.eqv d e = k := by
  have shL : ∀ {xs : List V} {vs : List PV}, VRs X.K μ H xs vs → PV.fits vs = true → SeqAt.shaped (.list (toDs vs)) = true := fun {xs vs} r f => by
    unfold SeqAt.shaped
    have e1 : (PyData.list (toDs vs)).canLay0 = true := r.lay
    have e2 : (PyData.list (toDs vs)).depth = depths vs + 1 := congrArg (· + 1) (depth_toDs vs)
    rw [e1, e2, Bool.true_and]
    have := (fits_inv f).2
    exact decide_eq_true (by omega)
  have lst : ∀ {l : Nat} {z : V} {vs : List PV}, VR X.K μ H z (.ref l) → items? hp (.ref l) = some vs → PV.fits vs = true → Dp X.K H z (.list (toDs vs)) ∧ SeqAt.shaped (.list (toDs vs)) = true := fun {l z vs} vz ei f => by
    obtain ⟨p, rfl, hp1⟩ := vz.ref_inv
    dsimp only [items?] at ei
    split at ei
    · rename_i xs' e1
      cases ei
      obtain ⟨xs, hx, rxs⟩ := R.lst_at hp1 e1
      exact ⟨.lst (.inl (.inl hx)) (rxs.dp (fits_inv f).1), shL rxs f⟩
    · cases ei
  have pl : ∀ {z : V} {v : PV}, VR X.K μ H z v → PV.fit v = true → Dp X.K H z (toD v) ∧ SeqAt.shaped (toD v) = true := fun vz f => ⟨vz.dp (fit_inv f).1, shaped_of vz f⟩
  have nl : ∀ {v : PV} {ds : List PyData}, PyData.eqv (.list ds) (toD v) = false ∧ PyData.eqv (toD v) (.list ds) = false := fun {v ds} => by cases v <;> exact ⟨rfl, rfl⟩
  have gen : (if (PV.fit a && PV.fit b) = true then some (eqv a b) else none) = some k → ∃ d e, Dp X.K H x d ∧ Dp X.K H y e ∧ SeqAt.shaped d = true ∧ SeqAt.shaped e = true ∧ PyData.eqv d e = k := fun e => by
    split at e
    · rename_i hc
      rw [Bool.and_eq_true] at hc
      cases e
      obtain ⟨d1, s1⟩ := pl va hc.1
      obtain ⟨d2, s2⟩ := pl vb hc.2
      exact ⟨_, _, d1, d2, s1, s2, eqv_toD a b (fit_inv hc.1).1 (fit_inv hc.2).1⟩
    · cases e
  unfold eqP at e
  split at e
  · rename_i l m
    split at e
    · rename_i xs ys e1 e2
      split at e
      · rename_i hc
        rw [Bool.and_eq_true] at hc
        cases e
        obtain ⟨d1, s1⟩ := lst va e1 hc.1
        obtain ⟨d2, s2⟩ := lst vb e2 hc.2
        exact ⟨_, _, d1, d2, s1, s2, eqvs_toD xs ys (fits_inv hc.1).1 (fits_inv hc.2).1⟩
      · cases e
    · cases e
  · rename_i l _
    split at e
    · rename_i xs e1
      split at e
      · rename_i hc
        rw [Bool.and_eq_true] at hc
        cases e
        obtain ⟨d1, s1⟩ := lst va e1 hc.1
        obtain ⟨d2, s2⟩ := pl vb hc.2
        exact ⟨_, _, d1, d2, s1, s2, nl.1⟩
      · cases e
    · cases e
  · rename_i l _
    split at e
    · rename_i xs e1
      split at e
      · rename_i hc
        rw [Bool.and_eq_true] at hc
        cases e
        obtain ⟨d1, s1⟩ := lst vb e1 hc.1
        obtain ⟨d2, s2⟩ := pl va hc.2
        exact ⟨_, _, d2, d1, s2, s1, nl.2⟩
      · cases e
    · cases e
  · exact gen e
theorem oD_eq (hu : X.A.units + 200 < cLine) : OpR X (compareOp .Eq) (rO2 X.prog X.w X.K T (gC .eq)) := by
  intro pins s σ H x y v u Q I rx ry h
  obtain ⟨μ, hp, a, b, r, hp', R, va, vb, ev, post⟩ := h
  obtain ⟨k, e, rfl, rfl⟩ := retB_ok ev
  obtain ⟨d, e', h1, h2, h3, h4, h5⟩ := eqP_data R va vb e
  exact op_eqD (by omega) pins s σ H x y v u Q I rx ry ⟨d, e', h1, h2, h3, h4, by rw [h5]; exact post.val R (.bl _)⟩
theorem oD_ne (hu : X.A.units + 200 < cLine) : OpR X (compareOp .NotEq) (rO2 X.prog X.w X.K T (gC .ne)) := by
  intro pins s σ H x y v u Q I rx ry h
  obtain ⟨μ, hp, a, b, r, hp', R, va, vb, ev, post⟩ := h
  obtain ⟨k, e, rfl, rfl⟩ := retB_ok ev
  dsimp only [evCm] at e
  obtain ⟨k', e1, rfl⟩ := Option.map_eq_some_iff.mp e
  obtain ⟨d, e', h1, h2, h3, h4, h5⟩ := eqP_data R va vb e1
  exact op_neD (by omega) pins s σ H x y v u Q I rx ry ⟨d, e', h1, h2, h3, h4, by rw [h5]; exact post.val R (.bl _)⟩
end
end PL
set_option autoImplicit false
set_option linter.all false
set_option maxRecDepth 20000
set_option maxHeartbeats 1000000
/-! PlDict: dicts. -/
namespace PL
open PySem PySem.Spec PyProof.Rows L2
theorem pair_length {α β : Type} {F : α → β → Prop} {a : List α} {b : List β} (h : Paired F a b) : a.length = b.length := Paired.length h
mutual
theorem nk_inj : ∀ (n m : Nat) (a b : PV), keyN n a = true → keyN m b = true → nk a = nk b → a = b
  | _, _, .int i, .int j, _, _, e => by rw [nk, nk] at e; cases e; rfl
  | _, _, .str x, .str y, _, _, e => by
    rw [nk, nk] at e
    injection e with e
    rw [tx_inj e]
  | n + 1, m + 1, .tup xs, .tup ys, h, g, e => by
    rw [nk, nk] at e
    injection e with e
    rw [keyN] at h g
    rw [nks_inj n m xs ys h g e]
  | _, _, .int _, .str _, _, _, e => by simp [nk] at e
  | _, _, .str _, .int _, _, _, e => by simp [nk] at e
  | _, _, .int _, .tup _, _, _, e => by simp [nk] at e
  | _, _, .tup _, .int _, _, _, e => by simp [nk] at e
  | _, _, .str _, .tup _, _, _, e => by simp [nk] at e
  | _, _, .tup _, .str _, _, _, e => by simp [nk] at e
  | 0, _, .tup _, _, h, _, _ => by simp [keyN] at h
  | _, 0, _, .tup _, _, h, _ => by simp [keyN] at h
  | n, _, .non, _, h, _, _ => by cases n <;> simp [keyN] at h
  | n, _, .bl _, _, h, _, _ => by cases n <;> simp [keyN] at h
  | n, _, .ref _, _, h, _, _ => by cases n <;> simp [keyN] at h
  | n, _, .fl _, _, h, _, _ => by cases n <;> simp [keyN] at h
  | _, n, _, .non, _, h, _ => by cases n <;> simp [keyN] at h
  | _, n, _, .bl _, _, h, _ => by cases n <;> simp [keyN] at h
  | _, n, _, .ref _, _, h, _ => by cases n <;> simp [keyN] at h
  | _, n, _, .fl _, _, h, _ => by cases n <;> simp [keyN] at h
theorem nks_inj : ∀ (n m : Nat) (a b : List PV), keysN n a = true → keysN m b = true → nks a = nks b → a = b
  | _, _, [], [], _, _, _ => rfl
  | _, _, [], _ :: _, _, _, e => by simp [nks] at e
  | _, _, _ :: _, [], _, _, e => by simp [nks] at e
  | n, m, x :: xs, y :: ys, h, g, e => by
    rw [keysN, Bool.and_eq_true] at h g
    rw [nks, nks] at e
    injection e with e1 e2
    rw [nk_inj n m x y h.1 g.1 e1, nks_inj n m xs ys h.2 g.2 e2]
end
theorem tupK_inv {v : PV} (h : tupK v = true) : keyN 5 v = true ∧ ∃ xs, v = .tup xs := by
  unfold tupK at h
  split at h
  · exact ⟨h, _, rfl⟩
  · cases h
mutual
theorem nk_depth : ∀ (n : Nat) (v : PV), keyN n v = true → (nk v).depth ≤ n
  | n, .int _, _ => by rw [nk]; exact Nat.zero_le _
  | n, .str _, _ => by rw [nk]; exact Nat.zero_le _
  | n + 1, .tup xs, h => by
    rw [nk]
    rw [keyN] at h
    exact Nat.succ_le_succ (nks_depth n xs h)
  | 0, .tup _, h => by simp [keyN] at h
  | n, .non, h => by cases n <;> simp [keyN] at h
  | n, .bl _, h => by cases n <;> simp [keyN] at h
  | n, .ref _, h => by cases n <;> simp [keyN] at h
  | n, .fl _, h => by cases n <;> simp [keyN] at h
theorem nks_depth : ∀ (n : Nat) (vs : List PV), keysN n vs = true → NestedKey.depthAll (nks vs) ≤ n
  | _, [], _ => Nat.zero_le _
  | n, x :: xs, h => by
    rw [keysN, Bool.and_eq_true] at h
    exact Nat.max_le.mpr ⟨nk_depth n x h.1, nks_depth n xs h.2⟩
end
section
variable {X : Cx} {T : List (Addr × Str)} {pins : List (Addr × Obj)} {s : Shared} {σ : L2.St} {H : Hp} {μ : List Addr}
mutual
theorem nest_of (I : Inv X pins σ H s) : ∀ (n : Nat) (x : V) (v : PV) (u : Value), VR X.K μ H x v → keyN n v = true → RelV x u → NestedIs s.heap (nk v) u
  | _, _, _, _, .int i, _, r => by obtain ⟨t, rfl⟩ := r; rw [nk]; exact .int i t
  | _, _, _, _, .str x _, _, r => by obtain ⟨t, rfl⟩ := r; rw [nk]; exact .text _ t
  | n + 1, _, _, _, .tup h q, k, r => by
    cases r
    obtain ⟨its, rv, ⟨o, ho, hc, c, hd⟩, _⟩ := I.tuple h
    rw [nk]
    rw [keyN] at k
    exact .tup ho hc hd (by simpa using nests_of I n _ _ its q k rv)
  | 0, _, _, _, .tup _ _, k, _ => by simp [keyN] at k
  | n, _, _, _, .non, k, _ => by cases n <;> simp [keyN] at k
  | n, _, _, _, .bl _, k, _ => by cases n <;> simp [keyN] at k
  | n, _, _, _, .ref _, k, _ => by cases n <;> simp [keyN] at k
  | n, _, _, _, .fl _ _, k, _ => by cases n <;> simp [keyN] at k
theorem nests_of (I : Inv X pins σ H s) : ∀ (n : Nat) (xs : List V) (vs : List PV) (us : List Value), VRs X.K μ H xs vs → keysN n vs = true → Vals xs us → NestedAll s.heap (nks vs) us
  | _, _, _, _, .nil, _, r => by cases r; exact .nil
  | n, _, _, _, .cons a q, k, r => by
    rw [keysN, Bool.and_eq_true] at k
    cases r with
    | cons r1 r2 => exact .cons (nest_of I n _ _ _ a k.1 r1) (nests_of I n _ _ _ q k.2 r2)
end
/-- the entries of a dict with tuple keys -/
theorem ERs.each : ∀ {r : RawT} {kvs : List (PV × PV)}, ERs X.K μ H r kvs → ∀ e ∈ r, ∃ k, tupK k = true ∧ e.1 = nk k ∧ VR X.K μ H (.ref e.2.1) k
  | _, _, .nil, e, h => by cases h
  | _, _, .cons (k := k) a b c d r, e, h => by
    rcases List.mem_cons.mp h with rfl | h
    · exact ⟨k, a, rfl, b⟩
    · exact ERs.each r e h
theorem ERs.len {K : PySem.W.Frag} : ∀ {r : RawT} {kvs : List (PV × PV)}, ERs K μ H r kvs → r.length = kvs.length
  | _, _, .nil => rfl
  | _, _, .cons _ _ _ _ r => congrArg (· + 1) (ERs.len r)
theorem FRs.len {K : PySem.W.Frag} : ∀ {r : List (Key × V)} {kvs : List (PV × PV)}, FRs K μ H r kvs → r.length = kvs.length
  | _, _, .nil => rfl
  | _, _, .cons _ _ r => congrArg (· + 1) (FRs.len r)
theorem dictT_obj {h : Heap} {a : Addr} {raw : RawT} (q : ObjOk X.prog X.w H h a (DictT X.prog X.w a raw)) : (a == sysModules) = false ∧ ∃ o es ep, h.get? a = some o ∧ o.ExactDict ∧ o.data = .dict es ep ∧ es.toList = raw.map (entryOfKey (nestedKind X.prog X.w)) ∧ (raw.map (·.1)).Nodup := q.1
theorem dictT_of (I : Inv X pins σ H s) {a : Addr} {raw : RawT} {kvs : List (PV × PV)} (h : Rd H a (DictT X.prog X.w a raw)) (e : ERs X.K μ H raw kvs) : (a == sysModules) = false ∧ s.heap.DictOfH (nestedKind X.prog X.w) a raw := by
  obtain ⟨h1, o, es, ep, h2, h3, h4, h5, h6⟩ := dictT_obj (h.ok I.hok)
  refine ⟨h1, o, es, ep, h2, h3, h4, h5, fun x hx => ?_, h6⟩
  obtain ⟨k, k1, k2, k3⟩ := e.each x hx
  have k4 := (tupK_inv k1).1
  refine ⟨?_, ?_⟩
  · rw [k2]; exact nest_of I 5 _ _ _ k3 k4 rfl
  · rw [k2]; exact Nat.le_trans (nk_depth 5 k k4) (by decide)
theorem ERs.find : ∀ {r : RawT} {kvs : List (PV × PV)}, ERs X.K μ H r kvs → ∀ {k : PV}, tupK k = true →
    (∀ v, valAt kvs k = some v → ∃ b u x, atKey r (nk k) = some (b, u) ∧ RelV x u ∧ VR X.K μ H x v) ∧ (valAt kvs k = none → atKey r (nk k) = none)
  | _, _, .nil, k, hk => ⟨fun v h => by simp [valAt] at h, fun _ => by simp [atKey]⟩
  | _, _, .cons (k := k') (v := v') (a := a') (x := x') (u := u') h1 h2 h3 h4 r, k, hk => by
    by_cases e : k' = k
    · subst e
      refine ⟨fun v h => ?_, fun h => ?_⟩
      · have : v' = v := by simpa [valAt] using h
        subst this
        exact ⟨a', u', x', by simp [atKey], h3, h4⟩
      · simp [valAt] at h
    · have ne : nk k' ≠ nk k := fun z => e (nk_inj 5 5 _ _ (tupK_inv h1).1 (tupK_inv hk).1 z)
      obtain ⟨g1, g2⟩ := ERs.find r hk
      have e1 : (k' == k) = false := beq_eq_false_iff_ne.mpr e
      refine ⟨fun v h => ?_, fun h => ?_⟩
      · obtain ⟨b, u, x, q1, q2, q3⟩ := g1 v (by simpa [valAt, List.find?_cons, e1] using h)
        exact ⟨b, u, x, by simpa [atKey, List.find?_cons, ne] using q1, q2, q3⟩
      · have := g2 (by simpa [valAt, List.find?_cons, e1] using h)
        simpa [atKey, List.find?_cons, ne] using this
theorem fk_inj {a b : PV} (h : flatK a = true) (g : flatK b = true) (e : fk a = fk b) : a = b := by
  cases a <;> cases b <;> first | (simp [flatK] at h; done) | (simp [flatK] at g; done) | skip
  · have := Sum.inl.inj e; rw [this]
  · cases e
  · cases e
  · have := Sum.inr.inj e; rw [tx_inj this]
theorem FRs.find : ∀ {r : List (Key × V)} {kvs : List (PV × PV)}, FRs X.K μ H r kvs → ∀ {k : PV}, flatK k = true →
    (∀ v, valAt kvs k = some v → ∃ x, valV r (fk k) = some x ∧ VR X.K μ H x v) ∧ (valAt kvs k = none → valV r (fk k) = none)
  | _, _, .nil, k, hk => ⟨fun v h => by simp [valAt] at h, fun _ => rfl⟩
  | _, _, .cons (k := k') (v := v') (x := x') h1 h4 r, k, hk => by
    by_cases e : k' = k
    · subst e
      refine ⟨fun v h => ?_, fun h => ?_⟩
      · have : v' = v := by simpa [valAt] using h
        subst this
        exact ⟨x', valV_pos rfl, h4⟩
      · simp [valAt] at h
    · have ne : fk k' ≠ fk k := fun z => e (fk_inj h1.1 hk z)
      obtain ⟨g1, g2⟩ := FRs.find r hk
      have e1 : (k' == k) = false := beq_eq_false_iff_ne.mpr e
      refine ⟨fun v h => ?_, fun h => ?_⟩
      · obtain ⟨x, q1, q3⟩ := g1 v (by simpa [valAt, List.find?_cons, e1] using h)
        exact ⟨x, by rw [valV_neg ne]; exact q1, q3⟩
      · rw [valV_neg ne]
        exact g2 (by simpa [valAt, List.find?_cons, e1] using h)
theorem flat_key {k : PV} {x : V} (h : flatK k = true) (r : VR X.K μ H x k) : x = kV (fk k) := by
  cases k <;> first | (simp [flatK] at h; done) | skip
  · rw [r.int_inv]; rfl
  · rw [r.str_inv]; rfl
/-- a dict of the evaluator's heap: the place, and what stands there to be read -/
theorem HR.dict_at {P : Program} {w : World} {hp : Hv} (R : HR P w X.K μ H T hp) {v : PV} {x : V} {kvs : List (PV × PV)} (vx : VR X.K μ H x v) (e : dict? hp v = some kvs) : ∃ a o, x = .ref a ∧ Rd H a o ∧ DR P w X.K μ H a o kvs := by
  cases v with
  | ref l =>
    obtain ⟨a, rfl, ha⟩ := vx.ref_inv
    dsimp only [dict?] at e
    split at e
    · rename_i kvs' e1
      cases e
      obtain ⟨b, h1, o, h2, h3⟩ := R.obj l _ e1
      rw [ha] at h1
      cases h1
      exact ⟨a, o, rfl, .inl h2, h3⟩
    · rename_i kvs' e1
      cases e
      obtain ⟨b, h1, od, o, h2, h3⟩ := R.obj l _ e1
      rw [ha] at h1
      cases h1
      exact ⟨a, o, rfl, .inr ⟨od, h2⟩, h3⟩
    · cases e
  | _ => cases e
theorem dT_get {Q : Value → Shared → Prop} {E : Value → Shared → Prop} {A : Around} {a b : Addr} {raw : RawT} {kvs : List (PV × PV)} {k v : PV} (hu : A.units + 200 < cLine) (I : Inv X pins σ H s) (h : Rd H a (DictT X.prog X.w a raw)) (e : ERs X.K μ H raw kvs)
    (hk : tupK k = true) (vb : VR X.K μ H (.ref b) k) (hv : valAt kvs k = some v) (q : ∀ u x s', Inv X pins σ H s' → RelV x u → VR X.K μ H x v → Q u s') : wpAny (model X.prog X.w) A (getItem (.ref a) (.ref b)) Q E s := by
  obtain ⟨hsm, hm⟩ := dictT_of I h e
  obtain ⟨c, u, x, g1, g2, g3⟩ := (e.find hk).1 v hv
  have k4 := (tupK_inv hk).1
  exact wpAny_getItem_heap (knd := nestedKind X.prog X.w) (show A.in1.units + 8 < cLine by show A.units + 1 + 8 < cLine; omega) ⟨nest_of I 5 _ _ _ vb k4 rfl, Nat.le_trans (nk_depth 5 k k4) (by decide)⟩ hm g1 (q u x _ (I.tok _) g2 g3)
end
end PL
set_option autoImplicit false
set_option linter.all false
set_option maxRecDepth 20000
set_option maxHeartbeats 1000000
/-! PlDict2: subscripts, membership, stores. -/
namespace PL
open PySem PySem.Spec PyProof.Rows L2
section
variable {X : Cx} {T : List (Addr × Str)} {pins : List (Addr × Obj)} {s : Shared} {σ : L2.St} {H : Hp} {μ : List Addr}
theorem kind_inv {kvs : List (PV × PV)} {k : PV} (h : kindOk kvs k = true) : (tupK k = true ∧ ∀ p ∈ kvs, tupK p.1 = true) ∨ (flatK k = true ∧ ∀ p ∈ kvs, flatK p.1 = true) := by
  unfold kindOk at h
  rw [Bool.or_eq_true, Bool.and_eq_true, Bool.and_eq_true, List.all_eq_true, List.all_eq_true] at h
  exact h
theorem tup_not_flat {k : PV} (h : tupK k = true) (g : flatK k = true) : False := by
  cases k <;> first | (simp [tupK] at h; done) | (simp [flatK] at g; done)
theorem ERs.keys {K : PySem.W.Frag} : ∀ {r : RawT} {kvs : List (PV × PV)}, ERs K μ H r kvs → ∀ p ∈ kvs, tupK p.1 = true
  | _, _, .nil, p, h => by cases h
  | _, _, .cons a b c d r, p, h => by
    rcases List.mem_cons.mp h with rfl | h
    · exact a
    · exact ERs.keys r p h
theorem FRs.keys {K : PySem.W.Frag} : ∀ {r : List (Key × V)} {kvs : List (PV × PV)}, FRs K μ H r kvs → ∀ p ∈ kvs, flatK p.1 = true
  | _, _, .nil, p, h => by cases h
  | _, _, .cons a d r, p, h => by
    rcases List.mem_cons.mp h with rfl | h
    · exact a.1
    · exact FRs.keys r p h
/-- a tuple key's value is an address -/
theorem tup_ref {k : PV} {x : V} {u : Value} (h : tupK k = true) (r : VR X.K μ H x k) (q : RelV x u) : ∃ b, x = .ref b ∧ u = .ref b := by
  obtain ⟨_, xs, rfl⟩ := tupK_inv h
  obtain ⟨a, ys, rfl, _, _⟩ := r.tup_inv
  cases q
  exact ⟨a, rfl, rfl⟩
/-- an empty dict has no keys of any kind -/
theorem dk_emptyH (I : Inv X pins σ H s) {a : Addr} (h : Rd H a (.dK [])) : (a == sysModules) = false ∧ s.heap.DictOfH (nestedKind X.prog X.w) a [] := by
  obtain ⟨z, hd, vs, rel, o, es, ep, h1, h2, h3, h4, h5, h6⟩ := dk_rd I.hok h
  cases rel
  have : es.toList = [] := by
    generalize es.toList = l at h5
    cases h5
    rfl
  exact ⟨hd, o, es, ep, h1, h2, h3, by rw [this]; rfl, by simp, by simp⟩
theorem dict_type (I : Inv X pins σ H s) {a : Addr} {o : HO} {kvs : List (PV × PV)} (h : Rd H a o) (d : DR X.prog X.w X.K μ H a o kvs) : s.TypeIs (.ref a) "dict" := by
  rcases d with ⟨raw, rfl, e, _⟩ | ⟨fs, rfl, e⟩
  · exact (dictT_of I h e).2.typeIs
  · obtain ⟨z, hd, vs, rel, dd⟩ := dk_rd I.hok h
    exact dd.typeIs
theorem d_get {Q : Value → Shared → Prop} {E : Value → Shared → Prop} {A : Around} {a : Addr} {o : HO} {kvs : List (PV × PV)} {k v : PV} {y : V} {u : Value} (hu : A.units + 200 < cLine) (I : Inv X pins σ H s) (h : Rd H a o) (d : DR X.prog X.w X.K μ H a o kvs)
    (hk : kindOk kvs k = true) (vy : VR X.K μ H y k) (ry : RelV y u) (hv : valAt kvs k = some v) (q : ∀ u x s', Inv X pins σ H s' → RelV x u → VR X.K μ H x v → Q u s') : wpAny (model X.prog X.w) A (getItem (.ref a) u) Q E s := by
  have hmem : ∃ p ∈ kvs, p.1 = k := by
    unfold valAt at hv
    obtain ⟨p, hp, _⟩ := Option.map_eq_some_iff.mp hv
    exact ⟨p, List.mem_of_find?_eq_some hp, by simpa using List.find?_some hp⟩
  obtain ⟨p, hp, rfl⟩ := hmem
  rcases d with ⟨raw, rfl, e, _⟩ | ⟨fs, rfl, e⟩
  · have hk' := e.keys p hp
    obtain ⟨b, rfl, rfl⟩ := tup_ref hk' vy ry
    exact dT_get hu I h e hk' vy hv q
  · have hk' := e.keys p hp
    obtain ⟨x, q1, q2⟩ := (e.find hk').1 v hv
    have ey := flat_key hk' vy
    exact d_getItem (by omega) I (.inl ⟨fs, fk p.1, h, ey, q1.symm⟩) ry fun w' s' I' rw' => q w' x s' I' rw' q2
theorem d_isin {Q : Value → Shared → Prop} {E : Value → Shared → Prop} {A : Around} {a : Addr} {o : HO} {kvs : List (PV × PV)} {k : PV} {y : V} {u : Value} (hu : A.units + 200 < cLine) (I : Inv X pins σ H s) (h : Rd H a o) (d : DR X.prog X.w X.K μ H a o kvs)
    (hk : kindOk kvs k = true) (vy : VR X.K μ H y k) (ry : RelV y u) (q : ∀ s', Inv X pins σ H s' → Q (.bool (valAt kvs k).isSome) s') : wpAny (model X.prog X.w) A (compareOp .In u (.ref a)) Q E s := by
  have tupCase : ∀ {raw : RawT}, tupK k = true → (a == sysModules) = false → s.heap.DictOfH (nestedKind X.prog X.w) a raw → (atKey raw (nk k)).isSome = (valAt kvs k).isSome → wpAny (model X.prog X.w) A (compareOp .In u (.ref a)) Q E s := fun {raw} tk hsm hm e => by
    obtain ⟨b, rfl, rfl⟩ := tup_ref tk vy ry
    have k4 := (tupK_inv tk).1
    exact wpAny_in_heap (knd := nestedKind X.prog X.w) (show A.in1.units + 8 < cLine by show A.units + 1 + 8 < cLine; omega) ⟨nest_of I 5 _ _ _ vy k4 rfl, Nat.le_trans (nk_depth 5 k k4) (by decide)⟩ hsm hm (by rw [e]; exact q _ (I.tok _))
  rcases d with ⟨raw, rfl, e, _, ne⟩ | ⟨fs, rfl, e⟩
  · obtain ⟨hsm, hm⟩ := dictT_of I h e
    rcases kind_inv hk with ⟨tk, _⟩ | ⟨fk', ak⟩
    · refine tupCase tk hsm hm ?_
      cases hv : valAt kvs k with
      | none => rw [(e.find tk).2 hv]; rfl
      | some v => obtain ⟨c, u', x, g1, _⟩ := (e.find tk).1 v hv; rw [g1]; rfl
    · have : kvs = [] := by
        cases kvs with
        | nil => rfl
        | cons p r => exact (tup_not_flat (e.keys p List.mem_cons_self) (ak p List.mem_cons_self)).elim
      exact absurd this ne
  · rcases kind_inv hk with ⟨tk, ak⟩ | ⟨fk', ak⟩
    · have : kvs = [] := by
        cases kvs with
        | nil => rfl
        | cons p r => exact (tup_not_flat (ak p List.mem_cons_self) (e.keys p List.mem_cons_self)).elim
      subst this
      cases e
      obtain ⟨hsm, hm⟩ := dk_emptyH I h
      exact tupCase (raw := []) tk hsm hm rfl
    · have ey := flat_key fk' vy
      have es : (valV fs (fk k)).isSome = (valAt kvs k).isSome := by
        cases hv : valAt kvs k with
        | none => rw [(e.find fk').2 hv]; rfl
        | some v => obtain ⟨x, q1, q2⟩ := (e.find fk').1 v hv; rw [q1]; rfl
      refine d_in (by omega) I (.inl ⟨fs, fk k, h, ey, rfl⟩) ry fun s' I' => ?_
      rw [es]; exact q s' I'
theorem d_isnotin {Q : Value → Shared → Prop} {E : Value → Shared → Prop} {A : Around} {a : Addr} {o : HO} {kvs : List (PV × PV)} {k : PV} {y : V} {u : Value} (hu : A.units + 200 < cLine) (I : Inv X pins σ H s) (h : Rd H a o) (d : DR X.prog X.w X.K μ H a o kvs)
    (hk : kindOk kvs k = true) (vy : VR X.K μ H y k) (ry : RelV y u) (q : ∀ s', Inv X pins σ H s' → Q (.bool (!(valAt kvs k).isSome)) s') : wpAny (model X.prog X.w) A (compareOp .NotIn u (.ref a)) Q E s := by
  have tupCase : ∀ {raw : RawT}, tupK k = true → (a == sysModules) = false → s.heap.DictOfH (nestedKind X.prog X.w) a raw → (atKey raw (nk k)).isSome = (valAt kvs k).isSome → wpAny (model X.prog X.w) A (compareOp .NotIn u (.ref a)) Q E s := fun {raw} tk hsm hm e => by
    obtain ⟨b, rfl, rfl⟩ := tup_ref tk vy ry
    have k4 := (tupK_inv tk).1
    show wpAny _ _ (do return Value.bool (!(← contains (.ref a) (.ref b)))) _ _ _
    exact wpAny_bind (PySem.wpAny_contains_heap (knd := nestedKind X.prog X.w) (show A.in1.units + 8 < cLine by show A.units + 1 + 8 < cLine; omega) ⟨nest_of I 5 _ _ _ vy k4 rfl, Nat.le_trans (nk_depth 5 k k4) (by decide)⟩ hsm hm (wpAny_pure (by rw [e]; exact q _ (I.tok _))))
  rcases d with ⟨raw, rfl, e, _, ne⟩ | ⟨fs, rfl, e⟩
  · obtain ⟨hsm, hm⟩ := dictT_of I h e
    rcases kind_inv hk with ⟨tk, _⟩ | ⟨fk', ak⟩
    · refine tupCase tk hsm hm ?_
      cases hv : valAt kvs k with
      | none => rw [(e.find tk).2 hv]; rfl
      | some v => obtain ⟨c, u', x, g1, _⟩ := (e.find tk).1 v hv; rw [g1]; rfl
    · have : kvs = [] := by
        cases kvs with
        | nil => rfl
        | cons p r => exact (tup_not_flat (e.keys p List.mem_cons_self) (ak p List.mem_cons_self)).elim
      exact absurd this ne
  · rcases kind_inv hk with ⟨tk, ak⟩ | ⟨fk', ak⟩
    · have : kvs = [] := by
        cases kvs with
        | nil => rfl
        | cons p r => exact (tup_not_flat (ak p List.mem_cons_self) (e.keys p List.mem_cons_self)).elim
      subst this
      cases e
      obtain ⟨hsm, hm⟩ := dk_emptyH I h
      exact tupCase (raw := []) tk hsm hm rfl
    · have ey := flat_key fk' vy
      have es : (valV fs (fk k)).isSome = (valAt kvs k).isSome := by
        cases hv : valAt kvs k with
        | none => rw [(e.find fk').2 hv]; rfl
        | some v => obtain ⟨x, q1, q2⟩ := (e.find fk').1 v hv; rw [q1]; rfl
      refine d_notIn (by omega) I (.inl ⟨fs, fk k, h, ey, rfl⟩) ry fun s' I' => ?_
      rw [es]; exact q s' I'
/-! ### stores -/
theorem putAt_neg {k v : PV} {p : PV × PV} {ps : List (PV × PV)} (h : (p.1 == k) = false) : PL.putAt k v (p :: ps) = p :: PL.putAt k v ps := by
  rw [PL.putAt, if_neg (by rw [h]; exact Bool.false_ne_true)]
theorem putAt_none {k : NestedKey} {u : Value} : ∀ {r : RawT}, k ∉ r.map (·.1) → r.map (PySem.putAt k u) = r
  | [], _ => rfl
  | x :: r, h => by
    rw [List.map_cons, List.mem_cons, not_or] at h
    rw [List.map_cons, putAt_none h.2]
    unfold PySem.putAt
    rw [if_neg (fun e => h.1 e.symm)]
theorem ERs.old {b : Addr} {k : PV} {v : PV} {x : V} {u : Value} (hk : tupK k = true) (rx : RelV x u) (vx : VR X.K μ H x v) : ∀ {r : RawT} {kvs : List (PV × PV)}, ERs X.K μ H r kvs → (r.map (·.1)).Nodup → (atKey r (nk k)).isSome = true → ERs X.K μ H (r.map (PySem.putAt (nk k) u)) (PL.putAt k v kvs)
  | _, _, .nil, _, h => by simp [atKey] at h
  | _, _, .cons (k := k') (a := a') (u := u') (r := r) h1 h2 h3 h4 q, nd, h => by
    rw [List.map_cons, List.nodup_cons] at nd
    by_cases e : k' = k
    · subst e
      rw [List.map_cons, putAt_none nd.1]
      unfold PySem.putAt PL.putAt
      rw [if_pos rfl, if_pos (beq_self_eq_true k')]
      exact .cons h1 h2 rx vx q
    · have ne : nk k' ≠ nk k := fun z => e (nk_inj 5 5 _ _ (tupK_inv h1).1 (tupK_inv hk).1 z)
      have e1 : (k' == k) = false := beq_eq_false_iff_ne.mpr e
      have h' : (atKey r (nk k)).isSome = true := by simpa [atKey, List.find?_cons, ne] using h
      have ih := ERs.old (b := b) hk rx vx q nd.2 h'
      have e2 : PySem.putAt (nk k) u (nk k', a', u') = (nk k', a', u') := by unfold PySem.putAt; rw [if_neg ne]
      rw [List.map_cons, e2]
      rw [putAt_neg e1]
      exact .cons h1 h2 h3 h4 ih
theorem ERs.newk {b : Addr} {k : PV} {v : PV} {x : V} {u : Value} (hk : tupK k = true) (vb : VR X.K μ H (.ref b) k) (rx : RelV x u) (vx : VR X.K μ H x v) : ∀ {r : RawT} {kvs : List (PV × PV)}, ERs X.K μ H r kvs → atKey r (nk k) = none → ERs X.K μ H (r ++ [(nk k, b, u)]) (PL.putAt k v kvs)
  | _, _, .nil, _ => .cons hk vb rx vx .nil
  | _, _, .cons (k := k') (a := a') (u := u') (r := r) h1 h2 h3 h4 q, h => by
    have e : k' ≠ k := fun e => by subst e; simp [atKey] at h
    have ne : nk k' ≠ nk k := fun z => e (nk_inj 5 5 _ _ (tupK_inv h1).1 (tupK_inv hk).1 z)
    have e1 : (k' == k) = false := beq_eq_false_iff_ne.mpr e
    have h' : atKey r (nk k) = none := by simpa [atKey, List.find?_cons, ne] using h
    rw [putAt_neg e1]
    exact .cons h1 h2 h3 h4 (ERs.newk hk vb rx vx q h')
theorem ERs.put {b : Addr} {k : PV} {v : PV} {x : V} {u : Value} (hk : tupK k = true) (vb : VR X.K μ H (.ref b) k) (rx : RelV x u) (vx : VR X.K μ H x v) {r : RawT} {kvs : List (PV × PV)} (e : ERs X.K μ H r kvs) (nd : (r.map (·.1)).Nodup) : ERs X.K μ H (storedH r (nk k) b u) (PL.putAt k v kvs) := by
  unfold storedH
  split
  · rename_i h; exact ERs.old (b := b) hk rx vx e nd h
  · rename_i h; exact ERs.newk hk vb rx vx e (by simpa using h)
theorem FRs.put {k : PV} {v : PV} {x : V} (hf : FK k) (vx : VR X.K μ H x v) {r : List (Key × V)} {kvs : List (PV × PV)} (e : FRs X.K μ H r kvs) : (r.map (·.1)).Nodup → FRs X.K μ H (putK r (fk k) x) (PL.putAt k v kvs) := by
  have hk := hf.1
  have none : ∀ {r : List (Key × V)}, fk k ∉ r.map (·.1) → r.map (fun kv => if kv.1 = fk k then (kv.1, x) else kv) = r := by
    intro r
    induction r with
    | nil => intro _; rfl
    | cons y r ih =>
      intro h
      rw [List.map_cons, List.mem_cons, not_or] at h
      rw [List.map_cons, ih h.2, if_neg (fun e => h.1 e.symm)]
  have old : ∀ {r : List (Key × V)} {kvs : List (PV × PV)}, FRs X.K μ H r kvs → (r.map (·.1)).Nodup → (valV r (fk k)).isSome = true → FRs X.K μ H (r.map (fun kv => if kv.1 = fk k then (kv.1, x) else kv)) (PL.putAt k v kvs) := by
    intro r kvs e
    induction e with
    | nil => intro _ h; simp [valV] at h
    | cons h1 h4 q ih =>
      rename_i k' v' x' r kvs
      intro nd h
      rw [List.map_cons, List.nodup_cons] at nd
      by_cases e : k' = k
      · subst e
        rw [List.map_cons, none nd.1, if_pos rfl]
        unfold PL.putAt
        rw [if_pos (beq_self_eq_true k')]
        exact .cons h1 vx q
      · have ne : fk k' ≠ fk k := fun z => e (fk_inj h1.1 hk z)
        have e1 : (k' == k) = false := beq_eq_false_iff_ne.mpr e
        rw [valV_neg ne] at h
        rw [List.map_cons, if_neg ne]
        rw [putAt_neg e1]
        exact .cons h1 h4 (ih nd.2 h)
  have newk : ∀ {r : List (Key × V)} {kvs : List (PV × PV)}, FRs X.K μ H r kvs → valV r (fk k) = Option.none → FRs X.K μ H (r ++ [(fk k, x)]) (PL.putAt k v kvs) := by
    intro r kvs e
    induction e with
    | nil => intro _; exact .cons hf vx .nil
    | cons h1 h4 q ih =>
      rename_i k' v' x' r kvs
      intro h
      have e : k' ≠ k := fun e => by subst e; rw [valV_pos rfl] at h; cases h
      have ne : fk k' ≠ fk k := fun z => e (fk_inj h1.1 hk z)
      have e1 : (k' == k) = false := beq_eq_false_iff_ne.mpr e
      rw [valV_neg ne] at h
      rw [putAt_neg e1]
      exact .cons h1 h4 (ih h)
  intro nd
  unfold putK
  rw [valV_any]
  split
  · rename_i h; exact old e nd h
  · rename_i h; exact newk e (by simpa using h)
theorem putAt_ne {k v : PV} : ∀ {kvs : List (PV × PV)}, PL.putAt k v kvs ≠ []
  | [] => nofun
  | p :: ps => by unfold PL.putAt; split <;> nofun
theorem putAt_len (k v : PV) : ∀ kvs : List (PV × PV), (PL.putAt k v kvs).length ≤ kvs.length + 1
  | [] => Nat.le_refl _
  | p :: ps => by
    unfold PL.putAt
    split
    · simp
    · have := putAt_len k v ps
      simp only [List.length_cons]; omega
theorem FRs.nodup {r : List (Key × V)} {a : Addr} (I : Inv X pins σ H s) (h : H a = some (.dK r)) : (r.map (·.1)).Nodup := by
  obtain ⟨z, hd, vs, rel, o, es, ep, h1, h2, h3, h4, h5, h6⟩ := dk_of I.hok h
  rw [rel.keys]; exact h6
theorem ext_ne {φ ψ : Heap → Prop} {h : Heap} (p : φ h) (n : ¬ ψ h) : HO.ext φ ≠ HO.ext ψ := fun e => n (by
  injection e with e
  rw [← e]; exact p)
theorem wr_ext (φ : Heap → Prop) : (∀ xs, HO.ext φ ≠ .tup xs) ∧ (∀ u v, HO.ext φ ≠ .frz u v) ∧ (∀ ps, HO.ext φ ≠ .tbl ps) := ⟨(fun _ e => nomatch e), (fun _ _ e => nomatch e), (fun _ e => nomatch e)⟩
theorem mut_ext (φ : Heap → Prop) : Mut (some (HO.ext φ)) := True.intro
theorem wr_dictT {a : Addr} {raw : RawT} (hc : H a = some (DictT X.prog X.w a raw)) (I : Inv X pins σ H s) : Wr a (DictT X.prog X.w a raw) := by
  obtain ⟨w1, w2, w3⟩ := wr_ext (fun h => (a == sysModules) = false ∧ ∃ o es ep, h.get? a = some o ∧ o.ExactDict ∧ o.data = .dict es ep ∧ es.toList = raw.map (entryOfKey (nestedKind X.prog X.w)) ∧ (raw.map (·.1)).Nodup)
  refine ⟨w1, w2, w3, fun x => ?_⟩
  have h2 := dictT_obj (I.hok _ _ hc)
  refine ext_ne (h := s.heap) h2 ?_
  rintro ⟨oc, vs, t, g1, g2, _⟩
  obtain ⟨_, o, es, ep, e1, _, e3, _⟩ := h2
  rw [e1] at g1
  cases g1
  rw [e3] at g2
  cases g2
theorem dictT_mk {P : Program} {w : World} {H : Hp} {h : Heap} {a : Addr} {raw : RawT} (q : (a == sysModules) = false ∧ ∃ o es ep, h.get? a = some o ∧ o.ExactDict ∧ o.data = .dict es ep ∧ es.toList = raw.map (entryOfKey (nestedKind P w)) ∧ (raw.map (·.1)).Nodup) : ObjOk P w H h a (DictT P w a raw) := by
  refine ⟨q, ?_, ?_⟩
  · obtain ⟨_, o, _, _, e, _⟩ := q
    exact ⟨o, e⟩
  · rintro h1 h2 ⟨z1, ob, es, ep, g1, g2⟩ c
    exact ⟨z1, ob, es, ep, c _ g1, g2⟩
/-- d[k] = v -/
theorem d_set {Q : Unit → Shared → Prop} {E : Value → Shared → Prop} {A : Around} {hp : Hv} {l : Nat} {a : Addr} {kvs : List (PV × PV)} {k v : PV} {y x : V} {u r : Value} (hu : A.units + 200 < cLine) (I : Inv X pins σ H s) (R : HR X.prog X.w X.K μ H T hp) (hl : μ[l]? = some a) (he : hp[l]? = some (.dct kvs))
    (hk : kindOk kvs k = true) (hz : kvs.length < sizeLine) (vy : VR X.K μ H y k) (ry : RelV y u) (vx : VR X.K μ H x v) (rx : RelV x r)
    (q : ∀ H' s', Inv X pins σ H' s' → Ext μ H μ H' → HR X.prog X.w X.K μ H' T (PL.upd hp l (.dct (PL.putAt k v kvs))) → Q () s') : wpAny (model X.prog X.w) A (setItem (.ref a) u r) Q E s := by
  obtain ⟨b, h1, o, h2, d⟩ := R.obj l _ he
  rw [hl] at h1
  cases h1
  have tupCase : ∀ {raw : RawT}, ERs X.K μ H raw kvs → tupK k = true → Wr a o → Mut (some o) → (a == sysModules) = false → s.heap.DictOfH (nestedKind X.prog X.w) a raw → wpAny (model X.prog X.w) A (setItem (.ref a) u r) Q E s := fun {raw} e tk n mu hsm hm => by
    obtain ⟨b, rfl, rfl⟩ := tup_ref tk vy ry
    have k4 := (tupK_inv tk).1
    have nd : (raw.map (·.1)).Nodup := by obtain ⟨_, _, _, _, _, _, _, _, nd⟩ := hm; exact nd
    have ep := ERs.put tk vy rx vx e nd
    have hlen : (storedH raw (nk k) b r).length ≤ sizeLine := by
      rw [ep.len]
      have := putAt_len k v kvs
      omega
    refine wpAny_setItem_heap (knd := nestedKind X.prog X.w) (hsz := by rw [e.len]; exact Nat.le_of_lt hz) (show A.in1.units + 8 < cLine by show A.units + 1 + 8 < cLine; omega) ⟨nest_of I 5 _ _ _ vy k4 rfl, Nat.le_trans (nk_depth 5 k k4) (by decide)⟩ hm fun h' hm' hs => ?_
    obtain ⟨ob, es, ep', g1, g2, g3, g4, g5, g6⟩ := hm'
    have X1 := R.write (o' := DictT X.prog X.w a (storedH raw (nk k) b r)) (q' := .dct (PL.putAt k v kvs)) he hl h2 n fun E0 => ⟨_, upd_same, .inl ⟨_, rfl, ep.ext E0, hlen, putAt_ne⟩⟩
    exact q (L2.upd H a (DictT X.prog X.w a (storedH raw (nk k) b r))) _ (d_write I (by rw [h2]; exact mu) hs ⟨ob, g1⟩ (dictT_mk ⟨hsm, ob, es, ep', g1, g2, g3, g4, g6⟩)) X1.1 X1.2
  have wk : ∀ fs, Wr a (.dK fs) := fun fs => ⟨(fun _ e => nomatch e), (fun _ _ e => nomatch e), (fun _ e => nomatch e), (fun _ e => nomatch e)⟩
  rcases d with ⟨raw, rfl, e, _, ne⟩ | ⟨fs, rfl, e⟩
  · obtain ⟨hsm, hm⟩ := dictT_of I (.inl h2) e
    rcases kind_inv hk with ⟨tk, _⟩ | ⟨fk', ak⟩
    · exact tupCase e tk (wr_dictT h2 I) (mut_ext _) hsm hm
    · have : kvs = [] := by
        cases kvs with
        | nil => rfl
        | cons p r => exact (tup_not_flat (e.keys p List.mem_cons_self) (ak p List.mem_cons_self)).elim
      exact absurd this ne
  · rcases kind_inv hk with ⟨tk, ak⟩ | ⟨fk', ak⟩
    · have : kvs = [] := by
        cases kvs with
        | nil => rfl
        | cons p r => exact (tup_not_flat (ak p List.mem_cons_self) (e.keys p List.mem_cons_self)).elim
      subst this
      cases e
      obtain ⟨hsm, hm⟩ := dk_emptyH I (.inl h2)
      exact tupCase (raw := []) .nil tk (wk _) True.intro hsm hm
    · have ey := flat_key fk' vy
      subst ey
      have ep := FRs.put ⟨fk', fun z hz => by subst hz; exact vy.str_ok⟩ vx e (FRs.nodup I h2)
      have X1 := R.write (o' := .dK (putK fs (fk k) x)) (q' := .dct (PL.putAt k v kvs)) he hl h2 (wk _) fun E0 => ⟨_, upd_same, .inr ⟨_, rfl, ep.ext E0⟩⟩
      exact d_setItem (by omega) I (DPut.k h2 (by rw [e.len]; exact hz)) ry rx fun s' I' => q _ s' I' X1.1 X1.2
end
end PL
set_option autoImplicit false
set_option linter.all false
set_option maxRecDepth 20000
set_option maxHeartbeats 1000000
/-! PlOps5: membership, identity, subscripts, slices, stores. -/
namespace PL
open PySem PySem.Spec PyProof.Rows L2
section
variable {X : Cx} {T : List (Addr × Str)} {pins : List (Addr × Obj)} {s : Shared} {σ : L2.St} {H : Hp} {μ : List Addr}
theorem any_toDs (d : PyData) (f : PyData → Bool) (g : PV → Bool) : ∀ vs : List PV, (∀ v ∈ vs, f (toD v) = g v) → (toDs vs).any f = vs.any g
  | [], _ => rfl
  | v :: vs, h => by
    show (toD v :: toDs vs).any f = _
    rw [List.any_cons, List.any_cons, h v List.mem_cons_self, any_toDs d f g vs fun u hu => h u (List.mem_cons_of_mem _ hu)]
theorem pures_mem : ∀ {vs : List PV}, PV.pures vs = true → ∀ v ∈ vs, PV.pure v = true
  | _ :: _, h, v, hv => by
    rw [PV.pures, Bool.and_eq_true] at h
    rcases List.mem_cons.mp hv with rfl | hv
    · exact h.1
    · exact pures_mem h.2 v hv
/-- the items of a list or a tuple, as they are read -/
theorem HR.items {P : Program} {w : World} {K : PySem.W.Frag} {hp : Hv} (R : HR P w K μ H T hp) {v : PV} {x : V} {vs : List PV} (vx : VR K μ H x v) (e : items? hp v = some vs) :
    ∃ a xs, x = .ref a ∧ VRs K μ H xs vs ∧ ((∃ l, v = .ref l ∧ hp[l]? = some (.lst vs) ∧ μ[l]? = some a ∧ H a = some (.lst xs)) ∨ (v = .tup vs ∧ SqT K H a xs)) := by
  cases v with
  | tup us =>
    cases e
    obtain ⟨a, xs, rfl, h1, h2⟩ := vx.tup_inv
    exact ⟨a, xs, rfl, h2, .inr ⟨rfl, h1⟩⟩
  | ref l =>
    obtain ⟨a, rfl, ha⟩ := vx.ref_inv
    dsimp only [items?] at e
    split at e
    · rename_i us e1
      cases e
      obtain ⟨xs, h1, h2⟩ := R.lst_at ha e1
      exact ⟨a, xs, rfl, h2, .inl ⟨l, rfl, e1, ha, h1⟩⟩
    · cases e
  | _ => cases e
theorem canLayAll_of {K : PySem.W.Frag} {xs : List V} {vs : List PV} (r : VRs K μ H xs vs) : PyData.canLayAll0 (toDs vs) = true := r.lay
theorem in_room {A : Around} {d : PyData} {a : PV} (hu : A.units + 200 < cLine) (h : depth a ≤ 60) : A.in1.units + (toD a).depth < cLine := by
  rw [depth_toD]
  show A.units + 1 + _ < _
  omega
/-- what «in» asks, by its three kinds -/
theorem evIn_cases {h : Hv} {a b : PV} {k : Bool} (e : evIn a b h = some k) :
    (∃ kvs, dict? h b = some kvs ∧ kindOk kvs a = true ∧ k = (valAt kvs a).isSome) ∨ (∃ c y, a = .str [c] ∧ b = .str y ∧ k = y.contains c) ∨
      (∃ ys, items? h b = some ys ∧ PV.fit a = true ∧ PV.fits ys = true ∧ k = inItems a ys) := by
  unfold evIn at e
  split at e
  · rename_i kvs e1
    split at e
    · rename_i hk
      cases e
      exact .inl ⟨kvs, e1, hk, rfl⟩
    · cases e
  · split at e
    · cases e
      exact .inr (.inl ⟨_, _, rfl, rfl, rfl⟩)
    · cases e
    · cases e
    · split at e
      · rename_i ys e1
        split at e
        · rename_i hc
          rw [Bool.and_eq_true] at hc
          cases e
          exact .inr (.inr ⟨ys, e1, hc.1, hc.2, rfl⟩)
        · cases e
      · cases e
theorem mem_contains (c : Nat) (y : List Nat) : decide (c ∈ (tx y).cps.toList) = y.contains c := by
  rw [List.contains_eq_mem]
theorem inItems_data {a : PV} {ys : List PV} (ha : PV.pure a = true) (hy : PV.pures ys = true) : ((toDs ys).any fun y => PyData.eqv y (toD a)) = inItems a ys :=
  any_toDs (toD a) _ _ ys fun v hv => eqv_toD v a (pures_mem hy v hv) ha
theorem oD_in (hu : X.A.units + 200 < cLine) : OpR X (compareOp .In) (rO2 X.prog X.w X.K T (gC .isin)) := by
  intro pins s σ H x y v u Q I rx ry h
  obtain ⟨μ, hp, a, b, r, hp', R, va, vb, ev, post⟩ := h
  obtain ⟨k, e, rfl, rfl⟩ := retB_ok ev
  rcases evIn_cases e with ⟨kvs, e1, hk, rfl⟩ | ⟨c, z, rfl, rfl, rfl⟩ | ⟨ys, e1, fa, fy, rfl⟩
  · obtain ⟨p, o, rfl, h1, h2⟩ := R.dict_at vb e1
    cases ry
    exact d_isin hu I h1 h2 hk va rx fun s' I' => ⟨.bl _, H, I', rfl, post.val R (.bl _)⟩
  · rw [va.str_inv] at rx
    rw [vb.str_inv] at ry
    exact op_in_sign pins s σ H _ _ v u Q I rx ry ⟨c, tx z, rfl, rfl, by rw [mem_contains]; exact post.val R (.bl _)⟩
  · obtain ⟨p, xs, rfl, rxs, hq⟩ := R.items vb e1
    cases ry
    obtain ⟨pa, da⟩ := fit_inv fa
    obtain ⟨py, dy⟩ := fits_inv fy
    obtain ⟨as, r1⟩ := reads_of I va pa rx
    have hm : X.A.units + 1 + min (PyData.depthAll (toDs ys)) (toD a).depth < cLine := by
      rw [depth_toDs, depth_toD]
      have : min (depths ys) (depth a) ≤ depths ys := Nat.min_le_left _ _
      omega
    have fin : EP X pins σ Q (.bool ((toDs ys).any fun y => PyData.eqv y (toD a))) s := by
      rw [inItems_data pa py]
      exact ⟨.bl _, H, I, rfl, post.val R (.bl _)⟩
    rcases hq with ⟨l, _, _, _, h1⟩ | ⟨_, h1⟩
    · obtain ⟨bs, r2⟩ := Dp.reads I (.list (toDs ys)) (.ref p) (.ref p) (.lst (.inl (.inl h1)) (rxs.dp py)) rfl
      exact SeqAt.in_list_reads r2 r1 rxs.lay va.lay hm fin
    · obtain ⟨bs, r2⟩ := Dp.reads I (.tuple (toDs ys)) (.ref p) (.ref p) (.tup h1 (rxs.dp py)) rfl
      exact SeqAt.in_tuple_reads r2 r1 rxs.lay va.lay hm fin
theorem oD_notin (hu : X.A.units + 200 < cLine) : OpR X (compareOp .NotIn) (rO2 X.prog X.w X.K T (gC .notin)) := by
  intro pins s σ H x y v u Q I rx ry h
  obtain ⟨μ, hp, a, b, r, hp', R, va, vb, ev, post⟩ := h
  obtain ⟨k, e, rfl, rfl⟩ := retB_ok ev
  dsimp only [evCm] at e
  obtain ⟨k', e', rfl⟩ := Option.map_eq_some_iff.mp e
  rcases evIn_cases e' with ⟨kvs, e1, hk, rfl⟩ | ⟨c, z, rfl, rfl, rfl⟩ | ⟨ys, e1, fa, fy, rfl⟩
  · obtain ⟨p, o, rfl, h1, h2⟩ := R.dict_at vb e1
    cases ry
    exact d_isnotin hu I h1 h2 hk va rx fun s' I' => ⟨.bl _, H, I', rfl, post.val R (.bl _)⟩
  · rw [va.str_inv] at rx
    rw [vb.str_inv] at ry
    exact op_notIn_sign pins s σ H _ _ v u Q I rx ry ⟨c, tx z, rfl, rfl, by rw [mem_contains]; exact post.val R (.bl _)⟩
  · obtain ⟨p, xs, rfl, rxs, hq⟩ := R.items vb e1
    cases ry
    obtain ⟨pa, da⟩ := fit_inv fa
    obtain ⟨py, dy⟩ := fits_inv fy
    obtain ⟨as, r1⟩ := reads_of I va pa rx
    have hm : X.A.units + 1 + min (PyData.depthAll (toDs ys)) (toD a).depth < cLine := by
      rw [depth_toDs, depth_toD]
      have : min (depths ys) (depth a) ≤ depths ys := Nat.min_le_left _ _
      omega
    have fin : EP X pins σ Q (.bool (!(toDs ys).any fun y => PyData.eqv y (toD a))) s := by
      rw [inItems_data pa py]
      exact ⟨.bl _, H, I, rfl, post.val R (.bl _)⟩
    rcases hq with ⟨l, _, _, _, h1⟩ | ⟨_, h1⟩
    · obtain ⟨bs, r2⟩ := Dp.reads I (.list (toDs ys)) (.ref p) (.ref p) (.lst (.inl (.inl h1)) (rxs.dp py)) rfl
      exact SeqAt.notIn_list_reads r2 r1 rxs.lay va.lay hm fin
    · obtain ⟨bs, r2⟩ := Dp.reads I (.tuple (toDs ys)) (.ref p) (.ref p) (.tup h1 (rxs.dp py)) rfl
      exact SeqAt.notIn_tuple_reads r2 r1 rxs.lay va.lay hm fin
theorem beq_non {a : PV} {x : V} (h : VR X.K μ H x a) : decide (x = .non) = (a == PV.non) := by
  cases h <;> rfl
theorem evIs_cases {a b : PV} {k : Bool} (e : evIs a b = some k) : (b = .non ∧ k = (a == .non)) ∨ (∃ x y, a = .bl x ∧ b = .bl y ∧ k = (x == y)) := by
  unfold evIs at e
  split at e <;> cases e
  · exact .inl ⟨rfl, rfl⟩
  · exact .inr ⟨_, _, rfl, rfl, rfl⟩
theorem oD_is : OpR X (compareOp .Is) (rO2 X.prog X.w X.K T (gC .is)) := by
  intro pins s σ H x y v u Q I rx ry h
  obtain ⟨μ, hp, a, b, r, hp', R, va, vb, ev, post⟩ := h
  obtain ⟨k, e, rfl, rfl⟩ := retB_ok ev
  rcases evIs_cases e with ⟨rfl, rfl⟩ | ⟨p, q, rfl, rfl, rfl⟩
  · rw [vb.non_inv] at ry
    exact op_isN pins s σ H _ _ v u Q I rx ry ⟨rfl, by rw [beq_non va]; exact post.val R (.bl _)⟩
  · rw [va.bl_inv] at rx
    rw [vb.bl_inv] at ry
    exact op_isBl pins s σ H _ _ v u Q I rx ry ⟨p, q, rfl, rfl, by rw [← Bool.beq_eq_decide_eq]; exact post.val R (.bl _)⟩
theorem oD_isnot : OpR X (compareOp .IsNot) (rO2 X.prog X.w X.K T (gC .isnot)) := by
  intro pins s σ H x y v u Q I rx ry h
  obtain ⟨μ, hp, a, b, r, hp', R, va, vb, ev, post⟩ := h
  obtain ⟨k, e, rfl, rfl⟩ := retB_ok ev
  dsimp only [evCm] at e
  obtain ⟨k', e', rfl⟩ := Option.map_eq_some_iff.mp e
  rcases evIs_cases e' with ⟨rfl, rfl⟩ | ⟨p, q, rfl, rfl, rfl⟩
  · rw [vb.non_inv] at ry
    exact op_notN pins s σ H _ _ v u Q I rx ry ⟨rfl, by rw [beq_non va]; exact post.val R (.bl _)⟩
  · rw [va.bl_inv] at rx
    rw [vb.bl_inv] at ry
    exact op_notBl pins s σ H _ _ v u Q I rx ry ⟨p, q, rfl, rfl, by rw [← Bool.beq_eq_decide_eq]; exact post.val R (.bl _)⟩
def cmM : Cm → CmpOp → Bool
  | .eq, .Eq => true
  | .ne, .NotEq => true
  | .lt, .Lt => true
  | .le, .LtE => true
  | .gt, .Gt => true
  | .ge, .GtE => true
  | .isin, .In => true
  | .notin, .NotIn => true
  | .is, .Is => true
  | .isnot, .IsNot => true
  | _, _ => false
theorem oD_cmp (hu : X.A.units + 200 < cLine) {o : Cm} {op : CmpOp} (h : cmM o op = true) : OpR X (compareOp op) (rO2 X.prog X.w X.K T (gC o)) := by
  cases o <;> cases op <;> try (exact absurd h Bool.false_ne_true)
  · exact oD_eq hu
  · exact oD_ne hu
  · exact oD_lt hu
  · exact oD_le hu
  · exact oD_gt hu
  · exact oD_ge hu
  · exact oD_in hu
  · exact oD_notin hu
  · exact oD_is
  · exact oD_isnot

/-! ### subscripts -/
theorem ix_ixN {n : Nat} {j : Int} {k : Nat} (h : ix n j = some k) : ixN n j = some k := by
  unfold ix at h
  unfold ixN
  split
  · rename_i h0; rw [if_pos h0] at h; exact h
  · rename_i h0
    rw [if_neg h0] at h
    by_cases h1 : -(n : Int) ≤ j
    · rw [if_pos (by omega)] at h; rw [if_pos h1]; exact h
    · rw [if_neg (by omega)] at h; cases h
theorem ix_atI {α : Type} {xs : List α} {j : Int} {k : Nat} {v : α} (h : ix xs.length j = some k) (g : xs[k]? = some v) : atI xs j = some v := by
  have : ixN xs.length j = some k := ix_ixN h
  unfold atI
  rw [this]; exact g
theorem oD_idx (hu : X.A.units + 200 < cLine) : IxR X (rO2 X.prog X.w X.K T evIdx) := by
  intro value slice pins s σ H x y v u Q I rx ry h hs
  obtain ⟨μ, hp, a, b, r, hp', R, va, vb, ev, post⟩ := h
  unfold evIdx at ev
  split at ev
  · rename_i kvs e1
    split at ev
    · rename_i hk
      split at ev
      · rename_i z e2
        cases ev
        obtain ⟨p, o, rfl, h1, h2⟩ := R.dict_at va e1
        cases rx
        exact tail_any (dict_type I h1 h2) PySem.F.slot_dict_getitem.lookup (d_get hu I h1 h2 hk vb ry e2 fun w' x' s' I' r1 r2 => ⟨x', H, I', r1, post.val R r2⟩) hs
      · cases ev
    · cases ev
  · split at ev
    · rename_i j
      rw [vb.int_inv] at ry
      split at ev
      · rename_i z
        split at ev
        · rename_i k e2
          split at ev
          · rename_i c e3
            cases ev
            have hok := va.str_ok
            rw [va.str_inv] at rx
            refine ix_str value slice pins s σ H _ _ v u Q I rx ry ⟨_, j, c, rfl, rfl, by rw [tx_len]; exact hok.1, ix_atI (by simpa using e2) (by simpa using e3), post.val R (.str [c] ?_)⟩ hs
            exact hok.sub (by have := (List.getElem?_eq_some_iff.mp e3).1; simp only [List.length_cons, List.length_nil]; omega) (fun d hd => by rw [List.mem_singleton.mp hd]; exact List.mem_of_getElem? e3)
          · cases ev
        · cases ev
      · split at ev
        · rename_i xs e2
          split at ev
          · rename_i k e3
            split at ev
            · rename_i w' e4
              cases ev
              obtain ⟨p, ys, rfl, rxs, hq⟩ := R.items va e2
              obtain ⟨x', g1, g2⟩ := rxs.get' e4
              have at' : atI ys j = some x' := ix_atI (by rw [rxs.len]; exact e3) g1
              rcases hq with ⟨l, _, _, _, h1⟩ | ⟨_, h1⟩
              · exact ix_list value slice pins s σ H _ _ v u Q I rx ry ⟨p, ys, j, x', rfl, rfl, .inl (.inl h1), at', post.val R g2⟩ hs
              · exact ix_tup value slice pins s σ H _ _ v u Q I rx ry ⟨p, ys, j, x', rfl, rfl, h1, at', post.val R g2⟩ hs
            · cases ev
          · cases ev
        · cases ev
    · cases ev
/-! ### slices -/
theorem sx_sIx (n d : Nat) (o : Option Int) : HT.sIx n d o = sx n d o := by
  cases o with
  | none => rfl
  | some v =>
    show (if v < 0 then (v + (n : Int)).toNat else min v.toNat n) = if 0 ≤ v then min v.toNat n else (v + n).toNat
    by_cases h : 0 ≤ v
    · rw [if_pos h, if_neg (by omega)]
    · rw [if_neg h, if_pos (by omega)]
theorem cutV_eq (xs : List V) (lo hi : Option Int) : cutV xs lo hi = cutL xs lo hi := by
  unfold cutV cutL
  rw [sx_sIx, sx_sIx]
theorem VRs.cut {K : PySem.W.Frag} {xs : List V} {vs : List PV} (r : VRs K μ H xs vs) (lo hi : Option Int) : VRs K μ H (cutV xs lo hi) (cutL vs lo hi) := by
  rw [cutV_eq]
  unfold cutL
  rw [r.len]
  exact VRs.take _ (VRs.drop _ r)
theorem cut_whole {α : Type} {xs : List α} {lo hi : Option Int} (h1 : sx xs.length 0 lo = 0) (h2 : sx xs.length xs.length hi = xs.length) : cutL xs lo hi = xs := by
  unfold cutL
  rw [h1, h2]
  simp
theorem cutL_sub {α : Type} (xs : List α) (lo hi : Option Int) : (cutL xs lo hi).length ≤ xs.length ∧ ∀ c ∈ cutL xs lo hi, c ∈ xs := by
  unfold cutL
  refine ⟨by rw [List.length_take, List.length_drop]; omega, fun c hc => List.mem_of_mem_drop (List.mem_of_mem_take hc)⟩
theorem cutS_eq (x : List Nat) (lo hi : Option Int) : cutS (tx x) lo hi = tx (cutL x lo hi) := by
  unfold cutS cutL
  rw [sx_sIx, sx_sIx, tx_len]
/-- a slice by values -/
def rSl (P : Program) (w : World) (K : PySem.W.Frag) (T : List (Addr × Str)) : V → Option Int → Option Int → Hp → VK → Prop := fun x lo hi H Q => ∃ μ hp u r hp', HR P w K μ H T hp ∧ VR K μ H x u ∧ evSlc u (lo.map .int) (hi.map .int) hp = .ok (r, hp') ∧ Post P w K T μ H hp' r Q
theorem bound_map (o : Option Int) : bound? (o.map .int) = some o := by cases o <;> rfl
theorem oD_slc : SlR X (rSl X.prog X.w X.K T) := by
  intro pins s σ H x v vl vu lo hi sl Q I rx hs pl pu h
  obtain ⟨μ, hp, a, r, hp', R, va, ev, post⟩ := h
  unfold evSlc at ev
  rw [bound_map, bound_map] at ev
  dsimp only at ev
  split at ev
  · rename_i z
    cases ev
    have hok := va.str_ok
    rw [va.str_inv] at rx
    refine sl_str pins s σ H _ v vl vu lo hi sl Q I rx hs pl pu ⟨tx z, rfl, by rw [tx_len]; exact hok.1, ?_⟩
    rw [cutS_eq]
    exact post.val R (.str _ (hok.sub (cutL_sub z lo hi).1 (cutL_sub z lo hi).2))
  · rename_i z
    cases ev
    obtain ⟨p, xs, rfl, h1, rxs⟩ := va.tup_inv
    refine sl_tupA pins s σ H _ v vl vu lo hi sl Q I rx hs pl pu ⟨p, xs, rfl, h1, fun hw => ?_, fun _ c hc => ?_⟩
    · rw [sx_sIx, sx_sIx, rxs.len] at hw
      rw [cut_whole hw.1 hw.2] at post
      exact post.val R (.tup h1 rxs)
    · exact post.tup R (rxs.cut lo hi) hc
  · rename_i l
    split at ev
    · rename_i z e1
      cases ev
      obtain ⟨p, rfl, hp1⟩ := va.ref_inv
      obtain ⟨xs, h1, rxs⟩ := R.lst_at hp1 e1
      exact sl_list pins s σ H _ v vl vu lo hi sl Q I rx hs pl pu ⟨p, xs, rfl, .inl (.inl h1), fun c hc => post.lst R (rxs.cut lo hi) hc⟩
    · cases ev
  · cases ev
end
end PL
set_option autoImplicit false
set_option linter.all false
set_option maxRecDepth 20000
set_option maxHeartbeats 1000000
/-! PlBl: built-in functions. -/
namespace PL
open PySem PySem.Spec PyProof.Rows L2
section
variable {X : Cx} {T : List (Addr × Str)} {pins : List (Addr × Obj)} {s : Shared} {σ : L2.St} {H : Hp} {μ : List Addr}
theorem VRs.one {K : PySem.W.Frag} {xs : List V} {v : PV} (r : VRs K μ H xs [v]) : ∃ x, xs = [x] ∧ VR K μ H x v := by
  cases r with
  | cons a t => cases t; exact ⟨_, rfl, a⟩
theorem VRs.two {K : PySem.W.Frag} {xs : List V} {v u : PV} (r : VRs K μ H xs [v, u]) : ∃ x y, xs = [x, y] ∧ VR K μ H x v ∧ VR K μ H y u := by
  cases r with
  | cons a t =>
    obtain ⟨y, rfl, b⟩ := t.one
    exact ⟨_, y, rfl, a, b⟩
/-- by cases, for a builtin of one value -/
theorem one_of {P : Program} {w : World} {K : PySem.W.Frag} {f : Bl} {xs : List V} {Q : VK} (h : rOs P w K T (evBl f) xs H Q) (h1 : ∀ vs h, vs.length ≠ 1 → evBl f vs h = stk) :
    ∃ μ hp u r hp' x, xs = [x] ∧ HR P w K μ H T hp ∧ VR K μ H x u ∧ evBl f [u] hp = .ok (r, hp') ∧ Post P w K T μ H hp' r Q := by
  obtain ⟨μ, hp, us, r, hp', R, rv, ev, post⟩ := h
  by_cases hl : us.length = 1
  · obtain ⟨u, rfl⟩ := List.length_eq_one_iff.mp hl
    obtain ⟨x, rfl, vx⟩ := rv.one
    exact ⟨μ, hp, u, r, hp', x, rfl, R, vx, ev, post⟩
  · rw [h1 us hp hl] at ev; cases ev
theorem not_one {f : Bl} (hf : f ≠ .min ∧ f ≠ .max) : ∀ (vs : List PV) (h : Hv), vs.length ≠ 1 → evBl f vs h = stk
  | [], _, _ => rfl
  | [_], _, hl => absurd rfl hl
  | [v, u], h, _ => by
    show evBl2 f v u h = stk
    unfold evBl2
    split
    · exact absurd rfl hf.1
    · exact absurd rfl hf.2
    · rfl
  | _ :: _ :: _ :: _, _, _ => rfl
theorem cD_len : CallR X (.builtin "len") (rOs X.prog X.w X.K T (evBl .len)) := by
  intro pins s σ H xs us Q I rx h
  obtain ⟨μ, hp, u, r, hp', x, rfl, R, vx, ev, post⟩ := one_of h (not_one ⟨by decide, by decide⟩)
  cases u with
  | str z =>
    cases ev
    have hok := vx.str_ok
    rw [vx.str_inv] at rx
    refine call_len_str pins s σ H _ us Q I rx ⟨tx z, rfl, by rw [tx_len]; exact hok.1, ?_⟩
    rw [tx_len]; exact post.val R (.int _)
  | tup vs =>
    cases ev
    obtain ⟨a, ys, rfl, h1, r1⟩ := vx.tup_inv
    exact call_len_seq pins s σ H _ us Q I rx ⟨a, ys, rfl, .inr h1, by rw [r1.len]; exact post.val R (.int _)⟩
  | ref l =>
    dsimp only [evBl, evBl1] at ev
    split at ev
    · rename_i vs e1
      cases ev
      obtain ⟨a, rfl, ha⟩ := vx.ref_inv
      obtain ⟨ys, h1, r1⟩ := R.lst_at ha e1
      exact call_len_seq pins s σ H _ us Q I rx ⟨a, ys, rfl, .inl (.inl (.inl h1)), by rw [r1.len]; exact post.val R (.int _)⟩
    all_goals first | (cases ev; done) | skip
    all_goals
      rename_i kvs e1
      cases ev
      obtain ⟨a, o, rfl, h1, h2⟩ := R.dict_at (kvs := kvs) vx (by dsimp only [dict?]; rw [e1])
      obtain ⟨u', rfl, ru⟩ := vals1 rx
      cases ru
      rcases h2 with ⟨raw, rfl, e, z, ne⟩ | ⟨fs, rfl, e⟩
      · obtain ⟨hsm, hm⟩ := dictT_of I h1 e
        have fin : ∀ tk s', Inv X pins σ H s' → EP X pins σ Q (.int (raw.length : Nat) tk) s' := fun tk s' I' => ⟨.int _, H, I', ⟨tk, rfl⟩, by rw [e.len]; exact post.val R (.int _)⟩
        exact PyProof.Rows.call_len_slot (n := raw.length) hm.typeIs F.slot_dict_len (fun Q' hq => PySem.len_keyed hsm ⟨raw, hm, rfl⟩ (by rw [PySem.pairsH_length]; exact hq)) (by omega) (by rw [sizeLine_eq] at z; omega) (fin _ _ (I.tok _))
      · exact d_len I h1 fun t s' I' => ⟨.int _, H, I', ⟨t, rfl⟩, by rw [e.len]; exact post.val R (.int _)⟩
  | non => cases ev
  | bl b => cases ev
  | int i => cases ev
  | fl xs => cases ev
theorem cD_abs : CallR X (.builtin "abs") (rOs X.prog X.w X.K T (evBl .abs)) := by
  intro pins s σ H xs us Q I rx h
  obtain ⟨μ, hp, u, r, hp', x, rfl, R, vx, ev, post⟩ := one_of h (not_one ⟨by decide, by decide⟩)
  cases u <;> first | (cases ev; done) | skip
  cases ev
  rw [vx.int_inv] at rx
  exact call_abs pins s σ H _ us Q I rx ⟨_, rfl, post.val R (.int _)⟩
theorem cD_ord : CallR X (.builtin "ord") (rOs X.prog X.w X.K T (evBl .ord)) := by
  intro pins s σ H xs us Q I rx h
  obtain ⟨μ, hp, u, r, hp', x, rfl, R, vx, ev, post⟩ := one_of h (not_one ⟨by decide, by decide⟩)
  cases u <;> first | (cases ev; done) | skip
  rename_i z
  match z, ev with
  | [c], ev =>
    cases ev
    rw [vx.str_inv] at rx
    exact call_ord pins s σ H _ us Q I rx ⟨_, rfl, rfl, post.val R (.int _)⟩
theorem VRs.ints {K : PySem.W.Frag} : ∀ {xs : List V} {vs : List PV} {ns : List Int}, VRs K μ H xs vs → ints? vs = some ns → xs = ns.map V.int
  | _, _, ns, .nil, h => by
    have : ns = [] := by simpa [ints?] using h.symm
    subst this; rfl
  | _, _, ns, .cons (v := v) (vs := vs) a r, h => by
    unfold ints? at h
    rw [List.mapM_cons] at h
    cases v <;> first | (simp at h; done) | skip
    rename_i i
    cases e : ints? vs with
    | none =>
      unfold ints? at e
      rw [e] at h
      simp at h
    | some ms =>
      have e' := e
      unfold ints? at e
      rw [e] at h
      simp at h
      subst h
      rw [a.int_inv, VRs.ints r e']; rfl
theorem VRs.bools {K : PySem.W.Frag} : ∀ {xs : List V} {vs : List PV} {ns : List Bool}, VRs K μ H xs vs → bools? vs = some ns → xs = ns.map V.bl
  | _, _, ns, .nil, h => by
    have : ns = [] := by simpa [bools?] using h.symm
    subst this; rfl
  | _, _, ns, .cons (v := v) (vs := vs) a r, h => by
    unfold bools? at h
    rw [List.mapM_cons] at h
    cases v <;> first | (simp at h; done) | skip
    rename_i i
    cases e : bools? vs with
    | none =>
      unfold bools? at e
      rw [e] at h
      simp at h
    | some ms =>
      have e' := e
      unfold bools? at e
      rw [e] at h
      simp at h
      subst h
      rw [a.bl_inv, VRs.bools r e']; rfl
theorem items_ref {P : Program} {w : World} {K : PySem.W.Frag} {hp : Hv} (R : HR P w K μ H T hp) {l : Nat} {x : V} {vs : List PV} (vx : VR K μ H x (.ref l)) (e : items? hp (.ref l) = some vs) : ∃ a xs, x = .ref a ∧ H a = some (.lst xs) ∧ VRs K μ H xs vs := by
  obtain ⟨a, xs, rfl, r, h⟩ := R.items vx e
  rcases h with ⟨_, _, _, _, h⟩ | ⟨h, _⟩
  · exact ⟨a, xs, rfl, h, r⟩
  · cases h
theorem cD_sum (hc : X.calm = true) : CallR X (.builtin "sum") (rOs X.prog X.w X.K T (evBl .sum)) := by
  intro pins s σ H xs us Q I rx h
  obtain ⟨μ, hp, u, r, hp', x, rfl, R, vx, ev, post⟩ := one_of h (not_one ⟨by decide, by decide⟩)
  cases u <;> first | (cases ev; done) | skip
  dsimp only [evBl, evBl1] at ev
  split at ev
  · rename_i vs e1
    split at ev
    · rename_i ns e2
      cases ev
      obtain ⟨a, ys, rfl, h1, r1⟩ := items_ref R vx e1
      have e3 := r1.ints e2
      subst e3
      exact cr_sum hc pins s σ H _ us Q I rx ⟨a, ns, rfl, .inl (.inl h1), post.val R (.int _)⟩
    · cases ev
  · cases ev
theorem cD_all (hc : X.calm = true) : CallR X (.builtin "all") (rOs X.prog X.w X.K T (evBl .all)) := by
  intro pins s σ H xs us Q I rx h
  obtain ⟨μ, hp, u, r, hp', x, rfl, R, vx, ev, post⟩ := one_of h (not_one ⟨by decide, by decide⟩)
  cases u <;> first | (cases ev; done) | skip
  dsimp only [evBl, evBl1] at ev
  split at ev
  · rename_i vs e1
    split at ev
    · rename_i ns e2
      cases ev
      obtain ⟨a, ys, rfl, h1, r1⟩ := items_ref R vx e1
      have e3 := r1.bools e2
      subst e3
      exact cr_all hc pins s σ H _ us Q I rx ⟨a, ns, rfl, .inl (.inl h1), post.val R (.bl _)⟩
    · cases ev
  · cases ev
theorem cD_any (hc : X.calm = true) : CallR X (.builtin "any") (rOs X.prog X.w X.K T (evBl .any)) := by
  intro pins s σ H xs us Q I rx h
  obtain ⟨μ, hp, u, r, hp', x, rfl, R, vx, ev, post⟩ := one_of h (not_one ⟨by decide, by decide⟩)
  cases u <;> first | (cases ev; done) | skip
  dsimp only [evBl, evBl1] at ev
  split at ev
  · rename_i vs e1
    split at ev
    · rename_i ns e2
      cases ev
      obtain ⟨a, ys, rfl, h1, r1⟩ := items_ref R vx e1
      have e3 := r1.bools e2
      subst e3
      exact cr_any hc pins s σ H _ us Q I rx ⟨a, ns, rfl, .inl (.inl h1), post.val R (.bl _)⟩
    · cases ev
  · cases ev
theorem cD_tuple : CallR X (.type "tuple") (rOs X.prog X.w X.K T (evBl .tuple)) := by
  intro pins s σ H xs us Q I rx h
  obtain ⟨μ, hp, u, r, hp', x, rfl, R, vx, ev, post⟩ := one_of h (not_one ⟨by decide, by decide⟩)
  cases u <;> first | (cases ev; done) | skip
  · cases ev
    obtain ⟨a, ys, rfl, h1, r1⟩ := vx.tup_inv
    exact call_tuple_of pins s σ H _ us Q I rx ⟨a, ys, rfl, .inr ⟨h1, post.val R vx⟩⟩
  · dsimp only [evBl, evBl1] at ev
    split at ev
    · rename_i vs e1
      cases ev
      obtain ⟨a, rfl, ha⟩ := vx.ref_inv
      obtain ⟨ys, h1, r1⟩ := R.lst_at ha e1
      exact call_tuple_of pins s σ H _ us Q I rx ⟨a, ys, rfl, .inl ⟨.inl (.inl h1), fun c hc => post.tup R r1 hc⟩⟩
    · cases ev
theorem cD_list : CallR X (.type "list") (rOs X.prog X.w X.K T (evBl .list)) := by
  intro pins s σ H xs us Q I rx h
  obtain ⟨μ, hp, u, r, hp', x, rfl, R, vx, ev, post⟩ := one_of h (not_one ⟨by decide, by decide⟩)
  cases u <;> first | (cases ev; done) | skip
  · cases ev
    obtain ⟨a, ys, rfl, h1, r1⟩ := vx.tup_inv
    exact call_list_of pins s σ H _ us Q I rx ⟨a, ys, rfl, .inr h1, fun c hc => post.lst R r1 hc⟩
  · dsimp only [evBl, evBl1] at ev
    split at ev
    · rename_i vs e1
      cases ev
      obtain ⟨a, rfl, ha⟩ := vx.ref_inv
      obtain ⟨ys, h1, r1⟩ := R.lst_at ha e1
      exact call_list_of pins s σ H _ us Q I rx ⟨a, ys, rfl, .inl (.inl (.inl h1)), fun c hc => post.lst R r1 hc⟩
    · cases ev
  · cases ev
    obtain ⟨a, ys, rfl, h1, r1⟩ := vx.fl_inv
    exact call_list_of pins s σ H _ us Q I rx ⟨a, ys, rfl, .inl h1.seq, fun c hc => post.lst R r1 hc⟩
end
end PL
set_option autoImplicit false
set_option linter.all false
set_option maxRecDepth 20000
set_option maxHeartbeats 1000000
/-! PlBl2: built-in functions, more of them. -/
namespace PL
open PySem PySem.Spec PyProof.Rows L2
theorem digits_eq (n : Nat) : (Nat.toDigits 10 n).map Char.toNat = TL.numL n := rfl
theorem numText_str (i : Int) : Str.ofString (toString i) = tx (numText i) := by
  cases i with
  | ofNat n =>
    have := TL.tl_num n
    apply TL.ext_tl
    rw [show (Int.ofNat n) = ((n : Nat) : Int) from rfl, this]
    show _ = (tx (TL.numL n)).cps.toList
    simp
  | negSucc n =>
    rw [Str.ofString_eq_toList]
    have e : toString (Int.negSucc n) = "-" ++ toString (n + 1) := rfl
    rw [e, String.toList_append, List.map_append]
    have e2 : (toString (n + 1)).toList.map Char.toNat = TL.numL (n + 1) := by
      have := TL.tl_num (n + 1)
      have h2 : (Str.ofString (toString (((n + 1 : Nat)) : Int))).cps.toList = TL.numL (n + 1) := this
      rw [Str.ofString_eq_toList] at h2
      have h3 : toString (((n + 1 : Nat)) : Int) = toString (n + 1) := rfl
      rw [h3] at h2
      simpa using h2
    rw [e2]
    rfl
theorem numL_code (n : Nat) : ∀ c ∈ TL.numL n, c < 0x110000 := fun c hc => by
  have := TL.numL_digits n c hc
  omega
theorem natAbs_lt (i : Int) (h : i.natAbs.log2 < 1920) : i.natAbs < 2 ^ 1920 := by
  by_cases h0 : i.natAbs = 0
  · rw [h0]; exact Nat.two_pow_pos _
  · exact (Nat.log2_lt h0).mp h
theorem numL_len2 {n k : Nat} (hk : 0 < k) (h : n < 2 ^ k) : (TL.numL n).length ≤ k :=
  TL.numL_len hk (Nat.lt_of_lt_of_le h (Nat.pow_le_pow_left (by decide) k))
theorem numText_len {i : Int} {k : Nat} (hk : 0 < k) (h : i.natAbs < 2 ^ k) : (numText i).length ≤ k + 1 := by
  cases i with
  | ofNat n => exact Nat.le_succ_of_le (numL_len2 hk h)
  | negSucc n => exact Nat.succ_le_succ (numL_len2 hk h)
theorem numText_ok {i : Int} (h : i.natAbs.log2 < 1920) : okS (numText i) := by
  have hl := numText_len (k := 1920) (by decide) (natAbs_lt i h)
  refine ⟨Nat.le_trans hl (by rw [sizeLine_eq]; decide), fun c hc => ?_⟩
  cases i with
  | ofNat n => exact numL_code n c hc
  | negSucc n =>
    rcases List.mem_cons.mp hc with rfl | hc
    · decide
    · exact numL_code (n + 1) c hc
theorem foldl_dig : ∀ (x : List Nat) (n : Nat), (∀ c ∈ x, 48 ≤ c) → x.foldl (fun (n : Int) (c : Nat) => n * 10 + ((c : Int) - 48)) (n : Int) = ((x.foldl (fun acc c => acc * 10 + (c - 48)) n : Nat) : Int)
  | [], _, _ => rfl
  | c :: x, n, h => by
    rw [List.foldl_cons, List.foldl_cons, ← foldl_dig x _ fun d hd => h d (List.mem_cons_of_mem _ hd)]
    have := h c List.mem_cons_self
    congr 1
    omega
section
variable {X : Cx} {T : List (Addr × Str)} {pins : List (Addr × Obj)} {s : Shared} {σ : L2.St} {H : Hp} {μ : List Addr}
theorem cD_int : CallR X (.type "int") (rOs X.prog X.w X.K T (evBl .int)) := by
  intro pins s σ H xs us Q I rx h
  obtain ⟨μ, hp, u, r, hp', x, rfl, R, vx, ev, post⟩ := one_of h (not_one ⟨by decide, by decide⟩)
  cases u <;> first | (cases ev; done) | skip
  · cases ev
    rw [vx.bl_inv] at rx
    exact call_int1 pins s σ H _ us Q I rx (.inr ⟨_, rfl, post.val R (.int _)⟩)
  · cases ev
    rw [vx.int_inv] at rx
    exact call_int1 pins s σ H _ us Q I rx (.inl ⟨_, rfl, post.val R (.int _)⟩)
  · dsimp only [evBl, evBl1] at ev
    split at ev
    · rename_i z hc
      cases ev
      rw [vx.str_inv] at rx
      have hd : ∀ c ∈ z, 48 ≤ c ∧ c ≤ 57 := fun c hz => of_decide_eq_true (List.all_eq_true.mp hc.2.2 c hz)
      have hi := intText_digits (x := tx z) (fun c hz => hd c (by simpa using hz)) (fun e => by
        have : z = [] := by simpa using e
        subst this
        exact absurd hc.1 (Nat.lt_irrefl _)) (by rw [tx_len]; omega)
      refine call_int_str pins s σ H _ us Q I rx ⟨tx z, _, rfl, hi, by rw [tx_len]; exact hc.2.1, ?_⟩
      have e : ((NumText.digitsVal (tx z).cps.toList : Nat) : Int) = digVal z := by
        unfold digVal NumText.digitsVal
        exact (foldl_dig z 0 fun c hz => (hd c hz).1).symm
      rw [e]
      exact post.val R (.int _)
    · cases ev
theorem cD_str : CallR X (.type "str") (rOs X.prog X.w X.K T (evBl .str)) := by
  intro pins s σ H xs us Q I rx h
  obtain ⟨μ, hp, u, r, hp', x, rfl, R, vx, ev, post⟩ := one_of h (not_one ⟨by decide, by decide⟩)
  cases u <;> first | (cases ev; done) | skip
  dsimp only [evBl, evBl1] at ev
  split at ev
  · rename_i i hc
    cases ev
    rw [vx.int_inv] at rx
    refine call_str_int pins s σ H _ us Q I rx ⟨_, rfl, hc, ?_⟩
    rw [numText_str]
    exact post.val R (.str _ (numText_ok hc))
  · cases ev
/-! ### least and greatest -/
theorem toD_inj_all : True := trivial
mutual
theorem toD_inj : ∀ v u : PV, PV.pure v = true → PV.pure u = true → toD v = toD u → v = u
  | .non, u, _, h, e => by cases u <;> first | rfl | (cases e; done) | (simp [PV.pure] at h)
  | .bl a, u, _, h, e => by cases u <;> first | (cases e; rfl) | (cases e; done) | (simp [PV.pure] at h)
  | .int a, u, _, h, e => by cases u <;> first | (cases e; rfl) | (cases e; done) | (simp [PV.pure] at h)
  | .str a, .str b, _, h, e => by injection e with e; rw [tx_inj e]
  | .tup xs, .tup ys, h1, h, e => by
    injection e with e
    rw [toDs_inj xs ys (by rwa [PV.pure] at h1) (by rwa [PV.pure] at h) e]
  | .ref _, _, h, _, _ => by simp [PV.pure] at h
  | .fl _, _, h, _, _ => by simp [PV.pure] at h
  | .str _, .non, _, _, e => by cases e
  | .str _, .bl _, _, _, e => by cases e
  | .str _, .int _, _, _, e => by cases e
  | .str _, .tup _, _, _, e => by cases e
  | .str _, .ref _, _, h, _ => by simp [PV.pure] at h
  | .str _, .fl _, _, h, _ => by simp [PV.pure] at h
  | .tup _, .non, _, _, e => by cases e
  | .tup _, .bl _, _, _, e => by cases e
  | .tup _, .int _, _, _, e => by cases e
  | .tup _, .str _, _, _, e => by cases e
  | .tup _, .ref _, _, h, _ => by simp [PV.pure] at h
  | .tup _, .fl _, _, h, _ => by simp [PV.pure] at h
theorem toDs_inj : ∀ vs us : List PV, PV.pures vs = true → PV.pures us = true → toDs vs = toDs us → vs = us
  | [], [], _, _, _ => rfl
  | [], _ :: _, _, _, e => by cases e
  | _ :: _, [], _, _, e => by cases e
  | x :: xs, y :: ys, h1, h2, e => by
    rw [PV.pures, Bool.and_eq_true] at h1 h2
    have e1 : toD x = toD y := (List.cons.inj e).1
    have e2 : toDs xs = toDs ys := (List.cons.inj e).2
    rw [toD_inj x y h1.1 h2.1 e1, toDs_inj xs ys h1.2 h2.2 e2]
end
theorem ordAll_inv {x : PV} {xs : List PV} (h : ordAll x xs = true) : (∀ a ∈ x :: xs, PV.fit a = true ∧ a ≠ .non) ∧ ∀ a ∈ x :: xs, ∀ b ∈ x :: xs, alk a b = true := by
  unfold ordAll at h
  rw [List.all_eq_true] at h
  refine ⟨fun a ha => ?_, fun a ha b hb => ?_⟩
  · have := h a ha
    rw [Bool.and_eq_true] at this
    obtain ⟨f, _, _, n, _⟩ := ordOk_inv this.1
    exact ⟨f, n⟩
  · have := h a ha
    rw [Bool.and_eq_true, List.all_eq_true] at this
    exact this.2 b hb
theorem mem_toDs {d : PyData} : ∀ {vs : List PV}, d ∈ toDs vs → ∃ v ∈ vs, d = toD v
  | v :: vs, h => by
    rcases List.mem_cons.mp (show d ∈ toD v :: toDs vs from h) with e | h
    · exact ⟨v, List.mem_cons_self, e⟩
    · obtain ⟨u, h1, h2⟩ := mem_toDs h
      exact ⟨u, List.mem_cons_of_mem _ h1, h2⟩
theorem alikeAll_of {x : PV} {xs : List PV} (h : ordAll x xs = true) : PySem.W.AlikeAll (toD x :: toDs xs) := by
  obtain ⟨h1, h2⟩ := ordAll_inv h
  have mem : ∀ d ∈ toD x :: toDs xs, ∃ v ∈ x :: xs, d = toD v := fun d hd => mem_toDs (vs := x :: xs) hd
  refine ⟨fun d hd e he => ?_, fun d hd en => ?_⟩
  · obtain ⟨v, hv, rfl⟩ := mem d hd
    obtain ⟨u, hu, rfl⟩ := mem e he
    rw [alk_toD v u (fit_inv (h1 v hv).1).1 (fit_inv (h1 u hu).1).1]
    exact h2 v hv u hu
  · obtain ⟨v, hv, rfl⟩ := mem d hd
    have p := (fit_inv (h1 v hv).1).1
    refine (h1 v hv).2 ?_
    cases v <;> first | rfl | (cases en; done) | (simp [PV.pure] at p)
theorem foldl_best (f : PV → PV → PV) (g : PyData → PyData → PyData) (S : List PV) (hf : ∀ a ∈ S, ∀ b ∈ S, g (toD a) (toD b) = toD (f a b) ∧ f a b ∈ S) : ∀ (xs : List PV) (x : PV), x ∈ S → (∀ y ∈ xs, y ∈ S) → (toDs xs).foldl g (toD x) = toD (xs.foldl f x) ∧ xs.foldl f x ∈ S
  | [], x, hx, _ => ⟨rfl, hx⟩
  | y :: ys, x, hx, h => by
    have hy := h y List.mem_cons_self
    obtain ⟨e, m⟩ := hf x hx y hy
    show (toDs ys).foldl g (g (toD x) (toD y)) = _ ∧ _
    rw [e]
    exact foldl_best f g S hf ys (f x y) m fun z hz => h z (List.mem_cons_of_mem _ hz)
theorem least_toD {x : PV} {xs : List PV} (h : ordAll x xs = true) : PySem.W.minD (toD x) (toDs xs) = toD (least ltv x xs) ∧ least ltv x xs ∈ x :: xs := by
  obtain ⟨h1, h2⟩ := ordAll_inv h
  refine foldl_best (fun a y => if ltv y a then y else a) (fun a y => if PySem.W.dataLt y a then y else a) (x :: xs) (fun a ha b hb => ?_) xs x List.mem_cons_self fun y hy => List.mem_cons_of_mem _ hy
  rw [ltv_toD b a (fit_inv (h1 b hb).1).1 (fit_inv (h1 a ha).1).1 (h2 b hb a ha) (h1 b hb).2]
  cases ltv b a
  · exact ⟨rfl, ha⟩
  · exact ⟨rfl, hb⟩
theorem most_toD {x : PV} {xs : List PV} (h : ordAll x xs = true) : PySem.W.maxD (toD x) (toDs xs) = toD (most ltv x xs) ∧ most ltv x xs ∈ x :: xs := by
  obtain ⟨h1, h2⟩ := ordAll_inv h
  refine foldl_best (fun a y => if ltv a y then y else a) (fun a y => if PySem.W.dataLt a y then y else a) (x :: xs) (fun a ha b hb => ?_) xs x List.mem_cons_self fun y hy => List.mem_cons_of_mem _ hy
  rw [ltv_toD a b (fit_inv (h1 a ha).1).1 (fit_inv (h1 b hb).1).1 (h2 a ha b hb) (h1 a ha).2]
  cases ltv a b
  · exact ⟨rfl, ha⟩
  · exact ⟨rfl, hb⟩
theorem depths_le : ∀ {vs : List PV}, (∀ v ∈ vs, PV.fit v = true) → depths vs ≤ 60
  | [], _ => Nat.zero_le _
  | v :: vs, h => Nat.max_le.mpr ⟨(fit_inv (h v List.mem_cons_self)).2, depths_le fun u hu => h u (List.mem_cons_of_mem _ hu)⟩
theorem pures_of : ∀ {vs : List PV}, (∀ v ∈ vs, PV.fit v = true) → PV.pures vs = true
  | [], _ => rfl
  | v :: vs, h => by rw [PV.pures, (fit_inv (h v List.mem_cons_self)).1, pures_of fun u hu => h u (List.mem_cons_of_mem _ hu)]; rfl
/-- the item that reads as the best one -/
theorem best_item {x : PV} {xs : List PV} {ys : List V} {b : PV} {i : Nat} {v : Value} {h' : Heap} {bs : List Addr} {tk : Nat} {its : List Value} (I : Inv X pins σ H s) (r1 : VRs X.K μ H ys (x :: xs)) (rv : Vals ys its)
    (ho : ordAll x xs = true) (hb : b ∈ x :: xs) (hi : its.toArray[i]? = some v) (rd : Reads h' v (toD b) bs) (kp : ∀ b o, s.heap.get? b = some o → h'.get? b = some o) : ∃ z, RelV z v ∧ VR X.K μ H z b := by
  have hi' : its[i]? = some v := by simpa using hi
  have hl : i < ys.length := by rw [rv.length]; exact (List.getElem?_eq_some_iff.mp hi').1
  obtain ⟨u, hu, ru⟩ := rv.get (List.getElem?_eq_getElem hl)
  rw [hi'] at hu
  cases hu
  obtain ⟨c, hc, vc⟩ := r1.get (List.getElem?_eq_getElem hl)
  obtain ⟨h1, h2⟩ := ordAll_inv ho
  have hcm : c ∈ x :: xs := List.mem_of_getElem? hc
  have I1 : Inv X pins σ H { s with heap := h', toks := tk } := I.kept kp
  obtain ⟨as, rc⟩ := reads_of I1 vc (fit_inv (h1 c hcm).1).1 ru
  have e := PySem.W.alike_unique _ _ _ _ _ (by rw [alk_toD c b (fit_inv (h1 c hcm).1).1 (fit_inv (h1 b hb).1).1]; exact h2 c hcm b hb) rc rd
  have := toD_inj c b (fit_inv (h1 c hcm).1).1 (fit_inv (h1 b hb).1).1 e
  subst this
  exact ⟨_, ru, vc⟩
theorem min_max_room {A : Around} {x : PV} {xs : List PV} (hu : A.units + 200 < cLine) (h : ordAll x xs = true) : A.units + 1 + PyData.depthAll (toD x :: toDs xs) < cLine := by
  have e : PyData.depthAll (toD x :: toDs xs) = depths (x :: xs) := depth_toDs (x :: xs)
  rw [e]
  have := depths_le fun v hv => ((ordAll_inv h).1 v hv).1
  omega
theorem cD_min (hu : X.A.units + 200 < cLine) (hc : X.calm = true) : CallR X (.builtin "min") (rOs X.prog X.w X.K T (evBl .min)) := by
  intro pins s σ H xs us Q I rx h
  obtain ⟨μ, hp, vs, r, hp', R, rv, ev, post⟩ := h
  match vs, rv, ev with
  | [], _, ev => cases ev
  | _ :: _ :: _ :: _, _, ev => cases ev
  | [v], rv, ev =>
    obtain ⟨x, rfl, vx⟩ := rv.one
    cases v <;> first | (cases ev; done) | skip
    dsimp only [evBl, evBl1] at ev
    split at ev
    · rename_i y ys e1
      split at ev
      · rename_i ho
        cases ev
        obtain ⟨a, zs, rfl, h1, r1⟩ := items_ref R vx e1
        obtain ⟨its, rvs, ⟨o, n, p1, p2, p3, p4⟩, _⟩ := I.list (.inl (.inl h1))
        obtain ⟨u, rfl, ru⟩ := vals1 rx
        cases ru
        have hm : ∀ w ∈ y :: ys, PV.fit w = true := fun w hw => ((ordAll_inv ho).1 w hw).1
        obtain ⟨as, hr⟩ := Dp.readsAll I _ _ _ (r1.dp (pures_of hm)) rvs
        obtain ⟨e2, m2⟩ := least_toD ho
        refine PySem.W.min_list_data (x := toD y) (xs := toDs ys) (I.ok.hd hc) ⟨o, p1, p2, _, p4⟩ (show ReadsAll _ _ (toDs (y :: ys)) _ by simpa using hr) (alikeAll_of ho) (min_max_room hu ho) fun i v h' tk bs hi rd kp => ?_
        rw [e2] at rd
        obtain ⟨z, rz, vz⟩ := best_item (tk := tk) I r1 rvs ho m2 hi rd kp
        exact ⟨z, H, I.kept kp, rz, post.val R vz⟩
      · cases ev
    · cases ev
  | [v, u], rv, ev =>
    obtain ⟨x, y, rfl, vx, vy⟩ := rv.two
    cases v <;> cases u <;> first | (cases ev; done) | skip
    cases ev
    rw [vx.int_inv, vy.int_inv] at rx
    exact call_min2 hc pins s σ H _ us Q I rx ⟨_, _, rfl, post.val R (.int _)⟩
theorem cD_max (hu : X.A.units + 200 < cLine) (hc : X.calm = true) : CallR X (.builtin "max") (rOs X.prog X.w X.K T (evBl .max)) := by
  intro pins s σ H xs us Q I rx h
  obtain ⟨μ, hp, vs, r, hp', R, rv, ev, post⟩ := h
  match vs, rv, ev with
  | [], _, ev => cases ev
  | _ :: _ :: _ :: _, _, ev => cases ev
  | [v], rv, ev =>
    obtain ⟨x, rfl, vx⟩ := rv.one
    cases v <;> first | (cases ev; done) | skip
    dsimp only [evBl, evBl1] at ev
    split at ev
    · rename_i y ys e1
      split at ev
      · rename_i ho
        cases ev
        obtain ⟨a, zs, rfl, h1, r1⟩ := items_ref R vx e1
        obtain ⟨its, rvs, ⟨o, n, p1, p2, p3, p4⟩, _⟩ := I.list (.inl (.inl h1))
        obtain ⟨u, rfl, ru⟩ := vals1 rx
        cases ru
        have hm : ∀ w ∈ y :: ys, PV.fit w = true := fun w hw => ((ordAll_inv ho).1 w hw).1
        obtain ⟨as, hr⟩ := Dp.readsAll I _ _ _ (r1.dp (pures_of hm)) rvs
        obtain ⟨e2, m2⟩ := most_toD ho
        refine PySem.W.max_list_data (x := toD y) (xs := toDs ys) (I.ok.hd hc) ⟨o, p1, p2, _, p4⟩ (show ReadsAll _ _ (toDs (y :: ys)) _ by simpa using hr) (alikeAll_of ho) (min_max_room hu ho) fun i v h' tk bs hi rd kp => ?_
        rw [e2] at rd
        obtain ⟨z, rz, vz⟩ := best_item (tk := tk) I r1 rvs ho m2 hi rd kp
        exact ⟨z, H, I.kept kp, rz, post.val R vz⟩
      · cases ev
    · cases ev
  | [v, u], rv, ev =>
    obtain ⟨x, y, rfl, vx, vy⟩ := rv.two
    cases v <;> cases u <;> first | (cases ev; done) | skip
    cases ev
    rw [vx.int_inv, vy.int_inv] at rx
    exact call_max2 hc pins s σ H _ us Q I rx ⟨_, _, rfl, post.val R (.int _)⟩
end
end PL
set_option autoImplicit false
set_option linter.all false
set_option maxRecDepth 20000
set_option maxHeartbeats 1000000
/-! PlBl3: repr. -/
namespace PL
open PySem PySem.Spec PyProof.Rows L2
def okC (s : Str) : Prop := ∀ c ∈ s.cps.toList, c < 0x110000
theorem okC.app {a b : Str} (h : okC a) (g : okC b) : okC (a ++ b) := by
  intro c hc
  have e : (a ++ b).cps.toList = a.cps.toList ++ b.cps.toList := by
    show (Str.append a b).cps.toList = _
    simp [Str.append]
  rw [e] at hc
  rcases List.mem_append.mp hc with q | q
  · exact h c q
  · exact g c q
theorem char_lt (c : Char) : c.toNat < 0x110000 := by
  have := c.valid
  unfold UInt32.isValidChar Nat.isValidChar at this
  have e : c.toNat = c.val.toNat := rfl
  omega
theorem okC.lit (s : String) : okC (Str.ofString s) := by
  intro c hc
  rw [Str.ofString_eq_toList] at hc
  obtain ⟨d, _, rfl⟩ := List.mem_map.mp (by simpa using hc)
  exact char_lt d
theorem okC.join : ∀ {ts : List Str}, (∀ t ∈ ts, okC t) → okC (Str.join ", " ts)
  | [], _ => by intro c hc; simp [Str.join, Str.empty] at hc
  | [x], h => h x List.mem_cons_self
  | x :: y :: r, h => by
    show okC (x ++ ", " ++ Str.join ", " (y :: r))
    exact ((h x List.mem_cons_self).app (okC.lit _)).app (okC.join fun t ht => h t (List.mem_cons_of_mem _ ht))
theorem reprChar_ok {q c : Nat} (hq : q < 0x110000) (hc : c < 0x110000) : ∀ d ∈ Builtin.Str.reprChar q c, d < 0x110000 := by
  intro d hd
  have hx : ∀ w : Nat, ∀ e ∈ (List.replicate (w - ((Nat.toDigits 16 c).map Char.toNat).length) 48 ++ (Nat.toDigits 16 c).map Char.toNat), e < 0x110000 := fun w e he => by
    rcases List.mem_append.mp he with z | z
    · rw [(List.mem_replicate.mp z).2]; decide
    · obtain ⟨k, _, rfl⟩ := List.mem_map.mp z
      exact char_lt k
  unfold Builtin.Str.reprChar at hd
  dsimp only at hd
  repeat' split at hd
  all_goals first
    | (simp only [List.mem_cons, List.not_mem_nil, or_false] at hd; rcases hd with rfl | rfl <;> first | assumption | decide)
    | (simp only [List.mem_cons, List.not_mem_nil, or_false] at hd; subst hd; assumption)
    | (rcases List.mem_append.mp hd with z | z
       · simp only [List.mem_cons, List.not_mem_nil, or_false] at z; rcases z with rfl | rfl <;> decide
       · exact hx _ d z)
theorem foldl_ok {q : Nat} (hq : q < 0x110000) : ∀ (l : List Nat) (acc : Array Nat), (∀ c ∈ l, c < 0x110000) → (∀ c ∈ acc.toList, c < 0x110000) → ∀ c ∈ (l.foldl (fun out c => out ++ (Builtin.Str.reprChar q c).toArray) acc).toList, c < 0x110000
  | [], acc, _, h => h
  | c :: r, acc, h1, h2 => by
    rw [List.foldl_cons]
    refine foldl_ok hq r _ (fun d hd => h1 d (List.mem_cons_of_mem _ hd)) fun d hd => ?_
    rw [Array.toList_append] at hd
    rcases List.mem_append.mp hd with z | z
    · exact h2 d z
    · exact reprChar_ok hq (h1 c List.mem_cons_self) d (by simpa using z)
theorem okC.repr {x : Str} (h : okC x) : okC (reprText x) := by
  have hq : reprQuote x < 0x110000 := by unfold reprQuote; split <;> decide
  intro c hc
  have hc : c ∈ ((x.cps.foldl (fun out c => out ++ (Builtin.Str.reprChar (reprQuote x) c).toArray) #[reprQuote x]).push (reprQuote x)).toList := hc
  rw [Array.toList_push, ← Array.foldl_toList] at hc
  rcases List.mem_append.mp hc with z | z
  · exact foldl_ok hq _ _ h (fun d hd => by have : d = reprQuote x := by simpa using hd
                                            rw [this]; exact hq) c z
  · rw [List.mem_singleton.mp z]; exact hq
/-- the texts within have codes -/
def okT : PyData → Prop
  | .str x => okC x
  | .tuple xs => okTs xs
  | _ => True
where okTs : List PyData → Prop
  | [] => True
  | x :: xs => okT x ∧ okTs xs
section
variable {K : PySem.W.Frag} {μ : List Addr} {H : Hp}
theorem shSz_pos (v : PV) : 0 < shSz v := by
  cases v <;> simp only [shSz] <;> try omega
  split
  · omega
  · decide
mutual
theorem show_ok : ∀ {x : V} {v : PV}, VR K μ H x v → PV.pure v = true → shSz v + 64 ≤ line → (toD v).showable = true ∧ (toD v).shown.length ≤ shSz v ∧ okC (toD v).shown ∧ (toD v).hasDict = false
  | _, _, .non, _, _ => ⟨rfl, by decide, okC.lit _, rfl⟩
  | _, _, .bl b, _, _ => by cases b <;> exact ⟨rfl, by decide, okC.lit _, rfl⟩
  | _, _, .int i, _, h => by
    have hi : i.natAbs < 2 ^ 1000 := by
      unfold shSz at h
      split at h
      · assumption
      · omega
    have hs : shSz (.int i) = 1002 := by unfold shSz; rw [if_pos hi]
    have hl : i.natAbs.log2 < 1920 := by
      by_cases h0 : i.natAbs = 0
      · rw [h0]; decide
      · exact (Nat.log2_lt h0).mpr (Nat.lt_of_lt_of_le hi (Nat.pow_le_pow_right (by decide) (by decide)))
    refine ⟨by rw [toD, PyData.showable]; exact decide_eq_true hl, ?_, okC.lit _, rfl⟩
    rw [toD, PyData.shown, numText_str, tx_len, hs]
    have := numText_len (k := 1000) (by decide) hi
    omega
  | _, _, .str x ok, _, h => by
    refine ⟨rfl, ?_, okC.repr (fun c hc => ok.2 c (by simpa using hc)), rfl⟩
    have := StrLaws.reprText_len (tx x) (fun c hc => Nat.lt_of_lt_of_le (ok.2 c (by simpa using hc)) (by decide))
    rw [tx_len] at this
    exact this
  | _, _, .tup (xs := xs) (vs := vs) h r, p, hz => by
    rw [PV.pure] at p
    have hz' : shSzs vs + 67 ≤ line := by unfold shSz at hz; omega
    obtain ⟨h1, h2, h3, h4⟩ := show_oks r p (by omega)
    refine ⟨h1, ?_, ?_, h4⟩
    · show (tupleText (PyData.shownAll (toDs vs))).length ≤ shSzs vs + 3
      unfold tupleText
      generalize hts : PyData.shownAll (toDs vs) = ts at h2 h3
      have e1 : (("(" : Str) ++ Str.join ", " ts ++ ((if ts.length == 1 then ",)" else ")" : String) : Str)).length = 1 + (Str.join ", " ts).length + ((if ts.length == 1 then ",)" else ")" : String) : Str).length := by
        rw [Str.length_append, Str.length_append]; rfl
      rw [e1]
      have e2 : ((if ts.length == 1 then ",)" else ")" : String) : Str).length ≤ 2 := by split <;> decide
      by_cases hn : ts = []
      · subst hn
        have : (Str.join ", " []).length = 0 := rfl
        omega
      · have := join_length_add ts hn
        omega
    · show okC (tupleText (PyData.shownAll (toDs vs)))
      unfold tupleText
      exact ((okC.lit _).app (okC.join h3)).app (by split <;> exact okC.lit _)
  | _, _, .ref _, p, _ => by simp [PV.pure] at p
  | _, _, .fl _ _, p, _ => by simp [PV.pure] at p
theorem show_oks : ∀ {xs : List V} {vs : List PV}, VRs K μ H xs vs → PV.pures vs = true → shSzs vs + 64 ≤ line → PyData.showableAll (toDs vs) = true ∧ piled (PyData.shownAll (toDs vs)) ≤ shSzs vs ∧ (∀ t ∈ PyData.shownAll (toDs vs), okC t) ∧ PyData.hasDictAll (toDs vs) = false
  | _, _, .nil, _, _ => ⟨rfl, Nat.le_refl _, (fun t h => by simp [toDs, PyData.shownAll] at h), rfl⟩
  | _, _, .cons (v := v) (vs := vs) a r, p, h => by
    rw [PV.pures, Bool.and_eq_true] at p
    have e : shSzs (v :: vs) = shSz v + 2 + shSzs vs := rfl
    rw [e] at h ⊢
    obtain ⟨a1, a2, a3, a4⟩ := show_ok a p.1 (by omega)
    obtain ⟨b1, b2, b3, b4⟩ := show_oks r p.2 (by omega)
    refine ⟨?_, ?_, fun t ht => ?_, ?_⟩
    · rw [toDs, PyData.showableAll, a1, b1]; rfl
    · rw [toDs, PyData.shownAll, piled_cons]; omega
    · rw [toDs, PyData.shownAll] at ht
      rcases List.mem_cons.mp ht with rfl | ht
      · exact a3
      · exact b3 t ht
    · rw [toDs, PyData.hasDictAll, a4, b4]; rfl
end
end
section
variable {X : Cx} {T : List (Addr × Str)} {pins : List (Addr × Obj)} {s : Shared} {σ : L2.St} {H : Hp} {μ : List Addr}
theorem cD_repr (hu : X.A.units + 200 < cLine) (hg : X.A.guards = some []) : CallR X (.builtin "repr") (rOs X.prog X.w X.K T (evBl .repr)) := by
  intro pins s σ H xs us Q I rx h
  obtain ⟨μ, hp, u, r, hp', x, rfl, R, vx, ev, post⟩ := one_of h (not_one ⟨by decide, by decide⟩)
  have ev : (if reprOk u then okv (.str (shownT u)) hp else stk) = .ok (r, hp') := ev
  split at ev
  · rename_i hr
    cases ev
    unfold reprOk at hr
    rw [Bool.and_eq_true, decide_eq_true_eq] at hr
    obtain ⟨p, dp⟩ := fit_inv hr.1
    obtain ⟨s1, s2, s3, s4⟩ := show_ok vx p hr.2
    have hl : (toD u).shown.length ≤ sizeLine := by rw [← line_eq]; omega
    have e : tx (shownT u) = (toD u).shown := by unfold shownT; show (⟨(toD u).shown.cps.toList.toArray⟩ : Str) = _; simp
    have ok : okS (shownT u) := by
      refine ⟨?_, s3⟩
      have : (shownT u).length = (toD u).shown.length := by unfold shownT; simp [Str.length]
      rw [this]; exact hl
    have fin : ∀ {s' : Shared} {t : Tok}, Inv X pins σ H s' → EP X pins σ Q (.str (toD u).shown t) s' := fun I' => ⟨.str (tx (shownT u)), H, I', ⟨_, by rw [e]⟩, post.val R (.str _ ok)⟩
    obtain ⟨w', rfl, rw'⟩ := vals1 rx
    cases u with
    | non => rw [vx.non_inv] at rw'; cases rw'; exact PySem.P.repr_of_none (fin (I.tok _))
    | bl b => rw [vx.bl_inv] at rw'; cases rw'; exact PySem.P.repr_of_bool (by cases b <;> exact fin (I.tok _))
    | int i =>
      rw [vx.int_inv] at rw'
      obtain ⟨t, rfl⟩ := rw'
      rw [toD, PyData.showable] at s1
      exact PySem.P.repr_of_int (of_decide_eq_true s1) (fin (I.tok _))
    | str z =>
      rw [vx.str_inv] at rw'
      obtain ⟨t, rfl⟩ := rw'
      exact PySem.P.repr_of_str (fin (I.tok _)) hl
    | tup vs =>
      obtain ⟨as, rd⟩ := reads_of I vx p rw'
      obtain ⟨a, ys, rfl, _, _⟩ := vx.tup_inv
      cases rw'
      refine repr_of_reads' rd s1 (fun z => by rw [s4] at z; cases z) hg ?_ (fun b o e => e) (fun h' u' tk hk => fin (I.kept hk)) hl
      have : (toD (.tup vs)).depth = depth (.tup vs) := depth_toD _
      rw [this]
      omega
    | ref l => simp [PV.pure] at p
    | fl l => simp [PV.pure] at p
  · cases ev
end
end PL
set_option autoImplicit false
set_option linter.all false
set_option maxRecDepth 20000
set_option maxHeartbeats 1000000
/-! PlBl4: dict(list of pairs). -/
namespace PL
open PySem PySem.Spec PyProof.Rows L2
theorem storedH_keys {κ : Type} [DecidableEq κ] {r : List (κ × Addr × Value)} {k : κ} {b : Addr} {u : Value} (nd : (r.map (·.1)).Nodup) : ((storedH r k b u).map (·.1)).Nodup := by
  unfold storedH
  split
  · rw [List.map_map]
    have : (r.map ((fun x => x.1) ∘ PySem.putAt k u)) = r.map (·.1) := List.map_congr_left fun x _ => by
      show (PySem.putAt k u x).1 = x.1
      unfold PySem.putAt
      split <;> rfl
    rw [this]; exact nd
  · rename_i h
    rw [List.map_append, List.nodup_append]
    refine ⟨nd, by simp, fun x hx y hy => ?_⟩
    have hy : y = k := by simpa using hy
    subst hy
    intro e
    subst e
    apply h
    obtain ⟨p, hp, e⟩ := List.mem_map.mp hx
    unfold atKey
    have : ((r.find? fun z => decide (z.1 = x))).isSome = true := List.find?_isSome.mpr ⟨p, hp, by simpa using e⟩
    cases hq : r.find? fun z => decide (z.1 = x) with
    | none => rw [hq] at this; cases this
    | some z => simp [hq]
section
variable {X : Cx} {T : List (Addr × Str)} {pins : List (Addr × Obj)} {s : Shared} {σ : L2.St} {H : Hp} {μ : List Addr}
theorem ERs.putAll : ∀ {raw : RawT} {ps : List (PV × PV)}, ERs X.K μ H raw ps → ∀ {acc : RawT} {kvs : List (PV × PV)}, ERs X.K μ H acc kvs → (acc.map (·.1)).Nodup → ERs X.K μ H (storedAllH acc raw) (PL.putAll kvs ps)
  | _, _, .nil, acc, kvs, e, _ => e
  | _, _, .cons (k := k) (a := b) (u := u) h1 h2 h3 h4 r, acc, kvs, e, nd => by
    show ERs X.K μ H (storedAllH (storedH acc (nk k) b u) _) (PL.putAll (PL.putAt k _ kvs) _)
    exact ERs.putAll r (ERs.put h1 h2 h3 h4 e nd) (storedH_keys nd)
/-- the pairs of a list, as the dict's making reads them -/
theorem pairs_raw (I : Inv X pins σ H s) : ∀ {ys : List V} {xs : List PV}, VRs X.K μ H ys xs → ∀ {its : List Value}, Vals ys its → ∀ {ps : List (PV × PV)}, pairs? xs = some ps → (ps.all fun p => tupK p.1) = true →
    ∃ (raw : RawT) (Ts : List Addr), ERs X.K μ H raw ps ∧ its = Ts.map Value.ref ∧ raw.length = Ts.length ∧ ∀ (j : Nat) (e : NestedKey × Addr × Value), raw[j]? = some e → ∃ t, Ts[j]? = some t ∧ PairAt s.heap t (.ref e.2.1) e.2.2
  | _, _, .nil, _, .nil, ps, e, _ => by
    cases e
    exact ⟨[], [], .nil, rfl, rfl, fun j e h => by simp at h⟩
  | _, _, .cons (v := v) (vs := vs) a r, _, .cons ra rr, ps, e, hk => by
    unfold pairs? at e
    split at e
    · rename_i p qs hp hq
      cases e
      unfold pair? at hp
      split at hp
      · rename_i k w
        cases hp
        rw [List.all_cons, Bool.and_eq_true] at hk
        obtain ⟨raw, Ts, h1, h2, h3, h4⟩ := pairs_raw I r rr (ps := qs) hq hk.2
        obtain ⟨t, us, rfl, hq', rx⟩ := a.tup_inv
        cases ra
        obtain ⟨x, y, rfl, vk, vw⟩ := rx.two
        obtain ⟨its2, rv, p, _⟩ := I.tuple hq'
        obtain ⟨u1, u2, rfl, r1, r2⟩ := vals2 rv
        obtain ⟨b, rfl, rfl⟩ := tup_ref hk.1 vk r1
        refine ⟨(nk k, b, u2) :: raw, t :: Ts, .cons hk.1 vk r2 vw h1, by rw [h2]; rfl, by rw [List.length_cons, List.length_cons, h3], fun j e he => ?_⟩
        cases j with
        | zero =>
          simp at he
          subst he
          exact ⟨t, rfl, .inl (show s.heap.IsTuple t #[Value.ref b, u2] from p)⟩
        | succ j =>
          obtain ⟨t', g1, g2⟩ := h4 j e (by simpa using he)
          exact ⟨t', by simpa using g1, g2⟩
      · cases hp
    · cases e
theorem putAll_ne : ∀ {ps kvs : List (PV × PV)}, kvs ≠ [] → PL.putAll kvs ps ≠ []
  | [], _, h => h
  | p :: ps, kvs, _ => by
    show PL.putAll (PL.putAt p.1 p.2 kvs) ps ≠ []
    exact putAll_ne putAt_ne
theorem cD_dict (hu : X.A.units + 200 < cLine) (hc : X.calm = true) : CallR X (.type "dict") (rOs X.prog X.w X.K T (evBl .dict)) := by
  intro pins s σ H xs us Q I rx h
  obtain ⟨μ, hp, u, r, hp', x, rfl, R, vx, ev, post⟩ := one_of h (not_one ⟨by decide, by decide⟩)
  cases u <;> first | (cases ev; done) | skip
  rename_i l
  dsimp only [evBl, evBl1] at ev
  split at ev
  · rename_i zs e1
    split at ev
    · rename_i ps e2
      split at ev
      · rename_i hk
        cases ev
        obtain ⟨a, rfl, ha⟩ := vx.ref_inv
        obtain ⟨ys, h1, ry⟩ := R.lst_at ha e1
        obtain ⟨w', rfl, rw'⟩ := vals1 rx
        cases rw'
        obtain ⟨its, rv, pl, hz⟩ := I.list (.inl (.inl h1))
        obtain ⟨raw, Ts, er, rfl, hl, hp2⟩ := pairs_raw I ry rv e2 hk
        obtain ⟨o, n, ho, hcl, hd, hdat⟩ := pl
        have P := PairArg.list (prog := X.prog) (w := X.w) a (Ts.map Value.ref).toArray (fun j => Ts.getD j 0) (raw.map fun e => (Value.ref e.2.1, e.2.2))
        have hlen : raw.length ≤ sizeLine := by rw [hl]; have := rv.length; rw [List.length_map] at this; omega
        have ok : PlainSeq "list" s.heap a (Ts.map Value.ref).toArray ∧ PairItems s.heap (Ts.map Value.ref).toArray (fun j => Ts.getD j 0) (raw.map fun e => (Value.ref e.2.1, e.2.2)) := by
          refine ⟨⟨o, n, ho, hcl, hd, hdat⟩, by simp [hl], fun j k v hj => ?_⟩
          rw [List.getElem?_map] at hj
          obtain ⟨e, he, ee⟩ := Option.map_eq_some_iff.mp hj
          cases ee
          obtain ⟨t, g1, g2⟩ := hp2 j e he
          have : Ts.getD j 0 = t := by rw [List.getD_eq_getElem?_getD, g1]; rfl
          dsimp only
          rw [this]
          exact ⟨by simp [g1], g2⟩
        have sm : (s.heap.objs.size == sysModules) = false := beq_eq_false_iff_ne.mpr (Nat.ne_of_gt I.big)
        have hf : H s.heap.objs.size = none := I.hok.fresh (Nat.le_refl _)
        have nm := R.nmem hf
        refine call_dict_pairsH (knd := nestedKind X.prog X.w) (ps := raw) P (I.ok.hd hc) (show X.A.in1.in1.units + 8 < cLine by show X.A.units + 1 + 1 + 8 < cLine; omega) ok ⟨by simp, fun i key v hi => ?_⟩ (fun h' hk' e he => ?_) (by simpa using hlen) fun h' tk hm kp => ?_
        · have hi : (raw.map fun e => (Value.ref e.2.1, e.2.2))[i]? = some (key, v) := hi
          rw [List.getElem?_map] at hi
          obtain ⟨e, he, ee⟩ := Option.map_eq_some_iff.mp hi
          cases ee
          exact ⟨e.1, e.2.1, he, rfl⟩
        · have I' : Inv X pins σ H { s with heap := h', toks := s.toks } := I.kept fun b o e => hk' b o (Nat.ne_of_lt (Heap.lt_size e)) (by simp) e
          obtain ⟨k, k1, k2, k3⟩ := er.each e he
          have k4 := (tupK_inv k1).1
          refine ⟨?_, ?_⟩
          · rw [k2]; exact nest_of I' 5 _ _ _ k3 k4 rfl
          · rw [k2]; exact Nat.le_trans (nk_depth 5 k k4) (by decide)
        · have kp' : ∀ b o, s.heap.get? b = some o → h'.get? b = some o := fun b o e => kp b o (by simp) e
          have hsz : (storedAllH [] raw).length ≤ sizeLine := by have := storedAllH_length raw []; simp at this; omega
          have ep := ERs.putAll er (acc := []) (kvs := []) .nil (by simp)
          obtain ⟨ob, es, ep', g1, g2, g3, g4, g5, g6⟩ := hm
          by_cases hn : ps = []
          · subst hn
            cases er
            have e0 : es = #[] := by
              have : es.toList = [] := g4
              exact Array.toList_eq_nil_iff.mp this
            subst e0
            have new : ObjOk X.prog X.w (L2.upd H s.heap.objs.size (.dK [])) h' s.heap.objs.size (.dK []) := ⟨Nat.zero_le _, sm, [], .nil, ob, #[], ep', g1, g2, g3, (fun i hi => by simp at hi), .nil, by simp⟩
            have q : OR X.prog X.w X.K (μ ++ [s.heap.objs.size]) (L2.upd H s.heap.objs.size (.dK [])) s.heap.objs.size (.dct []) := ⟨.dK [], upd_same, .inr ⟨[], rfl, .nil⟩⟩
            exact ⟨.ref s.heap.objs.size, _, I.laid (t' := tk) kp' (Nat.le_refl _) new, rfl, post _ _ _ (Ext.new hf) (R.new hf q nm) (.ref (by rw [← R.len]; simp))⟩
          · have hne : PL.putAll [] ps ≠ [] := by
              cases ps with
              | nil => exact absurd rfl hn
              | cons p ps =>
                show PL.putAll (PL.putAt p.1 p.2 []) ps ≠ []
                exact putAll_ne putAt_ne
            have new : ObjOk X.prog X.w (L2.upd H s.heap.objs.size (DictT X.prog X.w s.heap.objs.size (storedAllH [] raw))) h' s.heap.objs.size (DictT X.prog X.w s.heap.objs.size (storedAllH [] raw)) := dictT_mk ⟨sm, ob, es, ep', g1, g2, g3, g4, g6⟩
            have E0 := Ext.new (μ := μ) (o := DictT X.prog X.w s.heap.objs.size (storedAllH [] raw)) hf
            have q : OR X.prog X.w X.K (μ ++ [s.heap.objs.size]) (L2.upd H s.heap.objs.size (DictT X.prog X.w s.heap.objs.size (storedAllH [] raw))) s.heap.objs.size (.dct (PL.putAll [] ps)) := ⟨_, upd_same, .inl ⟨_, rfl, ep.ext E0, hsz, hne⟩⟩
            exact ⟨.ref s.heap.objs.size, _, I.laid (t' := tk) kp' (Nat.le_refl _) new, rfl, post _ _ _ E0 (R.new hf q nm) (.ref (by rw [← R.len]; simp))⟩
      · cases ev
    · cases ev
  · cases ev
end
end PL
set_option autoImplicit false
set_option linter.all false
set_option maxRecDepth 20000
set_option maxHeartbeats 1000000
/-! PlSnd1: what an evaluator's term promises; the expressions' rules. -/
namespace PL
open PySem PySem.Spec PyProof.Rows L2
def ERL (K : PySem.W.Frag) (μ : List Addr) (H : Hp) (env : Env) (σ : L2.St) : Prop := ER K μ H env σ ∧ σ.length = env.length
section
variable (X : Cx) (T : List (Addr × Str)) (F : Fun)
abbrev HRx (μ : List Addr) (H : Hp) (hp : Hv) : Prop := HR X.prog X.w X.K μ H T hp
abbrev Pst (μ : List Addr) (H : Hp) (hp' : Hv) (v : PV) (Q : VK) : Prop := Post X.prog X.w X.K T μ H hp' v Q
def Psts (μ : List Addr) (H : Hp) (hp' : Hv) (vs : List PV) (Q : List V → Hp → Prop) : Prop :=
  ∀ μ' xs H', Ext μ H μ' H' → HRx X T μ' H' hp' → VRs X.K μ' H' xs vs → Q xs H'
def rE (e : Ex) : TE := fun σ H Q => ∃ μ env hp v hp', HRx X T μ H hp ∧ ERL X.K μ H env σ ∧ evE F e env hp = .ok (v, hp') ∧ Pst X T μ H hp' v Q
def rAnd (es : Exs) : TE := fun σ H Q => ∃ μ env hp v hp', HRx X T μ H hp ∧ ERL X.K μ H env σ ∧ evAnd F es env hp = .ok (v, hp') ∧ Pst X T μ H hp' v Q
def rOr (es : Exs) : TE := fun σ H Q => ∃ μ env hp v hp', HRx X T μ H hp ∧ ERL X.K μ H env σ ∧ evOr F es env hp = .ok (v, hp') ∧ Pst X T μ H hp' v Q
def rEs (es : Exs) : TA := fun σ H Q => ∃ μ env hp vs hp', HRx X T μ H hp ∧ ERL X.K μ H env σ ∧ evEs F es env hp = .ok (vs, hp') ∧ Psts X T μ H hp' vs Q
/-- as a test -/
def rB (t : TE) : TT := fun σ H Q => t σ H fun x H' => ∃ k, x = .bl k ∧ Q k H'
def rO (o : OEx) : L2.TO := fun σ H Q => ∃ μ env hp v hp' l, HRx X T μ H hp ∧ ERL X.K μ H env σ ∧ evO F o env hp = .ok (v, hp') ∧ bound? v = some l ∧ ∀ μ' H', Ext μ H μ' H' → HRx X T μ' H' hp' → Q l H'
def rC (o : OEx) : TT := fun σ H Q => ∃ μ env hp b hp', HRx X T μ H hp ∧ ERL X.K μ H env σ ∧ evC F o env hp = .ok (b, hp') ∧ ∀ μ' H', Ext μ H μ' H' → HRx X T μ' H' hp' → Q b H'
end
section
variable {X : Cx} {T : List (Addr × Str)} {F : Fun} {μ μ' : List Addr} {H H' : Hp} {hp hp' : Hv} {env : Env} {σ σ' : L2.St}
theorem ERL.ext (e : Ext μ H μ' H') {K : PySem.W.Frag} (h : ERL K μ H env σ) : ERL K μ' H' env σ := ⟨h.1.ext e, h.2⟩
theorem Pst.tr {v : PV} {Q : VK} (p : Pst X T μ H hp' v Q) (e : Ext μ H μ' H') : Pst X T μ' H' hp' v Q := fun μ2 x H2 e2 R r => p μ2 x H2 (e.trans e2) R r
theorem Psts.tr {vs : List PV} {Q : List V → Hp → Prop} (p : Psts X T μ H hp' vs Q) (e : Ext μ H μ' H') : Psts X T μ' H' hp' vs Q := fun μ2 x H2 e2 R r => p μ2 x H2 (e.trans e2) R r
theorem pe_imp {e : Expr} {t t' : TE} (h : PE X e t) (i : ∀ σ H Q, t' σ H Q → t σ H Q) : PE X e t' := ⟨fun pins s σ H Q I q => h.run pins s σ H Q I (i σ H Q q)⟩
theorem pt_imp {e : Expr} {t t' : TT} (h : PT X e t) (i : ∀ σ H Q, t' σ H Q → t σ H Q) : PT X e t' := ⟨fun pins s σ H Q I q => h.run pins s σ H Q I (i σ H Q q)⟩
theorem pw_imp {e : Expr} {t t' : TT} (h : PW X e t) (i : ∀ σ H Q, t' σ H Q → t σ H Q) : PW X e t' := ⟨fun wh pins s σ H Q I q => h.run wh pins s σ H Q I (i σ H Q q)⟩
theorem pa_imp {e : List Expr} {t t' : TA} (h : PA X e t) (i : ∀ σ H Q, t' σ H Q → t σ H Q) : PA X e t' := ⟨fun p pins s σ H Q I q => h.run p pins s σ H Q I (i σ H Q q)⟩
theorem po_imp {e : Option Expr} {t t' : L2.TO} (h : L2.PO X e t) (i : ∀ σ H Q, t' σ H Q → t σ H Q) : L2.PO X e t' := ⟨fun pins s σ H Q I q => h.run pins s σ H Q I (i σ H Q q)⟩
theorem pts_imp {e : List Expr} {t t' : TT} (h : PTs X e t) (i : ∀ σ H Q, t' σ H Q → t σ H Q) : PTs X e t' := ⟨fun pins s σ H Q I q => h.run pins s σ H Q I (i σ H Q q)⟩
theorem ps_imp {e : Stmt} {t t' : TS} (h : PS X e t) (i : ∀ D σ H, t' D σ H → t D σ H) : PS X e t' := ⟨fun pins s σ H D I q => h.run pins s σ H D I (i D σ H q)⟩
theorem pss_imp {e : List Stmt} {t t' : TS} (h : PSs X e t) (i : ∀ D σ H, t' D σ H → t D σ H) : PSs X e t' := ⟨fun pins s σ H D I q => h.run pins s σ H D I (i D σ H q)⟩
theorem pg_imp {e : Expr} {t t' : TG} (h : PG X e t) (i : ∀ v σ H Q, t' v σ H Q → t v σ H Q) : PG X e t' := ⟨fun pins s σ H v u Q I r q => h.run pins s σ H v u Q I r (i v σ H Q q)⟩
theorem pi_imp {tg e : Expr} {t t' : TI} (h : PI X tg e t) (i : ∀ σ H R, t' σ H R → t σ H R) : PI X tg e t' := ⟨fun pins s σ H R I q => h.run pins s σ H R I (i σ H R q)⟩

/-! ### expressions -/
theorem nE_var {i : Nat} {x : Str} {pos : Pos} (hN : X.N[i]? = some x) (hv : Vis X.env.scope x) (hd : (x == ("__debug__" : Str)) = false) (hcd : (x == ("__classdict__" : Str)) = false) : PE X (.Name x pos) (rE X T F (.var i)) := by
  refine pe_imp (pe_var hN hv hd hcd) fun σ H Q h => ?_
  obtain ⟨μ, env, hp, v, hp', R, E, ev, post⟩ := h
  unfold evE at ev
  split at ev
  · rename_i v' e
    cases ev
    obtain ⟨x, h1, h2⟩ := E.1 i _ e
    exact ⟨x, h1, post μ x H Ext.refl R h2⟩
  · cases ev
theorem nE_lit {x : V} {v : PV} {e : Expr} (h : PE X e (tC x)) (r : ∀ μ H, VR X.K μ H x v) : PE X e (rE X T F (.lit v)) := by
  refine pe_imp h fun σ H Q h => ?_
  obtain ⟨μ, env, hp, v, hp', R, E, ev, post⟩ := h
  unfold evE at ev
  cases ev
  exact post μ x H Ext.refl R (r μ H)
theorem nE_glob {x : V} {y : Str} {v : PV} {e : Expr} (h : PE X e (tC x)) (r : ∀ μ H, VR X.K μ H x v) : PE X e (rE X T F (.glob y v)) := by
  refine pe_imp h fun σ H Q h => ?_
  obtain ⟨μ, env, hp, v, hp', R, E, ev, post⟩ := h
  unfold evE at ev
  cases ev
  exact post μ x H Ext.refl R (r μ H)
theorem nEs_nil : PA X [] (rEs X T F .nil) := by
  refine pa_imp pa_nil fun σ H Q h => ?_
  obtain ⟨μ, env, hp, v, hp', R, E, ev, post⟩ := h
  unfold evEs at ev
  cases ev
  exact post μ [] H Ext.refl R .nil
theorem nEs_cons {e : Expr} {es : List Expr} {a : Ex} {as : Exs} (h1 : PE X e (rE X T F a)) (h2 : PA X es (rEs X T F as)) (hs : starEach (e :: es) X.env = (false, eval e X.env) :: starEach es X.env) : PA X (e :: es) (rEs X T F (.cons a as)) := by
  refine pa_imp (pa_cons h1 h2 hs) fun σ H Q h => ?_
  obtain ⟨μ, env, hp, vs, hp', R, E, ev, post⟩ := h
  unfold evEs at ev
  obtain ⟨v1, g1, e1, ev⟩ := thn_some ev
  obtain ⟨vs2, g2, e2, ev⟩ := thn_some ev
  cases ev
  exact ⟨μ, env, hp, v1, g1, R, E, e1, fun μ1 x1 H1 x R1 r1 => ⟨μ1, env, g1, vs2, hp', R1, E.ext x, e2, fun μ2 x2 H2 y R2 r2 => post μ2 _ H2 (x.trans y) R2 (.cons (r1.ext y) r2)⟩⟩
theorem nE_tup {es : List Expr} {as : Exs} {k : Nat} {pos : Pos} (h : PA X es (rEs X T F as)) : PE X (.Tuple es k pos) (rE X T F (.tup as)) := by
  refine pe_imp (pe_tup h) fun σ H Q h => ?_
  obtain ⟨μ, env, hp, v, hp', R, E, ev, post⟩ := h
  unfold evE at ev
  obtain ⟨vs, g1, e1, ev⟩ := thn_some ev
  split at ev
  · rename_i hl
    cases ev
    exact ⟨μ, env, hp, vs, hp', R, E, e1, fun μ1 xs H1 x R1 r1 => ⟨by rw [r1.len, ← line_eq]; exact hl, fun p hn => (post.tr x).tup R1 r1 hn⟩⟩
  · cases ev
theorem nE_lst {es : List Expr} {as : Exs} {pos : Pos} (h : PA X es (rEs X T F as)) : PE X (.List es pos) (rE X T F (.lst as)) := by
  refine pe_imp (pe_lst h) fun σ H Q h => ?_
  obtain ⟨μ, env, hp, v, hp', R, E, ev, post⟩ := h
  unfold evE at ev
  obtain ⟨vs, g1, e1, ev⟩ := thn_some ev
  split at ev
  · rename_i hl
    cases ev
    exact ⟨μ, env, hp, vs, g1, R, E, e1, fun μ1 xs H1 x R1 r1 => ⟨by rw [r1.len, ← line_eq]; exact hl, fun p hn => (post.tr x).lst R1 r1 hn⟩⟩
  · cases ev
theorem nE_bin {a b : Expr} {a' b' : Ex} {o : Op2} {op : Operator} {pos : Pos} (h1 : PE X a (rE X T F a')) (h2 : PE X b (rE X T F b')) (ho : OpR X (binaryOp op) (rO2 X.prog X.w X.K T (evBin o))) : PE X (.BinOp a op b pos) (rE X T F (.bin o a' b')) := by
  refine pe_imp (pe_op ho h1 h2) fun σ H Q h => ?_
  obtain ⟨μ, env, hp, v, hp', R, E, ev, post⟩ := h
  unfold evE at ev
  obtain ⟨v1, g1, e1, ev⟩ := thn_some ev
  obtain ⟨v2, g2, e2, ev⟩ := thn_some ev
  exact ⟨μ, env, hp, v1, g1, R, E, e1, fun μ1 x1 H1 x R1 r1 => ⟨μ1, env, g1, v2, g2, R1, E.ext x, e2, fun μ2 x2 H2 y R2 r2 => ⟨μ2, g2, v1, v2, v, hp', R2, r1.ext y, r2, ev, post.tr (x.trans y)⟩⟩⟩
theorem nE_idx {a b : Expr} {a' b' : Ex} {pos : Pos} (h1 : PE X a (rE X T F a')) (h2 : PE X b (rE X T F b')) (ho : IxR X (rO2 X.prog X.w X.K T evIdx)) (hs : PlainIx b) : PE X (.Subscript a b pos) (rE X T F (.idx a' b')) := by
  refine pe_imp (pe_ix ho h1 h2 hs) fun σ H Q h => ?_
  obtain ⟨μ, env, hp, v, hp', R, E, ev, post⟩ := h
  unfold evE at ev
  obtain ⟨v1, g1, e1, ev⟩ := thn_some ev
  obtain ⟨v2, g2, e2, ev⟩ := thn_some ev
  exact ⟨μ, env, hp, v1, g1, R, E, e1, fun μ1 x1 H1 x R1 r1 => ⟨μ1, env, g1, v2, g2, R1, E.ext x, e2, fun μ2 x2 H2 y R2 r2 => ⟨μ2, g2, v1, v2, v, hp', R2, r1.ext y, r2, ev, post.tr (x.trans y)⟩⟩⟩
theorem cmp_imp {a' b' : Ex} {o : Cm} : ∀ σ H Q, rE X T F (.cmp o a' b') σ H Q → tOp (rO2 X.prog X.w X.K T (gC o)) (rE X T F a') (rE X T F b') σ H Q := by
  intro σ H Q h
  obtain ⟨μ, env, hp, v, hp', R, E, ev, post⟩ := h
  unfold evE at ev
  obtain ⟨v1, g1, e1, ev⟩ := thn_some ev
  obtain ⟨v2, g2, e2, ev⟩ := thn_some ev
  exact ⟨μ, env, hp, v1, g1, R, E, e1, fun μ1 x1 H1 x R1 r1 => ⟨μ1, env, g1, v2, g2, R1, E.ext x, e2, fun μ2 x2 H2 y R2 r2 => ⟨μ2, g2, v1, v2, v, hp', R2, r1.ext y, r2, ev, post.tr (x.trans y)⟩⟩⟩
theorem nE_cmp {a b : Expr} {a' b' : Ex} {o : Cm} {op : CmpOp} {pos : Pos} (h1 : PE X a (rE X T F a')) (h2 : PE X b (rE X T F b')) (ho : OpR X (compareOp op) (rO2 X.prog X.w X.K T (gC o))) (hm : behindInMarks op b = false) : PE X (.Compare a [op] [b] pos) (rE X T F (.cmp o a' b')) :=
  pe_imp (pe_cmpR ho h1 h2 hm) cmp_imp
theorem nT_cmp {a b : Expr} {a' b' : Ex} {o : Cm} {op : CmpOp} {pos : Pos} (h1 : PE X a (rE X T F a')) (h2 : PE X b (rE X T F b')) (ho : OpR X (compareOp op) (rO2 X.prog X.w X.K T (gC o))) (hm : behindInMarks op b = false) : PT X (.Compare a [op] [b] pos) (rB (rE X T F (.cmp o a' b'))) :=
  pt_imp (pt_cmpR ho h1 h2 hm) fun σ H Q h => cmp_imp σ H _ h
theorem chn_imp {a' b' c' : Ex} {o p : Cm} : ∀ σ H Q, rE X T F (.chn o p a' b' c') σ H Q → tChain (rO2 X.prog X.w X.K T (gC o)) (rO2 X.prog X.w X.K T (gC p)) (rE X T F a') (rE X T F b') (rE X T F c') σ H Q := by
  intro σ H Q h
  obtain ⟨μ, env, hp, v, hp', R, E, ev, post⟩ := h
  unfold evE at ev
  obtain ⟨v1, g1, e1, ev⟩ := thn_some ev
  obtain ⟨v2, g2, e2, ev⟩ := thn_some ev
  refine ⟨μ, env, hp, v1, g1, R, E, e1, fun μ1 x1 H1 x R1 r1 => ⟨μ1, env, g1, v2, g2, R1, E.ext x, e2, fun μ2 x2 H2 y R2 r2 => ?_⟩⟩
  split at ev
  · rename_i eo
    obtain ⟨v3, g3, e3, ev⟩ := thn_some ev
    refine ⟨μ2, g2, v1, v2, .bl true, g2, R2, r1.ext y, r2, by unfold gC; rw [eo]; rfl, fun μ3 x3 H3 z R3 r3 => ?_⟩
    refine ⟨true, r3.bl_inv, ?_⟩
    try dsimp only
    rw [if_pos rfl]
    exact ⟨μ3, env, g2, v3, g3, R3, E.ext (x.trans (y.trans z)), e3, fun μ4 x4 H4 z' R4 r4 => ⟨μ4, g3, v2, v3, v, hp', R4, r2.ext (z.trans z'), r4, ev, post.tr (x.trans (y.trans (z.trans z')))⟩⟩
  · rename_i eo
    cases ev
    refine ⟨μ2, hp', v1, v2, .bl false, hp', R2, r1.ext y, r2, by unfold gC; rw [eo]; rfl, fun μ3 x3 H3 z R3 r3 => ?_⟩
    refine ⟨false, r3.bl_inv, ?_⟩
    try dsimp only
    rw [if_neg Bool.false_ne_true]
    exact post μ3 _ H3 (x.trans (y.trans z)) R3 (.bl false)
  · cases ev
theorem nE_chn {a b c : Expr} {a' b' c' : Ex} {o p : Cm} {op op' : CmpOp} {pos : Pos} (h1 : PE X a (rE X T F a')) (h2 : PE X b (rE X T F b')) (h3 : PE X c (rE X T F c')) (ho : OpR X (compareOp op) (rO2 X.prog X.w X.K T (gC o))) (ho' : OpR X (compareOp op') (rO2 X.prog X.w X.K T (gC p))) (hm : lastMarks [op, op'] [b, c] = false) : PE X (.Compare a [op, op'] [b, c] pos) (rE X T F (.chn o p a' b' c')) :=
  pe_imp (pe_chain ho ho' h1 h2 h3 hm) chn_imp
theorem nT_chn {a b c : Expr} {a' b' c' : Ex} {o p : Cm} {op op' : CmpOp} {pos : Pos} (h1 : PE X a (rE X T F a')) (h2 : PE X b (rE X T F b')) (h3 : PE X c (rE X T F c')) (ho : OpR X (compareOp op) (rO2 X.prog X.w X.K T (gC o))) (ho' : OpR X (compareOp op') (rO2 X.prog X.w X.K T (gC p))) (hm : lastMarks [op, op'] [b, c] = false) : PT X (.Compare a [op, op'] [b, c] pos) (rB (rE X T F (.chn o p a' b' c'))) :=
  pt_imp (pt_chain ho ho' h1 h2 h3 hm) fun σ H Q h => chn_imp σ H _ h
theorem nE_neg {a : Expr} {a' : Ex} {pos : Pos} (h1 : PE X a (rE X T F a')) : PE X (.UnaryOp .USub a pos) (rE X T F (.neg a')) := by
  refine pe_imp (pe_un un_neg h1) fun σ H Q h => ?_
  obtain ⟨μ, env, hp, v, hp', R, E, ev, post⟩ := h
  unfold evE at ev
  obtain ⟨v1, g1, e1, ev⟩ := thn_some ev
  split at ev
  · rename_i i
    cases ev
    exact ⟨μ, env, hp, .int i, hp', R, E, e1, fun μ1 x1 H1 x R1 r1 => ⟨i, r1.int_inv, post μ1 _ H1 x R1 (.int _)⟩⟩
  · cases ev
theorem nE_not {a : Expr} {a' : Ex} {pos : Pos} (h1 : PE X a (rE X T F a')) : PE X (.UnaryOp .Not a pos) (rE X T F (.not a')) := by
  refine pe_imp (pe_not h1) fun σ H Q h => ?_
  obtain ⟨μ, env, hp, v, hp', R, E, ev, post⟩ := h
  unfold evE at ev
  obtain ⟨v1, g1, e1, ev⟩ := thn_some ev
  split at ev
  · rename_i i
    cases ev
    exact ⟨μ, env, hp, .bl i, hp', R, E, e1, fun μ1 x1 H1 x R1 r1 => ⟨i, r1.bl_inv, post μ1 _ H1 x R1 (.bl _)⟩⟩
  · cases ev
theorem nT_not {a : Expr} {a' : Ex} {pos : Pos} (h1 : PT X a (rB (rE X T F a'))) : PT X (.UnaryOp .Not a pos) (rB (rE X T F (.not a'))) := by
  refine pt_imp (pt_not h1) fun σ H Q h => ?_
  obtain ⟨μ, env, hp, v, hp', R, E, ev, post⟩ := h
  unfold evE at ev
  obtain ⟨v1, g1, e1, ev⟩ := thn_some ev
  split at ev
  · rename_i i
    cases ev
    refine ⟨μ, env, hp, .bl i, hp', R, E, e1, fun μ1 x1 H1 x R1 r1 => ⟨i, r1.bl_inv, ?_⟩⟩
    obtain ⟨k, ek, q⟩ := post μ1 _ H1 x R1 (.bl (!i))
    cases ek
    exact q
  · cases ev
theorem nE_ite {a b c : Expr} {a' b' c' : Ex} {pos : Pos} (hc : PT X c (rB (rE X T F c'))) (h1 : PE X a (rE X T F a')) (h2 : PE X b (rE X T F b')) : PE X (.IfExp c a b pos) (rE X T F (.ite c' a' b')) := by
  refine pe_imp (pe_ifExp hc h1 h2) fun σ H Q h => ?_
  obtain ⟨μ, env, hp, v, hp', R, E, ev, post⟩ := h
  unfold evE at ev
  obtain ⟨v1, g1, e1, ev⟩ := thn_some ev
  split at ev
  · refine ⟨μ, env, hp, .bl true, g1, R, E, e1, fun μ1 x1 H1 x R1 r1 => ⟨true, r1.bl_inv, ?_⟩⟩
    try dsimp only
    rw [if_pos rfl]
    exact ⟨μ1, env, g1, v, hp', R1, E.ext x, ev, post.tr x⟩
  · refine ⟨μ, env, hp, .bl false, g1, R, E, e1, fun μ1 x1 H1 x R1 r1 => ⟨false, r1.bl_inv, ?_⟩⟩
    try dsimp only
    rw [if_neg Bool.false_ne_true]
    exact ⟨μ1, env, g1, v, hp', R1, E.ext x, ev, post.tr x⟩
  · cases ev
/-! and, or -/
theorem nAnd_one {a : Expr} {a' : Ex} {pos : Pos} (h : PE X a (rE X T F a')) : PE X (.BoolOp .And [a] pos) (rAnd X T F (.cons a' .nil)) := by
  refine pe_imp (pe_one h) fun σ H Q h => ?_
  obtain ⟨μ, env, hp, v, hp', R, E, ev, post⟩ := h
  unfold evAnd at ev
  exact ⟨μ, env, hp, v, hp', R, E, ev, post⟩
theorem nAnd_cons {a b : Expr} {rest : List Expr} {a' b' : Ex} {as : Exs} {pos : Pos} (h1 : PE X a (rE X T F a')) (h2 : PE X (.BoolOp .And (b :: rest) pos) (rAnd X T F (.cons b' as))) : PE X (.BoolOp .And (a :: b :: rest) pos) (rAnd X T F (.cons a' (.cons b' as))) := by
  refine pe_imp (pe_and h1 h2) fun σ H Q h => ?_
  obtain ⟨μ, env, hp, v, hp', R, E, ev, post⟩ := h
  unfold evAnd at ev
  obtain ⟨v1, g1, e1, ev⟩ := thn_some ev
  split at ev
  · refine ⟨μ, env, hp, .bl true, g1, R, E, e1, fun μ1 x1 H1 x R1 r1 => ⟨true, r1.bl_inv, ?_⟩⟩
    try dsimp only
    rw [if_pos rfl]
    exact ⟨μ1, env, g1, v, hp', R1, E.ext x, ev, post.tr x⟩
  · cases ev
    refine ⟨μ, env, hp, .bl false, hp', R, E, e1, fun μ1 x1 H1 x R1 r1 => ⟨false, r1.bl_inv, ?_⟩⟩
    try dsimp only
    rw [if_neg Bool.false_ne_true]
    exact post μ1 _ H1 x R1 (.bl false)
  · cases ev
theorem nOr_one {a : Expr} {a' : Ex} {pos : Pos} (h : PE X a (rE X T F a')) : PE X (.BoolOp .Or [a] pos) (rOr X T F (.cons a' .nil)) := by
  refine pe_imp (pe_one h) fun σ H Q h => ?_
  obtain ⟨μ, env, hp, v, hp', R, E, ev, post⟩ := h
  unfold evOr at ev
  exact ⟨μ, env, hp, v, hp', R, E, ev, post⟩
theorem nOr_cons {a b : Expr} {rest : List Expr} {a' b' : Ex} {as : Exs} {pos : Pos} (h1 : PE X a (rE X T F a')) (h2 : PE X (.BoolOp .Or (b :: rest) pos) (rOr X T F (.cons b' as))) : PE X (.BoolOp .Or (a :: b :: rest) pos) (rOr X T F (.cons a' (.cons b' as))) := by
  refine pe_imp (pe_or h1 h2) fun σ H Q h => ?_
  obtain ⟨μ, env, hp, v, hp', R, E, ev, post⟩ := h
  unfold evOr at ev
  obtain ⟨v1, g1, e1, ev⟩ := thn_some ev
  split at ev
  · refine ⟨μ, env, hp, .bl false, g1, R, E, e1, fun μ1 x1 H1 x R1 r1 => ⟨false, r1.bl_inv, ?_⟩⟩
    try dsimp only
    rw [if_neg Bool.false_ne_true]
    exact ⟨μ1, env, g1, v, hp', R1, E.ext x, ev, post.tr x⟩
  · cases ev
    refine ⟨μ, env, hp, .bl true, hp', R, E, e1, fun μ1 x1 H1 x R1 r1 => ⟨true, r1.bl_inv, ?_⟩⟩
    try dsimp only
    rw [if_pos rfl]
    exact post μ1 _ H1 x R1 (.bl true)
  · cases ev
theorem wAnd_one {a : Expr} {a' : Ex} {pos : Pos} (h : PT X a (rB (rE X T F a'))) : PW X (.BoolOp .And [a] pos) (rB (rAnd X T F (.cons a' .nil))) := by
  refine pw_imp (pw_and1 h) fun σ H Q h => ?_
  obtain ⟨μ, env, hp, v, hp', R, E, ev, post⟩ := h
  unfold evAnd at ev
  exact ⟨μ, env, hp, v, hp', R, E, ev, post⟩
theorem wAnd_cons {a b : Expr} {rest : List Expr} {a' b' : Ex} {as : Exs} {pos : Pos} (h1 : PT X a (rB (rE X T F a'))) (h2 : PW X (.BoolOp .And (b :: rest) pos) (rB (rAnd X T F (.cons b' as)))) : PW X (.BoolOp .And (a :: b :: rest) pos) (rB (rAnd X T F (.cons a' (.cons b' as)))) := by
  refine pw_imp (pw_and h1 h2) fun σ H Q h => ?_
  obtain ⟨μ, env, hp, v, hp', R, E, ev, post⟩ := h
  unfold evAnd at ev
  obtain ⟨v1, g1, e1, ev⟩ := thn_some ev
  split at ev
  · refine ⟨μ, env, hp, .bl true, g1, R, E, e1, fun μ1 x1 H1 x R1 r1 => ⟨true, r1.bl_inv, ?_⟩⟩
    try dsimp only
    rw [if_pos rfl]
    exact ⟨μ1, env, g1, v, hp', R1, E.ext x, ev, post.tr x⟩
  · cases ev
    refine ⟨μ, env, hp, .bl false, hp', R, E, e1, fun μ1 x1 H1 x R1 r1 => ⟨false, r1.bl_inv, ?_⟩⟩
    try dsimp only
    rw [if_neg Bool.false_ne_true]
    obtain ⟨k, ek, q⟩ := post μ1 _ H1 x R1 (.bl false)
    cases ek
    exact q
  · cases ev
theorem wOr_one {a : Expr} {a' : Ex} {pos : Pos} (h : PT X a (rB (rE X T F a'))) : PW X (.BoolOp .Or [a] pos) (rB (rOr X T F (.cons a' .nil))) := by
  refine pw_imp (pw_or1 h) fun σ H Q h => ?_
  obtain ⟨μ, env, hp, v, hp', R, E, ev, post⟩ := h
  unfold evOr at ev
  exact ⟨μ, env, hp, v, hp', R, E, ev, post⟩
theorem wOr_cons {a b : Expr} {rest : List Expr} {a' b' : Ex} {as : Exs} {pos : Pos} (h1 : PT X a (rB (rE X T F a'))) (h2 : PW X (.BoolOp .Or (b :: rest) pos) (rB (rOr X T F (.cons b' as)))) : PW X (.BoolOp .Or (a :: b :: rest) pos) (rB (rOr X T F (.cons a' (.cons b' as)))) := by
  refine pw_imp (pw_or h1 h2) fun σ H Q h => ?_
  obtain ⟨μ, env, hp, v, hp', R, E, ev, post⟩ := h
  unfold evOr at ev
  obtain ⟨v1, g1, e1, ev⟩ := thn_some ev
  split at ev
  · refine ⟨μ, env, hp, .bl false, g1, R, E, e1, fun μ1 x1 H1 x R1 r1 => ⟨false, r1.bl_inv, ?_⟩⟩
    try dsimp only
    rw [if_neg Bool.false_ne_true]
    exact ⟨μ1, env, g1, v, hp', R1, E.ext x, ev, post.tr x⟩
  · cases ev
    refine ⟨μ, env, hp, .bl true, hp', R, E, e1, fun μ1 x1 H1 x R1 r1 => ⟨true, r1.bl_inv, ?_⟩⟩
    try dsimp only
    rw [if_pos rfl]
    obtain ⟨k, ek, q⟩ := post μ1 _ H1 x R1 (.bl true)
    cases ek
    exact q
  · cases ev
theorem bound_of {v : Option PV} {l : Option Int} (e : bound? v = some l) : v = l.map .int := by
  unfold bound? at e
  split at e <;> cases e <;> rfl
theorem slc_b {a : PV} {v u : Option PV} {l m : Option Int} {h : Hv} (e : bound? v = some l) (f : bound? u = some m) : evSlc a v u h = evSlc a (l.map .int) (m.map .int) h := by rw [bound_of e, bound_of f]
/-- a slice -/
theorem nE_slc {a : Expr} {lo hi : Option Expr} {a' : Ex} {lo' hi' : OEx} {p2 pos : Pos} (h1 : PE X a (rE X T F a')) (h2 : L2.PO X lo (rO X T F lo')) (h3 : L2.PO X hi (rO X T F hi')) (ho : SlR X (rSl X.prog X.w X.K T)) : PE X (.Subscript a (.Slice lo hi none p2) pos) (rE X T F (.slc a' lo' hi')) := by
  refine pe_imp (pe_slice ho h1 h2 h3) fun σ H Q h => ?_
  obtain ⟨μ, env, hp, v, hp', R, E, ev, post⟩ := h
  unfold evE at ev
  obtain ⟨v1, g1, e1, ev⟩ := thn_some ev
  obtain ⟨v2, g2, e2, ev⟩ := thn_some ev
  obtain ⟨v3, g3, e3, ev⟩ := thn_some ev
  have ev0 := ev
  unfold evSlc at ev
  split at ev
  · rename_i l u el eu
    exact ⟨μ, env, hp, v1, g1, R, E, e1, fun μ1 x1 H1 x R1 r1 => ⟨μ1, env, g1, v2, g2, l, R1, E.ext x, e2, el, fun μ2 H2 y R2 => ⟨μ2, env, g2, v3, g3, u, R2, E.ext (x.trans y), e3, eu, fun μ3 H3 z R3 =>
      ⟨μ3, g3, v1, v, hp', R3, (r1.ext y).ext z, slc_b el eu ▸ ev0, post.tr (x.trans (y.trans z))⟩⟩⟩⟩
  · cases ev
theorem nO_none : L2.PO X none (rO X T F .none) := by
  refine po_imp po_none fun σ H Q h => ?_
  obtain ⟨μ, env, hp, v, hp', l, R, E, ev, eb, post⟩ := h
  unfold evO at ev
  cases ev
  cases eb
  exact post μ H Ext.refl R
theorem nO_some {a : Expr} {a' : Ex} (h : PE X a (rE X T F a')) : L2.PO X (some a) (rO X T F (.some a')) := by
  refine po_imp (po_some h) fun σ H Q h => ?_
  obtain ⟨μ, env, hp, v, hp', l, R, E, ev, eb, post⟩ := h
  unfold evO at ev
  obtain ⟨v1, g1, e1, ev⟩ := thn_some ev
  cases ev
  unfold bound? at eb
  split at eb
  · rename_i e; cases e
  · rename_i e
    cases e
    cases eb
    exact ⟨μ, env, hp, _, _, R, E, e1, fun μ1 x1 H1 x R1 r1 => ⟨_, r1.int_inv, post μ1 H1 x R1⟩⟩
  · cases eb
theorem nC_none : PTs X [] (rC X T F .none) := by
  refine pts_imp pts_nil fun σ H Q h => ?_
  obtain ⟨μ, env, hp, v, hp', R, E, ev, post⟩ := h
  unfold evC at ev
  cases ev
  exact post μ H Ext.refl R
theorem nC_some {a : Expr} {a' : Ex} (h : PT X a (rB (rE X T F a'))) : PTs X [a] (rC X T F (.some a')) := by
  refine pts_imp (pts_one h) fun σ H Q h => ?_
  obtain ⟨μ, env, hp, v, hp', R, E, ev, post⟩ := h
  unfold evC at ev
  obtain ⟨v1, g1, e1, ev⟩ := thn_some ev
  split at ev
  · cases ev
    exact ⟨μ, env, hp, _, _, R, E, e1, fun μ1 x1 H1 x R1 r1 => ⟨_, r1.bl_inv, post μ1 H1 x R1⟩⟩
  · cases ev
end
end PL
set_option autoImplicit false
set_option linter.all false
set_option maxRecDepth 20000
set_option maxHeartbeats 1000000
/-! PlSnd2: what is walked. -/
namespace PL
open PySem PySem.Spec PyProof.Rows L2
section
variable (X : Cx) (T : List (Addr × Str)) (F : Fun)
/-- from the state at μ0 H0 hp0 on, J walks w -/
structure Wk (μ0 : List Addr) (H0 : Hp) (J : It) (w : Walk) (hp0 : Hv) : Prop where
  stop : ∀ i μ H hp, Ext μ0 H0 μ H → HRx X T μ H hp → chk w.gd hp0 hp = true → w.xs.length ≤ i → J.stop i H
  go : ∀ i v μ H hp, Ext μ0 H0 μ H → HRx X T μ H hp → chk w.gd hp0 hp = true → w.xs[i]? = some v → J.go i H ∧ ∀ x H', J.yld i H x H' → ∃ μ', Ext μ H μ' H' ∧ HRx X T μ' H' hp ∧ VR X.K μ' H' x v
def rSrc (s : Src) : TI := fun σ H R => ∃ μ env hp w hp', HRx X T μ H hp ∧ ERL X.K μ H env σ ∧ evSrc F s env hp = .ok (w, hp') ∧ w.lk = none ∧ ∀ μ' J H', Ext μ H μ' H' → HRx X T μ' H' hp' → Wk X T μ' H' J w hp' → R J H'
/-- the keys of a locked dict -/
def rKeys (i : Nat) : TI := fun σ H R => ∃ μ env hp l kvs, HRx X T μ H hp ∧ ERL X.K μ H env σ ∧ env[i]? = some (some (.ref l)) ∧ hp[l]? = some (.lkd kvs) ∧ ∀ J, Wk X T μ H J ⟨kvs.map (·.1), [l], some (l, kvs)⟩ hp → R J H
end
section
variable {X : Cx} {T : List (Addr × Str)} {F : Fun} {μ μ' : List Addr} {H H' : Hp} {hp hp' hp0 : Hv} {env : Env} {σ σ' : L2.St}
theorem chk_at {gd : List Nat} {h h' : Hv} (c : chk gd h h' = true) {l : Nat} (hl : l ∈ gd) {o : PL.PO} (e : h[l]? = some o) : h'[l]? = some o := by
  have := List.all_eq_true.mp c l hl
  rw [e] at this
  split at this
  · rename_i o1 p e1 e2
    cases e1
    rw [e2, PO.beq_eq _ _ this]
  · cases this
/-- the three kinds of things that are walked as they are -/
def iVal (K : PySem.W.Frag) (te : TE) : TI := fun σ H R => te σ H fun x H1 => (∃ a xs, x = .ref a ∧ SqL K H1 a xs ∧ R (Itl K a) H1) ∨ (∃ a xs, x = .ref a ∧ SqT K H1 a xs ∧ R (Itt K a) H1) ∨ ∃ z, x = .str z ∧ R (Its z) H1
theorem pi_val {tg e : Expr} {te : TE} (he : PE X e te) : PI X tg e (iVal X.K te) := by
  refine ⟨fun pins s σ H R I h => ?_⟩
  refine L2.thn (he.run pins s σ H _ I h) fun v s1 ⟨y, H1, I1, r1, q⟩ => ?_
  rcases q with ⟨a, xs, rfl, hq, q⟩ | ⟨a, xs, rfl, hq, q⟩ | ⟨x, rfl, q⟩
  · cases r1
    obtain ⟨its, rv, p, hz⟩ := I1.list hq
    refine wpAny_pyIter_list p.isList ?_
    refine ⟨s1.heap.objs.size, [s1.heap.objs.size], _, _, H1, rfl, I1.kept (t' := s1.toks) fun b o e => Heap.get?_push_of_some _ e, turn_list a _, ⟨_, Heap.get?_push_size _ rfl, rfl, rfl⟩, fun b hb => ?_, q⟩
    have e : b = s1.heap.objs.size := by simpa using hb
    subst e
    exact I1.fpOk (Nat.le_refl _) (I1.hok.fresh (Nat.le_refl _))
  · cases r1
    obtain ⟨its, rv, p, hz⟩ := I1.tuple hq
    refine wpAny_pyIter_tuple (show s1.heap.IsTuple a its.toArray from p) ?_
    refine ⟨s1.heap.objs.size, [s1.heap.objs.size], _, _, H1, rfl, I1.kept (t' := s1.toks) fun b o e => Heap.get?_push_of_some _ e, turn_tuple a _, ⟨_, Heap.get?_push_size _ rfl, rfl, rfl⟩, fun b hb => ?_, q⟩
    have e : b = s1.heap.objs.size := by simpa using hb
    subst e
    exact I1.fpOk (Nat.le_refl _) (I1.hok.fresh (Nat.le_refl _))
  · obtain ⟨t, rfl⟩ := r1
    cases ha : x.cps.all (· < 128)
    · exact wpAny_pyIter_wide ha (pi_one (tk := s1.toks) I1 _ (turn_str _ x t "str_iterator" (.inr rfl)) ⟨_, Heap.get?_push_size _ rfl, rfl, rfl⟩ q)
    · exact wpAny_pyIter_ascii ha (pi_one (tk := s1.toks) I1 _ (turn_str _ x t "str_ascii_iterator" (.inl rfl)) ⟨_, Heap.get?_push_size _ rfl, rfl, rfl⟩ q)
theorem wk_list {l : Nat} {a : Addr} {vs : List PV} {lk} (ha : μ[l]? = some a) (e : hp[l]? = some (.lst vs)) : Wk X T μ H (Itl X.K a) ⟨vs, [l], lk⟩ hp := by
  refine ⟨fun i μ1 H1 hp1 x R c hi => ?_, fun i v μ1 H1 hp1 x R c hv => ?_⟩
  · have e1 := chk_at c List.mem_cons_self e
    obtain ⟨xs, h1, r⟩ := R.lst_at (x.get ha) e1
    exact ⟨xs, .of h1, by rw [r.len]; exact hi⟩
  · have e1 := chk_at c List.mem_cons_self e
    obtain ⟨xs, h1, r⟩ := R.lst_at (x.get ha) e1
    obtain ⟨y, hy, ry⟩ := r.get' hv
    refine ⟨⟨xs, y, .of h1, hy⟩, fun z H' q => ?_⟩
    obtain ⟨rfl, q⟩ := q
    have := q xs (.of h1)
    rw [hy] at this
    cases this
    exact ⟨μ1, Ext.refl, R, ry⟩
theorem wk_tup {a : Addr} {xs : List V} {vs : List PV} {lk} (hq : SqT X.K H a xs) (r0 : VRs X.K μ H xs vs) : Wk X T μ H (Itt X.K a) ⟨vs, [], lk⟩ hp := by
  refine ⟨fun i μ1 H1 hp1 x R c hi => ⟨xs, sqT_kp x hq, by rw [r0.len]; exact hi⟩, fun i v μ1 H1 hp1 x R c hv => ?_⟩
  obtain ⟨y, hy, ry⟩ := (r0.ext x).get' hv
  refine ⟨⟨xs, y, sqT_kp x hq, hy⟩, fun z H' q => ?_⟩
  obtain ⟨rfl, q⟩ := q
  have := q xs (sqT_kp x hq)
  rw [hy] at this
  cases this
  exact ⟨μ1, Ext.refl, R, ry⟩
theorem wk_str {z : List Nat} {lk} (hz : okS z) : Wk X T μ H (Its (tx z)) ⟨z.map fun c => .str [c], [], lk⟩ hp := by
  refine ⟨fun i μ1 H1 hp1 x R c hi => ?_, fun i v μ1 H1 hp1 x R c hv => ?_⟩
  · show (tx z).cps.size ≤ i
    simpa using hi
  · have hv : (z.map fun c => PV.str [c])[i]? = some v := hv
    rw [List.getElem?_map] at hv
    obtain ⟨d, hd, rfl⟩ := Option.map_eq_some_iff.mp hv
    have hi := (List.getElem?_eq_some_iff.mp hd).1
    refine ⟨by show i < (tx z).cps.size; simpa using hi, fun y H' q => ?_⟩
    obtain ⟨rfl, c', hc', rfl⟩ := q
    have : c' = d := by
      have h2 : z[i]? = some c' := by simpa using hc'
      rw [hd] at h2
      exact (Option.some.inj h2).symm
    subst this
    refine ⟨μ1, Ext.refl, R, ?_⟩
    exact .str [c'] ⟨by rw [sizeLine_eq]; show 1 ≤ 16777216; decide, fun k hk => by rw [List.mem_singleton.mp hk]; exact hz.2 c' (List.mem_of_getElem? hd)⟩
theorem wk_rng {lo : Int} {n : Nat} {lk} : Wk X T μ H (Itr lo n) ⟨rngL lo 1 n, [], lk⟩ hp := by
  refine ⟨fun i μ1 H1 hp1 x R c hi => by show n ≤ i; simpa [rngL] using hi, fun i v μ1 H1 hp1 x R c hv => ?_⟩
  have hv : (rngL lo 1 n)[i]? = some v := hv
  unfold rngL at hv
  rw [List.getElem?_map] at hv
  obtain ⟨k, hk, rfl⟩ := Option.map_eq_some_iff.mp hv
  obtain ⟨hi, rfl⟩ := List.getElem?_eq_some_iff.mp hk
  have hi' : i < n := by simpa using hi
  refine ⟨hi', fun z H' q => ?_⟩
  obtain ⟨rfl, rfl⟩ := q
  refine ⟨μ1, Ext.refl, R, ?_⟩
  rw [List.getElem_range, Int.mul_one]
  exact .int _
theorem wk_rngC {lo k : Int} {n : Nat} {lk} : Wk X T μ H (Itc lo k n) ⟨rngL lo k n, [], lk⟩ hp := by
  refine ⟨fun i μ1 H1 hp1 x R c hi => by show n ≤ i; simpa [rngL] using hi, fun i v μ1 H1 hp1 x R c hv => ?_⟩
  have hv : (rngL lo k n)[i]? = some v := hv
  unfold rngL at hv
  rw [List.getElem?_map] at hv
  obtain ⟨k', hk, rfl⟩ := Option.map_eq_some_iff.mp hv
  obtain ⟨hi, rfl⟩ := List.getElem?_eq_some_iff.mp hk
  have hi' : i < n := by simpa using hi
  refine ⟨hi', fun z H' q => ?_⟩
  obtain ⟨rfl, rfl⟩ := q
  refine ⟨μ1, Ext.refl, R, ?_⟩
  rw [List.getElem_range]
  exact .int _
theorem wk_enum {l : Nat} {a : Addr} {vs : List PV} {lk} (ha : μ[l]? = some a) (e : hp[l]? = some (.lst vs)) : Wk X T μ H (Ite X.K a) ⟨vs.zipIdx.map fun p => .tup [.int p.2, p.1], [l], lk⟩ hp := by
  refine ⟨fun i μ1 H1 hp1 x R c hi => ?_, fun i v μ1 H1 hp1 x R c hv => ?_⟩
  · have e1 := chk_at c List.mem_cons_self e
    obtain ⟨xs, h1, r⟩ := R.lst_at (x.get ha) e1
    exact ⟨xs, .of h1, by rw [r.len]; simpa using hi⟩
  · have e1 := chk_at c List.mem_cons_self e
    obtain ⟨xs, h1, r⟩ := R.lst_at (x.get ha) e1
    have hv : (vs.zipIdx.map fun p => PV.tup [.int p.2, p.1])[i]? = some v := hv
    rw [List.getElem?_map, List.getElem?_zipIdx] at hv
    obtain ⟨p, hp', rfl⟩ := Option.map_eq_some_iff.mp hv
    obtain ⟨u, hu, rfl⟩ := Option.map_eq_some_iff.mp hp'
    obtain ⟨y, hy, ry⟩ := r.get' hu
    refine ⟨⟨xs, y, .of h1, hy⟩, fun z H' q => ?_⟩
    obtain ⟨A, y', rfl, hn, rfl, q⟩ := q
    have := q xs (.of h1)
    rw [hy] at this
    cases this
    refine ⟨μ1, Ext.fresh hn, R.fresh hn, .tup (.inl (.inl upd_same)) ?_⟩
    dsimp only
    rw [Nat.zero_add]
    exact .cons (.int _) (.cons (ry.ext (Ext.fresh hn)) .nil)
theorem zip_get {xs ys : List PV} {i : Nat} {v : PV} (hv : ((xs.zip ys).map fun p => PV.tup [p.1, p.2])[i]? = some v) : ∃ x y, xs[i]? = some x ∧ ys[i]? = some y ∧ v = .tup [x, y] := by
  rw [List.getElem?_map] at hv
  obtain ⟨p, hp', rfl⟩ := Option.map_eq_some_iff.mp hv
  obtain ⟨h1, h2⟩ := List.getElem?_zip_eq_some.mp hp'
  exact ⟨p.1, p.2, h1, h2, rfl⟩
theorem wk_zip {l m : Nat} {a b : Addr} {vs us : List PV} {lk} (ha : μ[l]? = some a) (e : hp[l]? = some (.lst vs)) (hb : μ[m]? = some b) (f : hp[m]? = some (.lst us)) : Wk X T μ H (Itz X.K a b) ⟨(vs.zip us).map fun p => .tup [p.1, p.2], [l, m], lk⟩ hp := by
  refine ⟨fun i μ1 H1 hp1 x R c hi => ?_, fun i v μ1 H1 hp1 x R c hv => ?_⟩
  · obtain ⟨xs, h1, r⟩ := R.lst_at (x.get ha) (chk_at c List.mem_cons_self e)
    obtain ⟨ys, h2, r2⟩ := R.lst_at (x.get hb) (chk_at c (List.mem_cons_of_mem _ List.mem_cons_self) f)
    refine ⟨xs, ys, .of h1, .of h2, ?_⟩
    have : min vs.length us.length ≤ i := by simpa using hi
    rw [r.len, r2.len]
    omega
  · obtain ⟨xs, h1, r⟩ := R.lst_at (x.get ha) (chk_at c List.mem_cons_self e)
    obtain ⟨ys, h2, r2⟩ := R.lst_at (x.get hb) (chk_at c (List.mem_cons_of_mem _ List.mem_cons_self) f)
    obtain ⟨p, q, e1, e2, rfl⟩ := zip_get hv
    obtain ⟨y, hy, ry⟩ := r.get' e1
    obtain ⟨z, hz, rz⟩ := r2.get' e2
    refine ⟨⟨xs, ys, y, z, .of h1, .of h2, hy, hz⟩, fun t H' q => ?_⟩
    obtain ⟨A, y', z', rfl, hn, rfl, q, q2⟩ := q
    have e3 := q xs (.of h1)
    have e4 := q2 ys (.of h2)
    rw [hy] at e3
    rw [hz] at e4
    cases e3; cases e4
    exact ⟨μ1, Ext.fresh hn, R.fresh hn, .tup (.inl (.inl upd_same)) (.cons (ry.ext (Ext.fresh hn)) (.cons (rz.ext (Ext.fresh hn)) .nil))⟩
theorem wk_zipT {a b : Addr} {xs ys : List V} {vs us : List PV} {lk} (h1 : SqT X.K H a xs) (r1 : VRs X.K μ H xs vs) (h2 : SqT X.K H b ys) (r2 : VRs X.K μ H ys us) : Wk X T μ H (RZ.ItzT X.K a b) ⟨(vs.zip us).map fun p => .tup [p.1, p.2], [], lk⟩ hp := by
  refine ⟨fun i μ1 H1 hp1 x R c hi => ⟨xs, ys, sqT_kp x h1, sqT_kp x h2, ?_⟩, fun i v μ1 H1 hp1 x R c hv => ?_⟩
  · have : min vs.length us.length ≤ i := by simpa using hi
    rw [r1.len, r2.len]
    omega
  · obtain ⟨p, q, e1, e2, rfl⟩ := zip_get hv
    obtain ⟨y, hy, ry⟩ := (r1.ext x).get' e1
    obtain ⟨z, hz, rz⟩ := (r2.ext x).get' e2
    refine ⟨⟨xs, ys, y, z, sqT_kp x h1, sqT_kp x h2, hy, hz⟩, fun t H' q => ?_⟩
    obtain ⟨A, y', z', rfl, hn, rfl, q, q2⟩ := q
    have e3 := q xs (sqT_kp x h1)
    have e4 := q2 ys (sqT_kp x h2)
    rw [hy] at e3
    rw [hz] at e4
    cases e3; cases e4
    exact ⟨μ1, Ext.fresh hn, R.fresh hn, .tup (.inl (.inl upd_same)) (.cons (ry.ext (Ext.fresh hn)) (.cons (rz.ext (Ext.fresh hn)) .nil))⟩

/-! ### the sources -/
theorem nI_val {tg e : Expr} {a : Ex} (h : PE X e (rE X T F a)) : PI X tg e (rSrc X T F (.val a)) := by
  refine pi_imp (pi_val h) fun σ H R h => ?_
  obtain ⟨μ, env, hp, w, hp', R1, E, ev, lk, post⟩ := h
  unfold evSrc at ev
  obtain ⟨v, g, e1, ev⟩ := thn_some ev
  split at ev
  · rename_i w' hw
    cases ev
    refine ⟨μ, env, hp, v, hp', R1, E, e1, fun μ1 x H1 x1 R2 r => ?_⟩
    unfold srcItems at hw
    split at hw
    · cases hw
      obtain ⟨a, xs, rfl, hq, rx⟩ := r.tup_inv
      exact .inr (.inl ⟨a, xs, rfl, hq, post μ1 _ H1 x1 R2 (wk_tup hq rx)⟩)
    · cases hw
      exact .inr (.inr ⟨_, r.str_inv, post μ1 _ H1 x1 R2 (wk_str r.str_ok)⟩)
    · split at hw
      · rename_i l xs hx
        cases hw
        obtain ⟨a, rfl, ha⟩ := r.ref_inv
        dsimp only [items?] at hx
        split at hx
        · rename_i xs' e2
          cases hx
          obtain ⟨ys, h1, _⟩ := R2.lst_at ha e2
          exact .inl ⟨a, ys, rfl, .of h1, post μ1 _ H1 x1 R2 (wk_list ha e2)⟩
        · cases hx
      · cases hw
    · cases hw
  · cases ev
theorem nI_rng1 {tg e : Expr} {a : Ex} {p pos : Pos} (hg : Gl X "range") (hm : X.mg "range" = none) (h : PE X e (rE X T F a)) (hs : starEach [e] X.env = [(false, eval e X.env)]) : PI X tg (.Call (.Name "range" p) [e] [] pos) (rSrc X T F (.rng1 a)) := by
  refine pi_imp (pi_range1 hg hm (pa_cons h pa_nil hs) hs) fun σ H R h => ?_
  obtain ⟨μ, env, hp, w, hp', R1, E, ev, lk, post⟩ := h
  unfold evSrc at ev
  obtain ⟨v, g, e1, ev⟩ := thn_some ev
  split at ev
  · split at ev
    · rename_i i hs
      cases ev
      refine ⟨μ, env, hp, _, hp', R1, E, e1, fun μ1 x H1 x1 R2 r => ?_⟩
      have hs := of_decide_eq_true hs
      exact ⟨i, by rw [r.int_inv], hs.1, hs.2, post μ1 _ H1 x1 R2 wk_rng⟩
    · cases ev
  · cases ev
theorem nI_rng2 {tg e e2 : Expr} {a b : Ex} {p pos : Pos} (hg : Gl X "range") (hm : X.mg "range" = none) (h : PE X e (rE X T F a)) (h2 : PE X e2 (rE X T F b)) (hs : starEach [e, e2] X.env = [(false, eval e X.env), (false, eval e2 X.env)]) (hs2 : starEach [e2] X.env = [(false, eval e2 X.env)]) : PI X tg (.Call (.Name "range" p) [e, e2] [] pos) (rSrc X T F (.rng2 a b)) := by
  refine pi_imp (pi_range2 hg hm (pa_cons h (pa_cons h2 pa_nil hs2) (by rw [hs, hs2])) hs hs2) fun σ H R h => ?_
  obtain ⟨μ, env, hp, w, hp', R1, E, ev, lk, post⟩ := h
  unfold evSrc at ev
  obtain ⟨v, g, e1, ev⟩ := thn_some ev
  obtain ⟨v2, g2, e2, ev⟩ := thn_some ev
  split at ev
  · split at ev
    · rename_i i j _ hs
      cases ev
      refine ⟨μ, env, hp, _, g, R1, E, e1, fun μ1 x H1 x1 R2 r => ⟨μ1, env, g, _, hp', R2, E.ext x1, e2, fun μ2 x' H2 x2 R3 r2 => ?_⟩⟩
      rw [Bool.and_eq_true] at hs
      have hs1 := of_decide_eq_true hs.1
      have hs2 := of_decide_eq_true hs.2
      exact ⟨i, j, by rw [r.int_inv, r2.int_inv], ⟨hs1.1, hs1.2, hs2.1, hs2.2⟩, post μ2 _ H2 (x1.trans x2) R3 wk_rng⟩
    · cases ev
  · cases ev
theorem nI_rng3 {tg e e2 e3 : Expr} {a b c : Ex} {p pos : Pos} (hg : Gl X "range") (hm : X.mg "range" = none) (h : PE X e (rE X T F a)) (h2 : PE X e2 (rE X T F b)) (h3 : PE X e3 (rE X T F c)) (hs : starEach [e, e2, e3] X.env = (false, eval e X.env) :: starEach [e2, e3] X.env) (hs2 : starEach [e2, e3] X.env = (false, eval e2 X.env) :: starEach [e3] X.env)
    (hs3 : starEach [e3] X.env = (false, eval e3 X.env) :: starEach [] X.env) : PI X tg (.Call (.Name "range" p) [e, e2, e3] [] pos) (rSrc X T F (.rng3 a b c)) := by
  refine pi_imp (pi_range3 hg hm (pa_cons h (pa_cons h2 (pa_cons h3 pa_nil hs3) hs2) hs) hs (by rw [hs2, hs3]; rfl)) fun σ H R h => ?_
  obtain ⟨μ, env, hp, w, hp', R1, E, ev, lk, post⟩ := h
  unfold evSrc at ev
  obtain ⟨v, g, e1, ev⟩ := thn_some ev
  obtain ⟨v2, g2, e2, ev⟩ := thn_some ev
  obtain ⟨v3, g3, e3, ev⟩ := thn_some ev
  split at ev
  · split at ev
    · rename_i i j k _ _ hs
      cases ev
      refine ⟨μ, env, hp, _, g, R1, E, e1, fun μ1 x H1 x1 R2 r => ⟨μ1, env, g, _, g2, R2, E.ext x1, e2, fun μ2 x' H2 x2 R3 r2 => ⟨μ2, env, g2, _, hp', R3, E.ext (x1.trans x2), e3, fun μ3 x'' H3 x3 R4 r3 => ?_⟩⟩⟩
      rw [Bool.and_eq_true, Bool.and_eq_true] at hs
      have hs1 := of_decide_eq_true hs.1.1
      have hs2 := of_decide_eq_true hs.1.2
      have hs3 := of_decide_eq_true hs.2
      subst hs3
      exact ⟨i, j, -1, (i - j).toNat, by rw [r.int_inv, r2.int_inv, r3.int_inv], .neg hs1.1 hs1.2 hs2.1 hs2.2, post μ3 _ H3 (x1.trans (x2.trans x3)) R4 wk_rngC⟩
    · cases ev
  · cases ev
theorem nI_enum {elts : List Expr} {kk : Nat} {tpos : Pos} {e : Expr} {a : Ex} {p pos : Pos} (hg : Gl X "enumerate") (hm : X.mg "enumerate" = none) (h : PE X e (rE X T F a)) (hs : starEach [e] X.env = [(false, eval e X.env)]) : PI X (.Tuple elts kk tpos) (.Call (.Name "enumerate" p) [e] [] pos) (rSrc X T F (.enum a)) := by
  refine pi_imp (pi_enum hg hm (pa_cons h pa_nil hs) hs) fun σ H R h => ?_
  obtain ⟨μ, env, hp, w, hp', R1, E, ev, lk, post⟩ := h
  unfold evSrc at ev
  obtain ⟨v, g, e1, ev⟩ := thn_some ev
  split at ev
  · split at ev
    · rename_i l xs hx
      cases ev
      refine ⟨μ, env, hp, _, hp', R1, E, e1, fun μ1 x H1 x1 R2 r => ?_⟩
      obtain ⟨a, rfl, ha⟩ := r.ref_inv
      dsimp only [items?] at hx
      split at hx
      · rename_i xs' e2
        cases hx
        obtain ⟨ys, h1, _⟩ := R2.lst_at ha e2
        exact ⟨a, ys, rfl, .of h1, post μ1 _ H1 x1 R2 (wk_enum ha e2)⟩
      · cases hx
    · cases ev
  · cases ev
theorem nI_zip {elts : List Expr} {kk : Nat} {tpos : Pos} {e f : Expr} {a b : Ex} {p pos : Pos} (hg : Gl X "zip") (hm : X.mg "zip" = none) (h : PE X e (rE X T F a)) (h2 : PE X f (rE X T F b)) (hs : starEach [e, f] X.env = (false, eval e X.env) :: starEach [f] X.env) (hs2 : starEach [f] X.env = (false, eval f X.env) :: starEach [] X.env) :
    PI X (.Tuple elts kk tpos) (.Call (.Name "zip" p) [e, f] [] pos) (rSrc X T F (.zip a b)) := by
  refine pi_imp (RZ.pi_zipA hg hm (pa_cons h (pa_cons h2 pa_nil hs2) hs) hs (by rw [hs2]; rfl)) fun σ H R h => ?_
  obtain ⟨μ, env, hp, w, hp', R1, E, ev, lk, post⟩ := h
  unfold evSrc at ev
  obtain ⟨v, g, e1, ev⟩ := thn_some ev
  obtain ⟨v2, g2, e2, ev⟩ := thn_some ev
  refine ⟨μ, env, hp, _, g, R1, E, e1, fun μ1 x H1 x1 R2 r => ⟨μ1, env, g, _, g2, R2, E.ext x1, e2, fun μ2 x' H2 x2 R3 r2 => ?_⟩⟩
  split at ev
  · split at ev
    · rename_i l m xs ys hx hy
      cases ev
      obtain ⟨a, rfl, ha⟩ := (r.ext x2).ref_inv
      obtain ⟨b, rfl, hb⟩ := r2.ref_inv
      dsimp only [items?] at hx hy
      split at hx
      · rename_i xs' e3
        cases hx
        split at hy
        · rename_i ys' e4
          cases hy
          obtain ⟨zs, h1, _⟩ := R3.lst_at ha e3
          obtain ⟨us, h2, _⟩ := R3.lst_at hb e4
          exact ⟨a, b, zs, us, rfl, .inl ⟨.of h1, .of h2, post μ2 _ H2 (x1.trans x2) R3 (wk_zip ha e3 hb e4)⟩⟩
        · cases hy
      · cases hx
    · cases ev
  · cases ev
    obtain ⟨a, xs, rfl, h1, rx⟩ := (r.ext x2).tup_inv
    obtain ⟨b, ys, rfl, h2, ry⟩ := r2.tup_inv
    exact ⟨a, b, xs, ys, rfl, .inr ⟨h1, h2, post μ2 _ H2 (x1.trans x2) R3 (wk_zipT h1 rx h2 ry)⟩⟩
  · cases ev
end
end PL
set_option autoImplicit false
set_option linter.all false
set_option maxRecDepth 20000
set_option maxHeartbeats 1000000
/-! PlSnd3: targets, statements, loops, comprehensions. -/
namespace PL
open PySem PySem.Spec PyProof.Rows L2
def slots : Tg → List Nat
  | .name i => [i]
  | .tup2 a b => slots a ++ slots b
  | .tup3 a b c => slots a ++ (slots b ++ slots c)
section
variable (X : Cx) (T : List (Addr × Str)) (F : Fun) (W : Nat)
def rT (t : Tg) : TG := fun v σ H Q => ∃ μ hp env u e1, HRx X T μ H hp ∧ ERL X.K μ H env σ ∧ VR X.K μ H v u ∧ bind t u env = some e1 ∧
  ∀ σ', ERL X.K μ H e1 σ' → (∀ vs, (∀ i ∈ slots t, i ∈ vs) → wipe σ' vs = wipe σ vs) → Q σ' H
def PstS (μ : List Addr) (H : Hp) (hp' : Hv) (o : Out) (D : Ends) : Prop := match o with
  | .next e => ∀ μ' σ' H', Ext μ H μ' H' → HRx X T μ' H' hp' → ERL X.K μ' H' e σ' → D.nx σ' H'
  | .brk e => ∀ μ' σ' H', Ext μ H μ' H' → HRx X T μ' H' hp' → ERL X.K μ' H' e σ' → D.bk σ' H'
  | .ret v => ∀ μ' x H', Ext μ H μ' H' → HRx X T μ' H' hp' → VR X.K μ' H' x v → D.rt x H'
def rS (s : PL.St) : TS := fun D σ H => ∃ μ env hp o hp', HRx X T μ H hp ∧ ERL X.K μ H env σ ∧ evS F W s env hp = .ok (o, hp') ∧ PstS X T μ H hp' o D
def rSs (s : Sts) : TS := fun D σ H => ∃ μ env hp o hp', HRx X T μ H hp ∧ ERL X.K μ H env σ ∧ evSs F W s env hp = .ok (o, hp') ∧ PstS X T μ H hp' o D
end
section
variable {X : Cx} {T : List (Addr × Str)} {F : Fun} {W : Nat} {μ μ' : List Addr} {H H' : Hp} {hp hp' hp0 : Hv} {env : Env} {σ σ' : L2.St}
theorem PstS.tr {o : Out} {D : Ends} (p : PstS X T μ H hp' o D) (e : Ext μ H μ' H') : PstS X T μ' H' hp' o D := by
  cases o with
  | next e1 => exact fun μ2 σ2 H2 e2 R r => p μ2 σ2 H2 (e.trans e2) R r
  | brk e1 => exact fun μ2 σ2 H2 e2 R r => p μ2 σ2 H2 (e.trans e2) R r
  | ret v => exact fun μ2 σ2 H2 e2 R r => p μ2 σ2 H2 (e.trans e2) R r
theorem ERL.set {K : PySem.W.Frag} {i : Nat} {x : V} {v : PV} (h : ERL K μ H env σ) (r : VR K μ H x v) : ERL K μ H (env.set i (some v)) (σ.set i (some x)) := by
  refine ⟨fun j u e => ?_, by rw [List.length_set, List.length_set]; exact h.2⟩
  by_cases hj : i = j
  · subst hj
    have hl : i < env.length := by have := (List.getElem?_eq_some_iff.mp e).1; rwa [List.length_set] at this
    rw [List.getElem?_set_self hl] at e
    cases e
    exact ⟨x, by rw [List.getElem?_set_self (by rw [h.2]; exact hl)], r⟩
  · rw [List.getElem?_set_ne hj] at e
    obtain ⟨y, h1, h2⟩ := h.1 j u e
    exact ⟨y, by rw [List.getElem?_set_ne hj]; exact h1, h2⟩
theorem wipe_set1 {i : Nat} {x : Option V} : ∀ vs : List Nat, (wipe (σ.set i x) vs).set i none = (wipe σ vs).set i none
  | [] => by show (σ.set i x).set i none = σ.set i none; rw [List.set_set]
  | v :: vs => by
    show ((wipe (σ.set i x) vs).set v none).set i none = ((wipe σ vs).set v none).set i none
    by_cases h : v = i
    · subst h
      rw [List.set_set, List.set_set]
      exact wipe_set1 vs
    · rw [List.set_comm _ _ h, List.set_comm _ _ h, wipe_set1 vs]
theorem wipe_set {i : Nat} {x : Option V} : ∀ {vs : List Nat}, i ∈ vs → wipe (σ.set i x) vs = wipe σ vs
  | v :: vs, h => by
    show (wipe (σ.set i x) vs).set v none = (wipe σ vs).set v none
    by_cases e : v = i
    · subst e; exact wipe_set1 vs
    · rw [wipe_set (List.mem_of_ne_of_mem (Ne.symm e) h)]
/-! ### targets -/
theorem nG_name {i : Nat} {x : Str} {pos : Pos} (hN : X.N.Nodup) (hi : X.N[i]? = some x) (hx : Loc X.env.scope x) (hf : X.fn x = true ∨ X.env.scope.names.lookup x = some .local) : PG X (.Name x pos) (rT X T (.name i)) := by
  refine pg_imp (pg_name hN hi hx hf) fun v σ H Q h => ?_
  obtain ⟨μ, hp, env, u, e1, R, E, r, eb, q⟩ := h
  unfold bind at eb
  cases eb
  exact q _ (E.set r) fun vs hv => wipe_set (hv i (by simp [slots]))
theorem nG_tup2 {a b : Expr} {ta tb : Tg} {k : Nat} {pos : Pos} (hc : X.calm = true) (ha : PG X a (rT X T ta)) (hb : PG X b (rT X T tb)) (s1 : (assignEach [a, b] X.env) = [(false, assign a X.env), (false, assign b X.env)]) (s2 : (assignEach [b] X.env) = [(false, assign b X.env)]) :
    PG X (.Tuple [a, b] k pos) (rT X T (.tup2 ta tb)) := by
  refine pg_imp (pg_tup (n := 2) hc (pgs_cons ha (pgs_cons hb pgs_nil (by rw [s2]; rfl)) (by rw [s1, s2]; rfl)) (by rw [s1]; rfl) (by rw [s1]; rfl)) fun v σ H Q h => ?_
  obtain ⟨μ, hp, env, u, e1, R, E, r, eb, q⟩ := h
  unfold bind at eb
  split at eb
  · rename_i x y
    obtain ⟨A, xs, rfl, hq, rx⟩ := r.tup_inv
    obtain ⟨x', y', rfl, r1, r2⟩ := rx.two
    split at eb
    · rename_i e2 eb1
      refine ⟨A, _, rfl, hq, rfl, x', _, rfl, μ, hp, env, x, e2, R, E, r1, eb1, fun σ1 E1 w1 => ⟨y', _, rfl, μ, hp, e2, y, e1, R, E1, r2, eb, fun σ2 E2 w2 => ⟨rfl, q σ2 E2 fun vs hv => ?_⟩⟩⟩
      rw [w2 vs fun i hi => hv i (List.mem_append_right _ hi), w1 vs fun i hi => hv i (List.mem_append_left _ hi)]
    · cases eb
  · cases eb
theorem VRs.three {K : PySem.W.Frag} {xs : List V} {a b c : PV} (r : VRs K μ H xs [a, b, c]) : ∃ x y z, xs = [x, y, z] ∧ VR K μ H x a ∧ VR K μ H y b ∧ VR K μ H z c := by
  cases r with
  | cons h1 r =>
    obtain ⟨y, z, rfl, h2, h3⟩ := r.two
    exact ⟨_, y, z, rfl, h1, h2, h3⟩
theorem nG_tup3 {a b c : Expr} {ta tb tc : Tg} {k : Nat} {pos : Pos} (hc : X.calm = true) (ha : PG X a (rT X T ta)) (hb : PG X b (rT X T tb)) (hd : PG X c (rT X T tc)) (s1 : (assignEach [a, b, c] X.env) = [(false, assign a X.env), (false, assign b X.env), (false, assign c X.env)]) (s2 : (assignEach [b, c] X.env) = [(false, assign b X.env), (false, assign c X.env)]) (s3 : (assignEach [c] X.env) = [(false, assign c X.env)]) :
    PG X (.Tuple [a, b, c] k pos) (rT X T (.tup3 ta tb tc)) := by
  refine pg_imp (pg_tup (n := 3) hc (pgs_cons ha (pgs_cons hb (pgs_cons hd pgs_nil (by rw [s3]; rfl)) (by rw [s2, s3]; rfl)) (by rw [s1, s2]; rfl)) (by rw [s1]; rfl) (by rw [s1]; rfl)) fun v σ H Q h => ?_
  obtain ⟨μ, hp, env, u, e1, R, E, r, eb, q⟩ := h
  unfold bind at eb
  split at eb
  · rename_i x y z
    obtain ⟨A, xs, rfl, hq, rx⟩ := r.tup_inv
    obtain ⟨x', y', z', rfl, r1, r2, r3⟩ := rx.three
    split at eb
    · rename_i e2 eb1
      split at eb
      · rename_i e3 eb2
        refine ⟨A, _, rfl, hq, rfl, x', _, rfl, μ, hp, env, x, e2, R, E, r1, eb1, fun σ1 E1 w1 => ⟨y', _, rfl, μ, hp, e2, y, e3, R, E1, r2, eb2, fun σ2 E2 w2 => ⟨z', _, rfl, μ, hp, e3, z, e1, R, E2, r3, eb, fun σ3 E3 w3 => ⟨rfl, q σ3 E3 fun vs hv => ?_⟩⟩⟩⟩
        rw [w3 vs fun i hi => hv i (List.mem_append_right _ (List.mem_append_right _ hi)), w2 vs fun i hi => hv i (List.mem_append_right _ (List.mem_append_left _ hi)), w1 vs fun i hi => hv i (List.mem_append_left _ hi)]
      · cases eb
    · cases eb
  · cases eb
/-! ### statements -/
theorem nSs_nil : PSs X [] (rSs X T F W .nil) := by
  refine pss_imp pss_nil fun D σ H h => ?_
  obtain ⟨μ, env, hp, o, hp', R, E, ev, post⟩ := h
  unfold evSs at ev
  cases ev
  exact post μ σ H Ext.refl R E
theorem nSs_cons {s : Stmt} {ss : List Stmt} {a : PL.St} {as : Sts} (h1 : PS X s (rS X T F W a)) (h2 : PSs X ss (rSs X T F W as)) : PSs X (s :: ss) (rSs X T F W (.cons a as)) := by
  refine pss_imp (pss_cons h1 h2) fun D σ H h => ?_
  obtain ⟨μ, env, hp, o, hp', R, E, ev, post⟩ := h
  unfold evSs at ev
  obtain ⟨o1, g, e1, ev⟩ := thn_some ev
  refine ⟨μ, env, hp, o1, g, R, E, e1, ?_⟩
  cases o1 with
  | next e2 => exact fun μ1 σ1 H1 x1 R1 E1 => ⟨μ1, e2, g, o, hp', R1, E1, ev, post.tr x1⟩
  | brk e2 => cases ev; exact post
  | ret v => cases ev; exact post
theorem nS_set {i : Nat} {x : Str} {e : Expr} {a : Ex} {pos' pos : Pos} (hN : X.N.Nodup) (hi : X.N[i]? = some x) (hx : Loc X.env.scope x) (he : PE X e (rE X T F a)) (hs : swapsWith e (some (.Name x pos')) pos.line X.env = pure false) (hf : X.fn x = true ∨ X.env.scope.names.lookup x = some .local) : PS X (.Assign [.Name x pos'] e pos) (rS X T F W (.set i a)) := by
  refine ps_imp (ps_set hN hi hx he hs hf) fun D σ H h => ?_
  obtain ⟨μ, env, hp, o, hp', R, E, ev, post⟩ := h
  unfold evS at ev
  obtain ⟨v, g, e1, ev⟩ := thn_some ev
  cases ev
  exact ⟨μ, env, hp, v, hp', R, E, e1, fun μ1 x1 H1 x R1 r => post μ1 _ H1 x R1 ((E.ext x).set r)⟩
theorem nS_tset {tg e : Expr} {a : Ex} {t : Tg} {pos : Pos} (he : PE X e (rE X T F a)) (hg : PG X tg (rT X T t)) (hs : swapsWithSole [tg] e pos.line X.env = pure false) (hw : swappedStores [tg] e X.env = pure none) (h1 : (assignEach [tg] X.env).map (·.2) = [assign tg X.env]) : PS X (.Assign [tg] e pos) (rS X T F W (.tset t a)) := by
  refine ps_imp (ps_asg he hg hs hw h1) fun D σ H h => ?_
  obtain ⟨μ, env, hp, o, hp', R, E, ev, post⟩ := h
  unfold evS at ev
  obtain ⟨v, g, e1, ev⟩ := thn_some ev
  split at ev
  · rename_i e2 eb
    cases ev
    exact ⟨μ, env, hp, v, hp', R, E, e1, fun μ1 x1 H1 x R1 r => ⟨μ1, hp', env, v, e2, R1, E.ext x, r, eb, fun σ' E' _ => post μ1 σ' H1 x R1 E'⟩⟩
  · cases ev
theorem nS_par {i j : Nat} {x y : Str} {a b : Expr} {a' b' : Ex} {px py pt pos : Pos} {kt k2 : Nat} {pt2 : Pos} (hc : X.calm = true) (hN : X.N.Nodup) (hi : X.N[i]? = some x) (hj : X.N[j]? = some y) (hij : i ≠ j)
    (hx : X.env.scope.names.lookup x = some .local) (hy : X.env.scope.names.lookup y = some .local) (ha : PE X a (rE X T F a')) (hb : PE X b (rE X T F b')) (s1 : starEach [a, b] X.env = (false, eval a X.env) :: starEach [b] X.env) (s2 : starEach [b] X.env = (false, eval b X.env) :: starEach [] X.env)
    (hw : swappedStores [.Tuple [.Name x px, .Name y py] kt pt] (.Tuple [a, b] k2 pt2) X.env = pure (some [x, y]))
    (hs : swapsWithSole [.Tuple [.Name x px, .Name y py] kt pt] (.Tuple [a, b] k2 pt2) pos.line X.env = pure false) :
    PS X (.Assign [.Tuple [.Name x px, .Name y py] kt pt] (.Tuple [a, b] k2 pt2) pos) (rS X T F W (.tset (.tup2 (.name i) (.name j)) (.tup (.cons a' (.cons b' .nil))))) := by
  refine ps_imp (ps_par hc hN hi hj hij hx hy (pa_cons ha (pa_cons hb pa_nil s2) s1) hw hs) fun D σ H h => ?_
  obtain ⟨μ, env, hp, o, hp', R, E, ev, post⟩ := h
  unfold evS at ev
  obtain ⟨v, g, e1, ev⟩ := thn_some ev
  unfold evE at e1
  obtain ⟨vs, g1, e1, e1'⟩ := thn_some e1
  unfold evEs at e1
  obtain ⟨v1, k1, e2, e1⟩ := thn_some e1
  obtain ⟨vs2, k3, e3, e1⟩ := thn_some e1
  unfold evEs at e3
  obtain ⟨v2, k4, e4, e3⟩ := thn_some e3
  obtain ⟨vs3, k5, e5, e3⟩ := thn_some e3
  unfold evEs at e5
  cases e5
  cases e3
  cases e1
  split at e1'
  · cases e1'
    dsimp only [bind] at ev
    cases ev
    exact ⟨μ, env, hp, v1, k1, R, E, e2, fun μ1 x1 H1 x R1 r => ⟨μ1, env, k1, v2, hp', R1, E.ext x, e4, fun μ2 x2 H2 y R2 r2 => ⟨x1, x2, rfl, post μ2 _ H2 (x.trans y) R2 (((E.ext (x.trans y)).set (r.ext y)).set r2)⟩⟩⟩
  · cases e1'
theorem nS_expr {e : Expr} {a : Ex} {pos : Pos} (he : PE X e (rE X T F a)) (hs : swapsWith e none pos.line X.env = pure false) : PS X (.Expr e pos) (rS X T F W (.expr a)) := by
  refine ps_imp (ps_expr he hs) fun D σ H h => ?_
  obtain ⟨μ, env, hp, o, hp', R, E, ev, post⟩ := h
  unfold evS at ev
  obtain ⟨v, g, e1, ev⟩ := thn_some ev
  cases ev
  exact ⟨μ, env, hp, v, hp', R, E, e1, fun μ1 x1 H1 x R1 r => post μ1 _ H1 x R1 (E.ext x)⟩
theorem nS_ite {c : Expr} {a b : List Stmt} {c' : Ex} {a' b' : Sts} {pos : Pos} (hc : PT X c (rB (rE X T F c'))) (ha : PSs X a (rSs X T F W a')) (hb : PSs X b (rSs X T F W b')) : PS X (.If c a b pos) (rS X T F W (.ite c' a' b')) := by
  refine ps_imp (ps_if hc ha hb) fun D σ H h => ?_
  obtain ⟨μ, env, hp, o, hp', R, E, ev, post⟩ := h
  unfold evS at ev
  obtain ⟨v, g, e1, ev⟩ := thn_some ev
  split at ev
  · refine ⟨μ, env, hp, .bl true, g, R, E, e1, fun μ1 x1 H1 x R1 r => ⟨true, r.bl_inv, ?_⟩⟩
    try dsimp only
    rw [if_pos rfl]
    exact ⟨μ1, env, g, o, hp', R1, E.ext x, ev, post.tr x⟩
  · refine ⟨μ, env, hp, .bl false, g, R, E, e1, fun μ1 x1 H1 x R1 r => ⟨false, r.bl_inv, ?_⟩⟩
    try dsimp only
    rw [if_neg Bool.false_ne_true]
    exact ⟨μ1, env, g, o, hp', R1, E.ext x, ev, post.tr x⟩
  · cases ev
theorem nS_ret {e : Expr} {a : Ex} {pos : Pos} (he : PE X e (rE X T F a)) : PS X (.Return (some e) pos) (rS X T F W (.ret a)) := by
  refine ps_imp (ps_ret he) fun D σ H h => ?_
  obtain ⟨μ, env, hp, o, hp', R, E, ev, post⟩ := h
  unfold evS at ev
  obtain ⟨v, g, e1, ev⟩ := thn_some ev
  cases ev
  exact ⟨μ, env, hp, v, hp', R, E, e1, post⟩
theorem nS_retN {pos : Pos} : PS X (.Return none pos) (rS X T F W .retN) := by
  refine ps_imp ps_retN fun D σ H h => ?_
  obtain ⟨μ, env, hp, o, hp', R, E, ev, post⟩ := h
  unfold evS at ev
  cases ev
  exact post μ _ H Ext.refl R .non
theorem nS_pass {pos : Pos} : PS X (.Pass pos) (rS X T F W .pass) := by
  refine ps_imp ps_pass fun D σ H h => ?_
  obtain ⟨μ, env, hp, o, hp', R, E, ev, post⟩ := h
  unfold evS at ev
  cases ev
  exact post μ σ H Ext.refl R E
theorem nS_brk {pos : Pos} : PS X (.Break pos) (rS X T F W .brk) := by
  refine ps_imp ps_break fun D σ H h => ?_
  obtain ⟨μ, env, hp, o, hp', R, E, ev, post⟩ := h
  unfold evS at ev
  cases ev
  exact post μ σ H Ext.refl R E
theorem nS_never {s : Stmt} : PS X s (rS X T F W .never) := by
  refine ps_imp ps_never fun D σ H h => ?_
  obtain ⟨μ, env, hp, o, hp', R, E, ev, post⟩ := h
  unfold evS at ev
  cases ev
/-! ### while -/
theorem nS_whl {c : Expr} {b : List Stmt} {c' : Ex} {b' : Sts} {pos : Pos} (hp : PassesOwn (model X.prog X.w) X.A X.env X.xe) (hc : PT X c (rB (rE X T F c'))) (hb : PSs X b (rSs X T F W b')) : PS X (.While c b [] pos) (rS X T F W (.whl c' b')) := by
  refine ps_imp (ps_while hp hc hb) fun D σ H h => ?_
  obtain ⟨μ, env, hp, o, hp', R, E, ev, post⟩ := h
  unfold evS at ev
  refine ⟨fun m σ1 H1 => ∃ μ1 env1 hp1, HRx X T μ1 H1 hp1 ∧ ERL X.K μ1 H1 env1 σ1 ∧ whlC (fun e1 g => evE F c' e1 g) (fun e1 g => evSs F W b' e1 g) m env1 hp1 = .ok (o, hp') ∧ PstS X T μ1 H1 hp' o D, ⟨W, μ, env, hp, R, E, ev, post⟩, ?_⟩
  rintro m σ1 H1 ⟨μ1, env1, hp1, R1, E1, ev1, post1⟩
  cases m with
  | zero => unfold whlC at ev1; cases ev1
  | succ m =>
    unfold whlC at ev1
    obtain ⟨v, g, e1, ev1⟩ := thn_some ev1
    split at ev1
    · obtain ⟨o2, g2, e2, ev1⟩ := thn_some ev1
      refine ⟨μ1, env1, hp1, .bl true, g, R1, E1, e1, fun μ2 x2 H2 x R2 r => ⟨true, r.bl_inv, ?_⟩⟩
      try dsimp only
      rw [if_pos rfl]
      refine ⟨fun σ' H' => ∃ μ1 env1 hp1, HRx X T μ1 H' hp1 ∧ ERL X.K μ1 H' env1 σ' ∧ whlC (fun e1 g => evE F c' e1 g) (fun e1 g => evSs F W b' e1 g) m env1 hp1 = .ok (o, hp') ∧ PstS X T μ1 H' hp' o D, fun σ' H' q => ⟨m, Nat.lt_succ_self m, q⟩, μ2, env1, g, o2, g2, R2, E1.ext x, e2, ?_⟩
      cases o2 with
      | next e3 =>
        intro μ3 σ3 H3 y R3 E3
        obtain ⟨μ4, x4, R4, E4⟩ := gcE_ok R1 (x.trans y) R3 E3.1
        exact ⟨μ4, e3, _, R4, ⟨E4, E3.2⟩, ev1, post1.tr x4⟩
      | brk e3 =>
        cases ev1
        exact fun μ3 σ3 H3 y R3 E3 => post1 μ3 σ3 H3 (x.trans y) R3 E3
      | ret v =>
        cases ev1
        exact fun μ3 σ3 H3 y R3 E3 => post1 μ3 σ3 H3 (x.trans y) R3 E3
    · cases ev1
      refine ⟨μ1, env1, hp1, .bl false, g, R1, E1, e1, fun μ2 x2 H2 x R2 r => ⟨false, r.bl_inv, ?_⟩⟩
      try dsimp only
      rw [if_neg Bool.false_ne_true]
      obtain ⟨μ4, x4, R4, E4⟩ := gcE_ok R1 x R2 (E1.ext x).1
      exact post1 μ4 _ H2 x4 R4 ⟨E4, (E1.ext x).2⟩
    · cases ev1
/-! ### for -/
theorem chk_gc {gd : List Nat} {h0 hp h1 : Hv} {e : Env} (c0 : chk gd h0 hp = true) (c1 : chk gd h0 h1 = true) : chk gd h0 (gcE e hp h1) = true := by
  unfold gcE
  split
  · refine List.all_eq_true.mpr fun l hl => ?_
    have a0 := List.all_eq_true.mp c0 l hl
    have a1 := List.all_eq_true.mp c1 l hl
    have hlt : l < hp.length := by
      split at a0
      · rename_i o p e1 e2
        exact (List.getElem?_eq_some_iff.mp e2).1
      · cases a0
    rw [List.getElem?_take, if_pos hlt]
    exact a1
  · exact c1
/-- the turns of a loop -/
theorem for_turns {J : It} {w : Walk} {h1 : Hv} {b' : Sts} {t : Tg} {D : Ends} {o : Out} {hp2 : Hv} (wk : Wk X T μ H J w h1) (R : HRx X T μ H h1) (E : ERL X.K μ H env σ)
    (ev : forC (fun v e1 g => match bind t v e1 with
      | some e2 => evSs F W b' e2 g
      | none => stk) (chk w.gd h1) w.xs env h1 = .ok (o, hp2)) (c0 : chk w.gd h1 h1 = true) (post : PstS X T μ H hp2 o D) :
    ∃ W' : Nat → Nat → L2.St → Hp → Prop, (∃ m, W' 0 m σ H) ∧ ∀ i m σ H, W' i m σ H →
      (J.stop i H ∧ D.nx σ H) ∨ (J.go i H ∧ ∃ N : L2.St → Hp → Prop, (∀ σ' H', N σ' H' → ∃ m', m' < m ∧ W' (i + 1) m' σ' H') ∧ ∀ x H', J.yld i H x H' → rT X T t x σ H' fun σ2 H2 => rSs X T F W b' { D with nx := N, ct := N, bk := D.nx } σ2 H2) := by
  refine ⟨fun i m σ1 H1 => m = w.xs.length - i ∧ i ≤ w.xs.length ∧ ∃ μ1 env1 hp1, Ext μ H μ1 H1 ∧ HRx X T μ1 H1 hp1 ∧ ERL X.K μ1 H1 env1 σ1 ∧ chk w.gd h1 hp1 = true ∧ forC (fun v e1 g => match bind t v e1 with
      | some e2 => evSs F W b' e2 g
      | none => stk) (chk w.gd h1) (w.xs.drop i) env1 hp1 = .ok (o, hp2), ⟨w.xs.length, rfl, Nat.zero_le _, μ, env, h1, Ext.refl, R, E, c0, ev⟩, ?_⟩
  rintro i m σ1 H1 ⟨rfl, hi, μ1, env1, hp1, x1, R1, E1, c1, ev1⟩
  by_cases hlt : i < w.xs.length
  · rw [List.drop_eq_getElem_cons hlt] at ev1
    unfold forC at ev1
    obtain ⟨o1, g1, e1, ev1⟩ := thn_some ev1
    obtain ⟨jg, jy⟩ := wk.go i _ μ1 H1 hp1 x1 R1 c1 (List.getElem?_eq_getElem hlt)
    refine .inr ⟨jg, fun σ' H' => i + 1 ≤ w.xs.length ∧ ∃ μ1 env1 hp1, Ext μ H μ1 H' ∧ HRx X T μ1 H' hp1 ∧ ERL X.K μ1 H' env1 σ' ∧ chk w.gd h1 hp1 = true ∧ forC (fun v e1 g => match bind t v e1 with
      | some e2 => evSs F W b' e2 g
      | none => stk) (chk w.gd h1) (w.xs.drop (i + 1)) env1 hp1 = .ok (o, hp2), fun σ' H' q => ⟨w.xs.length - (i + 1), by omega, rfl, q⟩, fun x H' y => ?_⟩
    obtain ⟨μ2, x2, R2, r2⟩ := jy x H' y
    split at e1
    · rename_i e2 eb
      refine ⟨μ2, hp1, env1, _, e2, R2, E1.ext x2, r2, eb, fun σ2 E2 _ => ⟨μ2, e2, hp1, o1, g1, R2, E2, e1, ?_⟩⟩
      cases o1 with
      | next e3 =>
        intro μ3 σ3 H3 x3 R3 E3
        dsimp only at ev1
        split at ev1
        · rename_i c3
          obtain ⟨μ4, x4, R4, E4⟩ := gcE_ok R2 x3 R3 E3.1
          exact ⟨hlt, μ4, e3, _, x1.trans (x2.trans x4), R4, ⟨E4, E3.2⟩, chk_gc c1 c3, ev1⟩
        · cases ev1
      | brk e3 =>
        cases ev1
        exact fun μ3 σ3 H3 x3 R3 E3 => post μ3 σ3 H3 (x1.trans (x2.trans x3)) R3 E3
      | ret v =>
        cases ev1
        exact fun μ3 σ3 H3 x3 R3 E3 => post μ3 σ3 H3 (x1.trans (x2.trans x3)) R3 E3
    · cases e1
  · have e : i = w.xs.length := by omega
    subst e
    rw [List.drop_length] at ev1
    unfold forC at ev1
    cases ev1
    exact .inl ⟨wk.stop _ μ1 H1 hp2 x1 R1 c1 (Nat.le_refl _), post μ1 σ1 H1 x1 R1 E1⟩
theorem nS_for {tg iter : Expr} {b : List Stmt} {t : Tg} {s : Src} {b' : Sts} {pos : Pos} (hp : PassesOwn (model X.prog X.w) X.A X.env X.xe) (hc : X.calm = true) (hi : PI X tg iter (rSrc X T F s)) (hg : PG X tg (rT X T t)) (hb : PSs X b (rSs X T F W b')) (hs : ∀ x, foldedSetIterable iter X.env x = pure x)
    (nk : ∀ env hp w hp', evSrc F s env hp = .ok (w, hp') → w.lk = none ∧ chk w.gd hp' hp' = true) : PS X (.For tg iter b [] pos) (rS X T F W (.loop t s b')) := by
  refine ps_imp (ps_for hp hc hi hg hb hs) fun D σ H h => ?_
  obtain ⟨μ, env, hp, o, hp', R, E, ev, post⟩ := h
  unfold evS at ev
  obtain ⟨w, h1, e1, ev⟩ := thn_some ev
  obtain ⟨o1, h2, e2, ev⟩ := thn_some ev
  obtain ⟨lk, c0⟩ := nk _ _ _ _ e1
  unfold unlk at ev
  rw [lk] at ev
  cases ev
  exact ⟨μ, env, hp, w, h1, R, E, e1, lk, fun μ1 J H1 x1 R1 wk => for_turns wk R1 (E.ext x1) e2 c0 (post.tr x1)⟩
end
end PL
set_option autoImplicit false
set_option linter.all false
set_option maxRecDepth 20000
set_option maxHeartbeats 1000000
/-! PlSnd4: comprehensions; locked dicts. -/
namespace PL
open PySem PySem.Spec PyProof.Rows L2
section
variable {X : Cx} {T : List (Addr × Str)} {F : Fun} {W : Nat} {μ μ' : List Addr} {H H' : Hp} {hp hp' hp0 : Hv} {env : Env} {σ σ' : L2.St}
theorem wipeE_eq (e : Env) : ∀ vs : List Nat, (wipeE e vs).length = e.length
  | [] => rfl
  | v :: vs => by unfold wipeE; rw [List.length_set, wipeE_eq e vs]
theorem wipe_same {K : PySem.W.Frag} (h : ERL K μ H env σ) : ∀ vs : List Nat, ERL K μ H (wipeE env vs) (wipe σ vs)
  | [] => h
  | v :: vs => by
    have ih := wipe_same h vs
    refine ⟨fun j u e => ?_, by unfold wipeE wipe; rw [List.length_set, List.length_set]; exact ih.2⟩
    unfold wipeE at e
    by_cases hj : v = j
    · subst hj
      have hl : v < (wipeE env vs).length := by have := (List.getElem?_eq_some_iff.mp e).1; rwa [List.length_set] at this
      rw [List.getElem?_set_self hl] at e
      cases e
    · rw [List.getElem?_set_ne hj] at e
      obtain ⟨y, h1, h2⟩ := ih.1 j u e
      exact ⟨y, by unfold wipe; rw [List.getElem?_set_ne hj]; exact h1, h2⟩
theorem wipe_wipe1 {i : Nat} : ∀ vs us : List Nat, i ∈ us → (wipe σ us).set i none = wipe σ us
  | vs, u :: us, h => by
    show ((wipe σ us).set u none).set i none = (wipe σ us).set u none
    by_cases e : u = i
    · subst e; rw [List.set_set]
    · rw [List.set_comm _ _ e, wipe_wipe1 vs us (List.mem_of_ne_of_mem (Ne.symm e) h)]
theorem wipe_sub {us : List Nat} : ∀ {vs : List Nat}, (∀ i ∈ vs, i ∈ us) → wipe (wipe σ us) vs = wipe σ us
  | [], _ => rfl
  | v :: vs, h => by
    show (wipe (wipe σ us) vs).set v none = wipe σ us
    rw [wipe_sub fun i hi => h i (List.mem_cons_of_mem _ hi)]
    exact wipe_wipe1 [] us (h v List.mem_cons_self)
theorem wipe_wipe {us : List Nat} : wipe (wipe σ us) us = wipe σ us := wipe_sub fun _ h => h
theorem VRs.all {K : PySem.W.Frag} (f : ∀ {x : V} {v : PV}, VR K μ H x v → VR K μ' H' x v) : ∀ {xs : List V} {vs : List PV}, VRs K μ H xs vs → VRs K μ' H' xs vs
  | _, _, .nil => .nil
  | _, _, .cons a r => .cons (f a) (VRs.all f r)
/-- the growing list of a comprehension is written: it is none of the tracked ones -/
theorem HR.side {P : Program} {w : World} {K : PySem.W.Frag} {D : Addr} {xs ys : List V} (R : HR P w K μ H T hp) (hD : H D = some (.lst xs)) (hn : D ∉ μ) : HR P w K μ (L2.upd H D (.lst ys)) T hp ∧ ∀ {x : V} {v : PV}, VR K μ H x v → VR K μ (L2.upd H D (.lst ys)) x v := by
  have E : Ext (μ ++ [D]) H (μ ++ [D]) (L2.upd H D (.lst ys)) := Ext.write (by simp) hD ⟨(fun _ e => nomatch e), (fun _ _ e => nomatch e), (fun _ e => nomatch e), (fun _ e => nomatch e)⟩
  have vr : ∀ {x : V} {v : PV}, VR K μ H x v → VR K μ (L2.upd H D (.lst ys)) x v := fun r => (VR.ext E (VR.app r)).shrink r.low
  refine ⟨⟨fun l o e => ?_, R.nd, R.len, fun p hp => ?_⟩, vr⟩
  · obtain ⟨a, h1, h2⟩ := R.obj l o e
    refine ⟨a, h1, ?_⟩
    have na : a ≠ D := fun z => hn (z ▸ List.mem_of_getElem? h1)
    have := (h2.app (ν := [D])).keep E (fun u hu => by rw [upd_ne na]; exact hu)
    exact this.shrink h2.low
  · obtain ⟨ps, t1, t2, t3⟩ := R.tab p hp
    refine ⟨ps, by rw [upd_ne (fun z => by rw [z, hD] at t1; cases t1)]; exact t1, t2, fun pos cv hc => ?_⟩
    obtain ⟨c, c1, c2⟩ := t3 pos cv hc
    exact ⟨c, c1, by rw [upd_ne (fun z => by rw [z, hD] at c2; cases c2)]; exact c2⟩
theorem Ext.side {D : Addr} {o : HO} (e : Ext μ H μ' H') (hD : H D = none) : Ext μ H μ' (L2.upd H' D o) := by
  refine ⟨e.pre, fun b xs h => ?_, fun b u v h => ?_, fun b u h n t => ?_, fun b u h => ?_⟩
  · rw [upd_ne (ne_of_none h hD)]; exact e.tup b xs h
  · rw [upd_ne (ne_of_none h hD)]; exact e.frz b u v h
  · rw [upd_ne (ne_of_none h hD)]; exact e.all b u h n t
  · rw [upd_ne (ne_of_none h hD)]; exact e.there b u h
theorem mapC_len {f : PV → Hv → R (Option PV)} {ok : Hv → Bool} : ∀ {xs : List PV} {h : Hv} {ys : List PV} {h' : Hv}, mapC f ok xs h = .ok (ys, h') → ys.length ≤ xs.length
  | [], h, ys, h', e => by unfold mapC at e; cases e; exact Nat.le_refl _
  | x :: xs, h, ys, h', e => by
    unfold mapC at e
    obtain ⟨o, g, e1, e⟩ := thn_some e
    cases o with
    | none =>
      dsimp only at e
      split at e
      · exact Nat.le_succ_of_le (mapC_len e)
      · cases e
    | some y =>
      dsimp only at e
      split at e
      · obtain ⟨zs, g2, e2, e⟩ := thn_some e
        cases e
        exact Nat.succ_le_succ (mapC_len e2)
      · cases e
/-- the turns of a comprehension -/
theorem lc_turns {J : It} {w : Walk} {h1 hpF : Hv} {t : Tg} {c : OEx} {el : Ex} {own : List Nat} {ys : List PV} {Q : VK} {D : Addr} (wk : Wk X T μ H J w h1) (R : HRx X T μ H h1) (E : ERL X.K μ H env σ)
    (ho : ∀ i ∈ slots t, i ∈ own)
    (ev : mapC (fun v g => match bind t v (wipeE env own) with
        | some e1 => PL.thn (evC F c e1 g) fun b g1 => match b with
          | true => PL.thn (evE F el e1 g1) fun y g2 => .ok (some y, g2)
          | false => .ok (none, g1)
        | none => stk) (chk w.gd h1) w.xs h1 = .ok (ys, hpF)) (c0 : chk w.gd h1 h1 = true) (hl : ys.length ≤ line) (hD : H D = none)
    (post : ∀ μ' H' xs, Ext μ H μ' H' → HRx X T μ' H' hpF → D ∉ μ' → H' D = some (.lst xs) → VRs X.K μ' H' xs ys → Q (.ref D) H') :
    ∃ W' : Nat → Nat → Hp → Prop, (∃ m, W' 0 m (L2.upd H D (.lst []))) ∧ ∀ i m H, W' i m H →
      (J.stop i H ∧ Q (.ref D) H) ∨ (J.go i H ∧ ∃ Nx : Hp → Prop, (∀ H', Nx H' → ∃ m', m' < m ∧ W' (i + 1) m' H') ∧ ∀ x H', J.yld i H x H' → rT X T t x (wipe σ own) H' fun σ2 H2 => wipe σ2 own = wipe σ own ∧ rC X T F c σ2 H2 fun b H3 =>
        if b = true then rE X T F el σ2 H3 fun y H4 => ∃ acc, H4 D = some (.lst acc) ∧ acc.length < sizeLine ∧ Nx (L2.upd H4 D (.lst (acc ++ [y]))) else Nx H3) := by
  have nD : D ∉ μ := R.nmem hD
  let Inv' : Nat → Hp → Prop := fun i H1 => i ≤ w.xs.length ∧ ∃ μ1 hp1 acc done todo, Ext μ H μ1 H1 ∧ HRx X T μ1 H1 hp1 ∧ D ∉ μ1 ∧ H1 D = some (.lst acc) ∧ VRs X.K μ1 H1 acc done ∧ ys = done ++ todo ∧ chk w.gd h1 hp1 = true ∧
    mapC (fun v g => match bind t v (wipeE env own) with
        | some e1 => PL.thn (evC F c e1 g) fun b g1 => match b with
          | true => PL.thn (evE F el e1 g1) fun y g2 => .ok (some y, g2)
          | false => .ok (none, g1)
        | none => stk) (chk w.gd h1) (w.xs.drop i) hp1 = .ok (todo, hpF)
  have exD : Ext μ H μ (L2.upd H D (.lst [])) := Ext.fresh hD
  refine ⟨fun i m H1 => m = w.xs.length - i ∧ Inv' i H1, ⟨w.xs.length, rfl, Nat.zero_le _, μ, h1, [], [], ys, exD, R.fresh hD, nD, upd_same, .nil, rfl, c0, ev⟩, ?_⟩
  rintro i m H1 ⟨rfl, hi, μ1, hp1, acc, dn, todo, x1, R1, nD1, hD1, racc, eys, c1, ev1⟩
  by_cases hlt : i < w.xs.length
  · rw [List.drop_eq_getElem_cons hlt] at ev1
    unfold mapC at ev1
    obtain ⟨o1, g1, e1, ev1⟩ := thn_some ev1
    obtain ⟨jg, jy⟩ := wk.go i _ μ1 H1 hp1 x1 R1 c1 (List.getElem?_eq_getElem hlt)
    refine .inr ⟨jg, Inv' (i + 1), fun H' q => ⟨w.xs.length - (i + 1), by omega, rfl, q⟩, fun x H2 y => ?_⟩
    obtain ⟨μ2, x2, R2, r2⟩ := jy x H2 y
    split at e1
    · rename_i e2 eb
      have E1 : ERL X.K μ1 H1 env σ := E.ext x1
      refine ⟨μ2, hp1, wipeE env own, _, e2, R2, (wipe_same E1 own).ext x2, r2, eb, fun σ2 E2 wq => ⟨by rw [wq own ho, wipe_wipe], ?_⟩⟩
      obtain ⟨b, g2, e3, e1⟩ := thn_some e1
      -- what stays of the new list
      have kD : ∀ {μ3 : List Addr} {H3 : Hp}, Ext μ1 H1 μ3 H3 → H3 D = some (.lst acc) ∧ D ∉ μ3 := fun {μ3 H3} z => by
        refine ⟨z.all D _ hD1 nD1 (fun _ q => nomatch q), fun q => ?_⟩
        obtain ⟨ν, rfl, hν⟩ := z.pre
        rcases List.mem_append.mp q with q | q
        · exact nD1 q
        · rw [hν D q] at hD1; cases hD1
      refine ⟨μ2, e2, hp1, b, g2, R2, E2, e3, fun μ3 H3 x3 R3 => ?_⟩
      cases b with
      | false =>
        cases e1
        rw [if_neg Bool.false_ne_true]
        dsimp only at ev1
        split at ev1
        · rename_i c3
          obtain ⟨μ4, x4, R4, _⟩ := gcE_ok (env := []) (σ := []) R2 x3 R3 (fun i v h => by simp at h)
          obtain ⟨kd, kn⟩ := kD (x2.trans x4)
          exact ⟨hlt, μ4, _, acc, dn, todo, x1.trans (x2.trans x4), R4, kn, kd, racc.ext (x2.trans x4), eys, c3, ev1⟩
        · cases ev1
      | true =>
        obtain ⟨v, g3, e4, e1⟩ := thn_some e1
        cases e1
        rw [if_pos rfl]
        refine ⟨μ3, e2, g2, v, g1, R3, E2.ext x3, e4, fun μ4 yv H4 x4 R4 r4 => ?_⟩
        dsimp only at ev1
        split at ev1
        · rename_i c3
          obtain ⟨zs, g5, e5, ev1⟩ := thn_some ev1
          cases ev1
          obtain ⟨μ5, x5, R5, r5⟩ := gcR_ok R2 (x3.trans x4) R4 r4
          obtain ⟨kd, kn⟩ := kD (x2.trans x5)
          have hacc : acc.length + 1 ≤ ys.length := by
            rw [racc.len, eys, List.length_append]
            simp only [List.length_cons]
            omega
          obtain ⟨R6, vr⟩ := R5.side (ys := acc ++ [yv]) kd kn
          refine ⟨acc, kd, by rw [← line_eq]; omega, hlt, μ5, _, acc ++ [yv], dn ++ [(gcR v hp1 g1).1], zs, (x1.trans (x2.trans x5)).side hD, R6, kn, upd_same, ?_, by rw [eys]; simp, c3, e5⟩
          exact (VRs.all vr (racc.ext (x2.trans x5))).snoc (vr r5)
        · cases ev1
    · cases e1
  · have e : i = w.xs.length := by omega
    subst e
    rw [List.drop_length] at ev1
    unfold mapC at ev1
    cases ev1
    rw [List.append_nil] at eys
    subst eys
    exact .inl ⟨wk.stop _ μ1 H1 hpF x1 R1 c1 (Nat.le_refl _), post μ1 H1 acc x1 R1 nD1 hD1 racc⟩
/-- the new list comes under the tracked ones -/
theorem HR.adopt {P : Program} {w : World} {K : PySem.W.Frag} {D : Addr} {xs : List V} {vs : List PV} (R : HR P w K μ H T hp) (hD : H D = some (.lst xs)) (hn : D ∉ μ) (r : VRs K μ H xs vs) : HR P w K (μ ++ [D]) H T (hp ++ [.lst vs]) := by
  refine ⟨fun l o e => ?_, ?_, by simp [R.len], R.tab⟩
  · by_cases hl : l < hp.length
    · rw [List.getElem?_append_left hl] at e
      obtain ⟨a, h1, h2⟩ := R.obj l o e
      exact ⟨a, by rw [List.getElem?_append_left (List.getElem?_eq_some_iff.mp h1).1]; exact h1, h2.app⟩
    · have hl' := (List.getElem?_eq_some_iff.mp e).1
      have : l = hp.length := by simp at hl'; omega
      subst this
      rw [List.getElem?_append_right (Nat.le_refl _)] at e
      simp at e
      subst e
      exact ⟨D, by rw [← R.len]; simp, xs, hD, VRs.app r⟩
  · rw [List.nodup_append]
    refine ⟨R.nd, by simp, fun a ha b hb => ?_⟩
    rw [List.mem_singleton.mp hb]
    exact fun z => hn (z ▸ ha)
theorem Ext.adopt {D : Addr} (e : Ext μ H μ' H') (hD : H D = none) : Ext μ H (μ' ++ [D]) H' := by
  obtain ⟨ν, rfl, h⟩ := e.pre
  refine ⟨⟨ν ++ [D], by simp, fun a ha => ?_⟩, e.tup, e.frz, e.all, e.there⟩
  rcases List.mem_append.mp ha with q | q
  · exact h a q
  · rw [List.mem_singleton.mp q]; exact hD
theorem comp_imp {s : Src} {t : Tg} {c : OEx} {el : Ex} {own : List Nat} (ho : ∀ i ∈ slots t, i ∈ own) (nk : ∀ env hp w hp', evSrc F s env hp = .ok (w, hp') → w.lk = none ∧ chk w.gd hp' hp' = true) :
    ∀ σ H Q, rE X T F (.comp own t s c el) σ H Q → tLc (rSrc X T F s) (rT X T t) (rC X T F c) (rE X T F el) own σ H Q := by
  intro σ H Q h
  obtain ⟨μ, env, hp, v, hp', R, E, ev, post⟩ := h
  unfold evE at ev
  obtain ⟨w, h1, e1, ev⟩ := thn_some ev
  obtain ⟨ys, h2, e2, ev⟩ := thn_some ev
  obtain ⟨lk, c0⟩ := nk _ _ _ _ e1
  unfold unlk at ev
  rw [lk] at ev
  dsimp only at ev
  split at ev
  · rename_i hl
    cases ev
    refine ⟨μ, env, hp, w, h1, R, E, e1, lk, fun μ1 J H1 x1 R1 wk D hD => lc_turns wk R1 (E.ext x1) ho e2 c0 hl hD fun μ2 H2 xs x2 R2 n2 d2 r2 => ?_⟩
    have R3 := R2.adopt d2 n2 r2
    exact post _ _ H2 (x1.trans (x2.adopt hD)) R3 (.ref (by rw [← R2.len]; simp))
  · cases ev
theorem nE_comp {elt tg iter : Expr} {ifs : List Expr} {scope : Scope} {own : List (Str × Nat)} {pos : Pos} {s : Src} {t : Tg} {c : OEx} {el : Ex} (hc : X.calm = true) (hN : X.N.Nodup) (hi : PI X tg iter (rSrc X T F s)) (ok : BlkOk X.N X.env.scope scope own)
    (hg : ∀ (s : Shared) (H : Hp) (C : Addr) (cl : List (Str × Addr)) (fp : List Addr), PG (X.blk s H scope (compEnvC scope cl C X.env) fp) tg (rT X T t)) (ht : ∀ (s : Shared) (H : Hp) (C : Addr) (cl : List (Str × Addr)) (fp : List Addr), PTs (X.blk s H scope (compEnvC scope cl C X.env) fp) ifs (rC X T F c))
    (he : ∀ (s : Shared) (H : Hp) (C : Addr) (cl : List (Str × Addr)) (fp : List Addr), PE (X.blk s H scope (compEnvC scope cl C X.env) fp) elt (rE X T F el)) (hs : ∀ x, foldedSetIterable iter X.env x = pure x)
    (ho : ∀ i ∈ slots t, i ∈ own.map (·.2)) (nk : ∀ env hp w hp', evSrc F s env hp = .ok (w, hp') → w.lk = none ∧ chk w.gd hp' hp' = true) :
    PE X (.ListComp elt [⟨tg, iter, ifs, 0⟩] scope pos) (rE X T F (.comp (own.map (·.2)) t s c el)) :=
  pe_imp (pe_lc hc hN hi ok hg ht he hs) (comp_imp ho nk)
theorem nS_setComp {i : Nat} {y : Str} {py : Pos} {elt tg iter : Expr} {ifs : List Expr} {scope : Scope} {own : List (Str × Nat)} {pos spos : Pos} {s : Src} {t : Tg} {c : OEx} {el : Ex} (hc : X.calm = true) (hN : X.N.Nodup) (hy : X.N[i]? = some y) (hyl : X.env.scope.names.lookup y = some .local)
    (hsw : swapsWith (.ListComp elt [⟨tg, iter, ifs, 0⟩] scope pos) (some (.Name y py)) spos.line X.env = pure true) (hi : PI X tg iter (rSrc X T F s)) (ok : BlkOk X.N X.env.scope scope own)
    (hg : ∀ (s : Shared) (H : Hp) (C : Addr) (cl : List (Str × Addr)) (fp : List Addr), PG (X.blk s H scope (compEnvC scope cl C X.env) fp) tg (rT X T t)) (ht : ∀ (s : Shared) (H : Hp) (C : Addr) (cl : List (Str × Addr)) (fp : List Addr), PTs (X.blk s H scope (compEnvC scope cl C X.env) fp) ifs (rC X T F c))
    (he : ∀ (s : Shared) (H : Hp) (C : Addr) (cl : List (Str × Addr)) (fp : List Addr), PE (X.blk s H scope (compEnvC scope cl C X.env) fp) elt (rE X T F el)) (hs : ∀ x, foldedSetIterable iter X.env x = pure x)
    (ho : ∀ i ∈ slots t, i ∈ own.map (·.2)) (nk : ∀ env hp w hp', evSrc F s env hp = .ok (w, hp') → w.lk = none ∧ chk w.gd hp' hp' = true) :
    PS X (.Assign [.Name y py] (.ListComp elt [⟨tg, iter, ifs, 0⟩] scope pos) spos) (rS X T F W (.set i (.comp (own.map (·.2)) t s c el))) := by
  refine ps_imp (ps_setLc hc hN hy hyl hsw hi ok hg ht he hs) fun D σ H h => ?_
  obtain ⟨μ, env, hp, o, hp', R, E, ev, post⟩ := h
  unfold evS at ev
  obtain ⟨v, g, e1, ev⟩ := thn_some ev
  cases ev
  exact comp_imp ho nk σ H _ ⟨μ, env, hp, v, hp', R, E, e1, fun μ1 x1 H1 x R1 r => post μ1 _ H1 x R1 ((E.ext x).set r)⟩
end
end PL
set_option autoImplicit false
set_option linter.all false
set_option maxRecDepth 20000
set_option maxHeartbeats 1000000
/-! PlSnd5: the keys of a dict, locked meanwhile. -/
namespace PL
open PySem PySem.Spec PyProof.Rows L2
section
variable {X : Cx} {T : List (Addr × Str)} {F : Fun} {W : Nat} {μ μ' : List Addr} {H H' : Hp} {hp hp' hp0 : Hv} {env : Env} {σ σ' : L2.St}
/-- the keys of the locked dict, whatever its form -/
def ItkT (P : Program) (w : World) (d : Addr) (o : Obj) (raw : RawT) : It :=
  ⟨fun i H => H d = some (.frz o (DictT P w d raw)) ∧ i < raw.length, fun i H x H' => H' = H ∧ ∃ e, raw[i]? = some e ∧ x = .ref e.2.1, fun i H => H d = some (.frz o (DictT P w d raw)) ∧ raw.length ≤ i⟩
theorem frzD {pins : List (Addr × Obj)} {s : Shared} {d : Addr} {o : Obj} {raw : RawT} (I : Inv X pins σ H s) (h : H d = some (.frz o (DictT X.prog X.w d raw))) :
    (d == sysModules) = false ∧ s.heap.get? d = some o ∧ o.ExactDict ∧ ∃ (es : Array DictEntry) (ep : Nat), o.data = .dict es ep ∧ es.toList = raw.map (entryOfKey (nestedKind X.prog X.w)) := by
  obtain ⟨hd, x⟩ : s.heap.get? d = some o ∧ ObjOk X.prog X.w H s.heap d (DictT X.prog X.w d raw) := I.hok d _ h
  obtain ⟨h1, o', es, ep, h2, h3, h4, h5, _⟩ := dictT_obj x
  rw [hd] at h2
  cases h2
  exact ⟨h1, hd, h3, es, ep, h4, h5⟩
theorem turn_keysD {P : Program} {w : World} {K : PySem.W.Frag} {tg : Expr} {d : Addr} {o : Obj} {es : Array DictEntry} {ep : Nat} {raw : RawT} (it : Addr) (hod : o.data = .dict es ep) : Turn P w K tg (ItkT P w d o raw) [it] it (fun i h => h.IsKeyIter it d i raw.length ep) where
  mem := by simp
  obj := fun i h st b hb => by
    have e : b = it := by simpa using hb
    subst e
    obtain ⟨oi, e, c, dd⟩ := st
    exact ⟨oi, e, fun v z => by rw [dd] at z; cases z⟩
  keep := fun i h h' st k => st.at fun oi e => k it (by simp) oi e
  item := by
    intro X hP hw hK hc i pins s σ H E I hf st hg
    subst hP hw hK
    obtain ⟨hd, hi⟩ := hg
    obtain ⟨f0, f1, f2, f3, f4, f5⟩ := hf it (by simp)
    obtain ⟨hs, hgd, hx, es', ep', hdt, hent⟩ := frzD I hd
    obtain ⟨rfl, rfl⟩ := dict_ep hod hdt
    obtain ⟨e, he⟩ : ∃ e, raw[i]? = some e := ⟨_, List.getElem?_eq_getElem hi⟩
    have hsz : es'.size = raw.length := by rw [← Array.length_toList, hent, List.length_map]
    have hen : es'[i]? = some (entryOfKey (nestedKind X.prog X.w) e) := by
      rw [← Array.getElem?_toList, hent, List.getElem?_map, he]; rfl
    refine next_key_item st hgd hdt hsz hen fun h' st' sb => ?_
    have I1 : Inv X pins σ H { s with heap := h' } := I.turned (t' := s.toks) (fun b ob hb e => (sb.2 b hb).trans e) f0 f1 f3 f4 f5
    obtain ⟨oi, e', c, dd⟩ := id st'
    exact ⟨.ref e.2.1, rfl, go_of (s := { s with heap := h' }) e' c dd (by decide) ⟨.ref e.2.1, H, I1, rfl, ⟨rfl, e, he, rfl⟩, st', fun b hb => (hf b hb).1⟩⟩
  done := by
    intro X hP hw hK hc i pins s σ H E I hf st hg
    subst hP hw hK
    obtain ⟨hd, hi⟩ := hg
    obtain ⟨f0, f1, f2, f3, f4, f5⟩ := hf it (by simp)
    obtain ⟨hs, hgd, hx, es', ep', hdt, hent⟩ := frzD I hd
    obtain ⟨rfl, rfl⟩ := dict_ep hod hdt
    have hsz : es'.size = raw.length := by rw [← Array.length_toList, hent, List.length_map]
    exact next_key_end (I.ok.hd hc) st hgd hdt hsz hi fun h' eb => ⟨rfl, I.turned (t' := s.toks) (fun b ob hb e => eb b ob hb e) f0 f1 f3 f4 f5⟩
  self := fun A i s Q E st h => by
    refine wpAny_pyIter_slot st.typeIs F.slot_dict_keyiterator_iter (wpAny_call_entry F.slot_dict_keyiterator_iter st.typeIs F.entry_dict_keyiterator_iter ?_ (F.args_dict_keyiterator_iter_1 _))
    show wpAny _ _ (ret (.ref it)) _ _ s
    exact wpAny_pure ⟨_, rfl, "dict_keyiterator", _, st.typeIs, F.slot_dict_keyiterator_next.lookup, h⟩
def iKeysD (P : Program) (w : World) (td : TE) : TI := fun σ H R => td σ H fun x H1 => ∃ d o, x = .ref d ∧ ((∃ kvs, H1 d = some (.frz o (.dK kvs)) ∧ R (Itk d o kvs) H1) ∨ ∃ raw, H1 d = some (.frz o (DictT P w d raw)) ∧ R (ItkT P w d o raw) H1)
theorem pi_keysD {tg e : Expr} {td : TE} (he : PE X e td) : PI X tg e (iKeysD X.prog X.w td) := by
  refine ⟨fun pins s σ H R I h => ?_⟩
  refine L2.thn (he.run pins s σ H _ I h) fun u s1 ⟨x, H1, I1, rx, d, o, ex, q⟩ => ?_
  subst ex
  obtain rfl : u = Value.ref d := rx
  rcases q with ⟨kvs, hd, q⟩ | ⟨kvs, hd, q⟩
  · obtain ⟨hs, hgd, hx, es, ep, vs, hdt, hsz, kv, hm⟩ := I1.frzK hd
    refine iter_keys hs hgd hx hdt (pi_one (tk := s1.toks) I1 _ (turn_keys _ hdt) ⟨_, Heap.get?_push_size _ rfl, rfl, ?_⟩ q)
    rw [hsz] <;> rfl
  · obtain ⟨hs, hgd, hx, es, ep, hdt, hent⟩ := frzD I1 hd
    have hsz : es.size = kvs.length := by rw [← Array.length_toList, hent, List.length_map]
    refine iter_keys hs hgd hx hdt (pi_one (tk := s1.toks) I1 _ (turn_keysD _ hdt) ⟨_, Heap.get?_push_size _ rfl, rfl, ?_⟩ q)
    rw [hsz] <;> rfl
theorem wk_keysK {l : Nat} {d : Addr} {o : Obj} {fs : List (Key × V)} {kvs : List (PV × PV)} {lk} (hd : H d = some (.frz o (.dK fs))) (e : FRs X.K μ H fs kvs) : Wk X T μ H (Itk d o fs) ⟨kvs.map (·.1), [l], lk⟩ hp := by
  have len := e.len
  refine ⟨fun i μ1 H1 hp1 x R c hi => ⟨x.frz _ _ _ hd, by rw [len]; simpa using hi⟩, fun i v μ1 H1 hp1 x R c hv => ?_⟩
  have hv : (kvs.map (·.1))[i]? = some v := hv
  have hi : i < kvs.length := by simpa using (List.getElem?_eq_some_iff.mp hv).1
  refine ⟨⟨x.frz _ _ _ hd, by rw [len]; exact hi⟩, fun z H2 q => ?_⟩
  obtain ⟨rfl, k, w, hk, rfl⟩ := q
  refine ⟨μ1, Ext.refl, R, ?_⟩
  have : ∀ {fs : List (Key × V)} {kvs : List (PV × PV)}, FRs X.K μ H fs kvs → ∀ {i : Nat} {v : PV}, (kvs.map (·.1))[i]? = some v → fs[i]? = some (k, w) → VR X.K μ1 H2 (kV k) v := by
    intro fs kvs e
    induction e with
    | nil => intro i v h; simp at h
    | cons a d _ ih =>
      rename_i k' v' x' r kvs' _
      intro i v h1 h2
      cases i with
      | zero =>
        simp at h1 h2
        obtain ⟨rfl, rfl⟩ := h2
        subst h1
        obtain ⟨a, ok⟩ := a
        cases k' <;> first | (simp [flatK] at a; done) | skip
        · exact .int _
        · exact .str _ (ok _ rfl)
      | succ i => exact ih (by simpa using h1) (by simpa using h2)
  exact this e hv hk
theorem wk_keysT {l : Nat} {d : Addr} {o : Obj} {raw : RawT} {kvs : List (PV × PV)} {lk} (hd : H d = some (.frz o (DictT X.prog X.w d raw))) (e : ERs X.K μ H raw kvs) : Wk X T μ H (ItkT X.prog X.w d o raw) ⟨kvs.map (·.1), [l], lk⟩ hp := by
  have len := e.len
  refine ⟨fun i μ1 H1 hp1 x R c hi => ⟨x.frz _ _ _ hd, by rw [len]; simpa using hi⟩, fun i v μ1 H1 hp1 x R c hv => ?_⟩
  have hv : (kvs.map (·.1))[i]? = some v := hv
  have hi : i < kvs.length := by simpa using (List.getElem?_eq_some_iff.mp hv).1
  refine ⟨⟨x.frz _ _ _ hd, by rw [len]; exact hi⟩, fun z H2 q => ?_⟩
  obtain ⟨rfl, en, hk, rfl⟩ := q
  refine ⟨μ1, Ext.refl, R, ?_⟩
  have : ∀ {raw : RawT} {kvs : List (PV × PV)}, ERs X.K μ H raw kvs → ∀ {i : Nat} {v : PV}, (kvs.map (·.1))[i]? = some v → raw[i]? = some en → VR X.K μ H (.ref en.2.1) v := by
    intro raw kvs e
    induction e with
    | nil => intro i v h; simp at h
    | cons a b c d _ ih =>
      intro i v h1 h2
      cases i with
      | zero =>
        simp at h1 h2
        subst h1 h2
        exact b
      | succ i => exact ih (by simpa using h1) (by simpa using h2)
  exact (this e hv hk).ext x
/-- the locked dict, walked by its name -/
theorem nI_keys {i : Nat} {x : Str} {pos : Pos} {tg : Expr} (hN : X.N[i]? = some x) (hv : Vis X.env.scope x) (hd : (x == ("__debug__" : Str)) = false) (hcd : (x == ("__classdict__" : Str)) = false) : PI X tg (.Name x pos) (rKeys X T i) := by
  refine pi_imp (pi_keysD (pe_var hN hv hd hcd)) fun σ H R h => ?_
  obtain ⟨μ, env, hp, l, kvs, R1, E, ev, hl, post⟩ := h
  obtain ⟨y, h1, h2⟩ := E.1 i _ ev
  obtain ⟨a, rfl, ha⟩ := h2.ref_inv
  obtain ⟨b, g1, od, o, g2, g3⟩ := R1.obj l _ hl
  rw [ha] at g1
  cases g1
  refine ⟨.ref a, h1, a, od, rfl, ?_⟩
  rcases g3 with ⟨raw, rfl, e, _⟩ | ⟨fs, rfl, e⟩
  · exact .inr ⟨raw, g2, post _ (wk_keysT g2 e)⟩
  · exact .inl ⟨fs, g2, post _ (wk_keysK g2 e)⟩
/-- what is under lock: the dict's place, its form -/
theorem lock_at {l : Nat} {kvs : List (PV × PV)} (pins : List (Addr × Obj)) {s : Shared} (I : Inv X pins σ H s) (R : HRx X T μ H hp) (hl : hp[l]? = some (.dct kvs)) : ∃ d u, μ[l]? = some d ∧ H d = some u ∧ Mut (some u) ∧ Wr d u ∧ DR X.prog X.w X.K μ H d u kvs := by
  obtain ⟨d, h1, u, h2, h3⟩ := R.obj l _ hl
  refine ⟨d, u, h1, h2, ?_, ?_, h3⟩
  · rcases h3 with ⟨raw, rfl, _⟩ | ⟨fs, rfl, _⟩
    · exact mut_ext _
    · exact True.intro
  · rcases h3 with ⟨raw, rfl, _⟩ | ⟨fs, rfl, _⟩
    · exact wr_dictT h2 I
    · exact ⟨(fun _ e => nomatch e), (fun _ _ e => nomatch e), (fun _ e => nomatch e), (fun _ e => nomatch e)⟩
theorem locked {l : Nat} {d : Addr} {u : HO} {od : Obj} {kvs : List (PV × PV)} (R : HRx X T μ H hp) (hl : hp[l]? = some (.dct kvs)) (h1 : μ[l]? = some d) (h2 : H d = some u) (w : Wr d u) (h3 : DR X.prog X.w X.K μ H d u kvs) :
    Ext μ H μ (L2.upd H d (.frz od u)) ∧ HRx X T μ (L2.upd H d (.frz od u)) (PL.upd hp l (.lkd kvs)) :=
  R.write (q' := .lkd kvs) hl h1 h2 w fun E0 => ⟨od, u, upd_same, h3.ext E0⟩
/-- the dict is free again -/
theorem unlocked {l : Nat} {d : Addr} {u : HO} {od : Obj} {kvs : List (PV × PV)} (h2 : H d = some u) (h1 : μ[l]? = some d) (w : Wr d u) (x : Ext μ (L2.upd H d (.frz od u)) μ' H') (R : HRx X T μ' H' hp') (hl : hp'[l]? = some (.lkd kvs)) :
    H' d = some (.frz od u) ∧ Ext μ H μ' (L2.upd H' d u) ∧ HRx X T μ' (L2.upd H' d u) (PL.upd hp' l (.dct kvs)) ∧ ∀ {y : V} {v : PV}, VR X.K μ' H' y v → VR X.K μ' (L2.upd H' d u) y v := by
  have hd : H' d = some (.frz od u) := x.frz d od u upd_same
  have dm : d ∈ μ := List.mem_of_getElem? h1
  have hd' : μ'[l]? = some d := x.get h1
  obtain ⟨w1, w2, w3, w4⟩ := w
  -- what is under the lock reads as before
  have rd : ∀ {a : Addr} {xs : List V}, SqT X.K H' a xs → SqT X.K (L2.upd H' d u) a xs := fun {a xs} h => by
    rcases h with (h | ⟨o', h⟩) | h
    · exact .inl (.inl (by rw [upd_ne (fun z => by rw [z, hd] at h; cases h)]; exact h))
    · refine .inl (.inr ⟨o', ?_⟩)
      rw [upd_ne (fun z => by rw [z, hd] at h; cases h; exact w1 _ rfl)]; exact h
    · exact .inr h
  have rl : ∀ {a : Addr} {xs : List V}, RL X.K H' a xs → (∀ ys, u ≠ .lst ys) → RL X.K (L2.upd H' d u) a xs := fun {a xs} h nl => by
    rcases h with ⟨o', h⟩ | h
    · exact .inl ⟨o', by rw [upd_ne (fun z => by rw [z, hd] at h; cases h; exact nl _ rfl)]; exact h⟩
    · exact .inr h
  have nl : ∀ ys, u ≠ .lst ys := fun ys z => by
    obtain ⟨a, g1, od', o', g2, g3⟩ := R.obj l _ hl
    rw [hd'] at g1
    cases g1
    rw [hd] at g2
    cases g2
    subst z
    rcases g3 with ⟨raw, e, _⟩ | ⟨fs, e, _⟩
    · exact nomatch e
    · exact nomatch e
  have vr : ∀ {y : V} {v : PV}, VR X.K μ' H' y v → VR X.K μ' (L2.upd H' d u) y v := by
    intro y v r
    induction r using VR.rec (motive_2 := fun xs vs _ => VRs X.K μ' (L2.upd H' d u) xs vs) with
    | non => exact .non
    | bl b => exact .bl b
    | int i => exact .int i
    | str x h => exact .str x h
    | tup h _ ih => exact .tup (rd h) ih
    | ref h => exact .ref h
    | fl h _ ih => exact .fl (rl h nl) ih
    | nil => exact .nil
    | cons _ _ ih1 ih2 => exact .cons ih1 ih2
  have dr : ∀ {a : Addr} {o : HO} {k : List (PV × PV)}, DR X.prog X.w X.K μ' H' a o k → DR X.prog X.w X.K μ' (L2.upd H' d u) a o k := by
    intro a o k h
    have e1 : ∀ {r : RawT} {kvs : List (PV × PV)}, ERs X.K μ' H' r kvs → ERs X.K μ' (L2.upd H' d u) r kvs := by
      intro r kvs h
      induction h with
      | nil => exact .nil
      | cons a b c d _ ih => exact .cons a (vr b) c (vr d) ih
    have e2 : ∀ {r : List (Key × V)} {kvs : List (PV × PV)}, FRs X.K μ' H' r kvs → FRs X.K μ' (L2.upd H' d u) r kvs := by
      intro r kvs h
      induction h with
      | nil => exact .nil
      | cons a d _ ih => exact .cons a (vr d) ih
    rcases h with ⟨raw, e, h, z⟩ | ⟨fs, e, h⟩
    · exact .inl ⟨raw, e, e1 h, z⟩
    · exact .inr ⟨fs, e, e2 h⟩
  refine ⟨hd, ⟨?_, fun b xs h => ?_, fun b o' v h => ?_, fun b o' h n t => ?_, fun b o' h => ?_⟩, ⟨fun j q ej => ?_, R.nd, by simp [PL.upd, R.len], fun p hp => ?_⟩, vr⟩
  · obtain ⟨ν, e, hν⟩ := x.pre
    refine ⟨ν, e, fun a ha => ?_⟩
    have := hν a ha
    by_cases z : a = d
    · rw [z, upd_same] at this; cases this
    · rwa [upd_ne z] at this
  · have z : b ≠ d := fun z => by rw [z, h2] at h; exact w1 xs (Option.some.inj h)
    rw [upd_ne z]
    exact x.tup b xs (by rw [upd_ne z]; exact h)
  · have z : b ≠ d := fun z => by rw [z, h2] at h; exact w2 _ _ (Option.some.inj h)
    rw [upd_ne z]
    exact x.frz b o' v (by rw [upd_ne z]; exact h)
  · have z : b ≠ d := fun z => n (z ▸ dm)
    rw [upd_ne z]
    exact x.all b o' (by rw [upd_ne z]; exact h) n t
  · by_cases z : b = d
    · exact ⟨u, by rw [z, upd_same]⟩
    · rw [upd_ne z]
      exact x.there b o' (by rw [upd_ne z]; exact h)
  · have ej : (hp'.set l (.dct kvs))[j]? = some q := ej
    by_cases hj : l = j
    · subst hj
      rw [List.getElem?_set_self (List.getElem?_eq_some_iff.mp hl).1] at ej
      cases ej
      obtain ⟨a, g1, od', o', g2, g3⟩ := R.obj l _ hl
      rw [hd'] at g1
      cases g1
      rw [hd] at g2
      cases g2
      exact ⟨d, hd', u, upd_same, dr g3⟩
    · rw [List.getElem?_set_ne hj] at ej
      obtain ⟨b, g1, g2⟩ := R.obj j q ej
      have nb : b ≠ d := fun z => by
        subst z
        obtain ⟨i1, k1⟩ := List.getElem?_eq_some_iff.mp g1
        obtain ⟨i2, k2⟩ := List.getElem?_eq_some_iff.mp hd'
        exact hj ((List.getElem_inj R.nd).mp (k2.trans k1.symm))
      refine ⟨b, g1, ?_⟩
      cases q with
      | lst vs =>
        obtain ⟨xs, k1, k2⟩ := g2
        refine ⟨xs, by rw [upd_ne nb]; exact k1, ?_⟩
        exact VRs.all vr k2
      | dct kvs => obtain ⟨o', k1, k2⟩ := g2; exact ⟨o', by rw [upd_ne nb]; exact k1, dr k2⟩
      | lkd kvs => obtain ⟨od', o', k1, k2⟩ := g2; exact ⟨od', o', by rw [upd_ne nb]; exact k1, dr k2⟩
  · obtain ⟨ps, t1, t2, t3⟩ := R.tab p hp
    refine ⟨ps, by rw [upd_ne (fun z => by rw [z, hd] at t1; cases t1)]; exact t1, t2, fun pos cv hc => ?_⟩
    obtain ⟨c, c1, c2⟩ := t3 pos cv hc
    exact ⟨c, c1, by rw [upd_ne (fun z => by rw [z, hd] at c2; cases c2)]; exact c2⟩
end
end PL
set_option autoImplicit false
set_option linter.all false
set_option maxRecDepth 20000
set_option maxHeartbeats 1000000
/-! PlSnd6: walks over a dict's keys. -/
namespace PL
open PySem PySem.Spec PyProof.Rows L2
section
variable {X : Cx} {T : List (Addr × Str)} {F : Fun} {W : Nat} {μ μ' : List Addr} {H H' : Hp} {hp hp' hp0 : Hv} {env : Env} {σ σ' : L2.St}
theorem PstS.lock {l : Nat} {d : Addr} {u : HO} {od : Obj} {kvs : List (PV × PV)} {o : Out} {h2 h3 : Hv} {D : Ends} (hd : H d = some u) (h1 : μ[l]? = some d) (w : Wr d u) (ul : h2[l]? = some (.lkd kvs)) (e3 : h3 = PL.upd h2 l (.dct kvs)) (post : PstS X T μ H h3 o D) :
    PstS X T μ (L2.upd H d (.frz od u)) h2 o ⟨fun σ' H' => H' d = some (.frz od u) ∧ D.nx σ' (L2.upd H' d u), fun v H' => H' d = some (.frz od u) ∧ D.rt v (L2.upd H' d u), fun σ' H' => H' d = some (.frz od u) ∧ D.bk σ' (L2.upd H' d u), fun σ' H' => H' d = some (.frz od u) ∧ D.ct σ' (L2.upd H' d u)⟩ := by
  subst e3
  have er : ∀ {μ' : List Addr} {H' : Hp} {e : Env} {σ' : L2.St}, (∀ {y : V} {v : PV}, VR X.K μ' H' y v → VR X.K μ' (L2.upd H' d u) y v) → ERL X.K μ' H' e σ' → ERL X.K μ' (L2.upd H' d u) e σ' := fun vr E => ⟨fun i v h => by
    obtain ⟨x, g1, g2⟩ := E.1 i v h
    exact ⟨x, g1, vr g2⟩, E.2⟩
  cases o with
  | next e =>
    intro μ' σ' H' x R E
    obtain ⟨a, b, c, vr⟩ := unlocked hd h1 w x R ul
    exact ⟨a, post μ' σ' _ b c (er vr E)⟩
  | brk e =>
    intro μ' σ' H' x R E
    obtain ⟨a, b, c, vr⟩ := unlocked hd h1 w x R ul
    exact ⟨a, post μ' σ' _ b c (er vr E)⟩
  | ret v =>
    intro μ' y H' x R r
    obtain ⟨a, b, c, vr⟩ := unlocked hd h1 w x R ul
    exact ⟨a, post μ' y _ b c (vr r)⟩
theorem unlk_inv {l : Nat} {kvs : List (PV × PV)} {xs : List PV} {gd : List Nat} {h2 h3 : Hv} (e : unlk ⟨xs, gd, some (l, kvs)⟩ h2 = some h3) : h2[l]? = some (.lkd kvs) ∧ h3 = PL.upd h2 l (.dct kvs) := by
  unfold unlk at e
  dsimp only at e
  split at e
  · rename_i k2 h
    split at e
    · rename_i hk
      cases e
      have := eq_of_beq hk
      subst this
      exact ⟨h, rfl⟩
    · cases e
  · cases e
theorem keys_inv {i : Nat} {w : Walk} {h1 : Hv} (e : evSrc F (.keys i) env hp = .ok (w, h1)) : ∃ l kvs, env[i]? = some (some (.ref l)) ∧ hp[l]? = some (.dct kvs) ∧ w = ⟨kvs.map (·.1), [l], some (l, kvs)⟩ ∧ h1 = PL.upd hp l (.lkd kvs) := by
  unfold evSrc at e
  split at e
  · rename_i l e1
    split at e
    · rename_i kvs e2
      cases e
      exact ⟨l, kvs, e1, e2, rfl, rfl⟩
    · cases e
  · cases e
theorem chk_lkd {l : Nat} {kvs : List (PV × PV)} {o : PL.PO} (e : hp[l]? = some o) : chk [l] (PL.upd hp l (.lkd kvs)) (PL.upd hp l (.lkd kvs)) = true := by
  have : (PL.upd hp l (.lkd kvs))[l]? = some (.lkd kvs) := by
    unfold PL.upd
    rw [List.getElem?_set_self (List.getElem?_eq_some_iff.mp e).1]
  unfold chk
  rw [List.all_cons, this]
  simp [PO.beq_refl]
theorem upd_get {l : Nat} {o q : PL.PO} (e : hp[l]? = some o) : (PL.upd hp l q)[l]? = some q := by
  unfold PL.upd
  rw [List.getElem?_set_self (List.getElem?_eq_some_iff.mp e).1]
theorem nS_forK {x : Str} {p : Pos} {i : Nat} {tg : Expr} {b : List Stmt} {t : Tg} {b' : Sts} {pos : Pos} (hp : PassesOwn (model X.prog X.w) X.A X.env X.xe) (hc : X.calm = true) (hi : PI X tg (.Name x p) (rKeys X T i)) (hg : PG X tg (rT X T t)) (hb : PSs X b (rSs X T F W b')) (hs : ∀ v, foldedSetIterable (.Name x p) X.env v = pure v) :
    PS X (.For tg (.Name x p) b [] pos) (rS X T F W (.loop t (.keys i) b')) := by
  refine ⟨fun pins s σ H D I h => (ps_lock (ps_for hp hc hi hg hb hs)).run pins s σ H D I ?_⟩
  obtain ⟨μ, env, hp, o, hp', R, E, ev, post⟩ := h
  unfold evS at ev
  obtain ⟨w, h1, e1, ev1⟩ := thn_some ev
  obtain ⟨o1, h2, e2, ev2⟩ := thn_some ev1
  clear ev ev1
  obtain ⟨l, kvs, ei, el, rfl, rfl⟩ := keys_inv e1
  split at ev2
  · rename_i h3 e3
    cases ev2
    obtain ⟨ul, e3⟩ := unlk_inv e3
    obtain ⟨d, u, g1, g2, mu, w, dr⟩ := lock_at pins I R el
    refine ⟨d, u, g2, mu, fun od => ?_⟩
    obtain ⟨x1, R1⟩ := locked (od := od) R el g1 g2 w dr
    refine ⟨μ, env, _, l, kvs, R1, E.ext x1, ei, upd_get el, fun J wk => ?_⟩
    exact for_turns wk R1 (E.ext x1) e2 (chk_lkd el) (PstS.lock g2 g1 w ul e3 post)
  · cases ev2
theorem nE_compK {x : Str} {p : Pos} {i : Nat} {elt tg : Expr} {ifs : List Expr} {scope : Scope} {own : List (Str × Nat)} {pos : Pos} {t : Tg} {c : OEx} {el : Ex} (hc : X.calm = true) (hN : X.N.Nodup) (hi : PI X tg (.Name x p) (rKeys X T i)) (ok : BlkOk X.N X.env.scope scope own)
    (hg : ∀ (s : Shared) (H : Hp) (C : Addr) (cl : List (Str × Addr)) (fp : List Addr), PG (X.blk s H scope (compEnvC scope cl C X.env) fp) tg (rT X T t)) (ht : ∀ (s : Shared) (H : Hp) (C : Addr) (cl : List (Str × Addr)) (fp : List Addr), PTs (X.blk s H scope (compEnvC scope cl C X.env) fp) ifs (rC X T F c))
    (he : ∀ (s : Shared) (H : Hp) (C : Addr) (cl : List (Str × Addr)) (fp : List Addr), PE (X.blk s H scope (compEnvC scope cl C X.env) fp) elt (rE X T F el)) (hs : ∀ v, foldedSetIterable (.Name x p) X.env v = pure v)
    (ho : ∀ i ∈ slots t, i ∈ own.map (·.2)) :
    PE X (.ListComp elt [⟨tg, .Name x p, ifs, 0⟩] scope pos) (rE X T F (.comp (own.map (·.2)) t (.keys i) c el)) := by
  refine ⟨fun pins s σ H Q I h => (pe_lock (pe_lc hc hN hi ok hg ht he hs)).run pins s σ H Q I ?_⟩
  obtain ⟨μ, env, hp, v, hp', R, E, ev, post⟩ := h
  unfold evE at ev
  obtain ⟨w, h1, e1, ev1⟩ := thn_some ev
  obtain ⟨ys, h2, e2, ev2⟩ := thn_some ev1
  clear ev ev1
  obtain ⟨l, kvs, ei, el, rfl, rfl⟩ := keys_inv e1
  split at ev2
  · rename_i h3 e3
    split at ev2
    · rename_i hl
      cases ev2
      obtain ⟨ul, e3⟩ := unlk_inv e3
      obtain ⟨d, u, g1, g2, mu, w, dr⟩ := lock_at pins I R el
      refine ⟨d, u, g2, mu, fun od => ?_⟩
      obtain ⟨x1, R1⟩ := locked (od := od) R el g1 g2 w dr
      refine ⟨μ, env, _, l, kvs, R1, E.ext x1, ei, upd_get el, fun J wk D hD => ?_⟩
      refine lc_turns (Q := fun v H' => H' d = some (.frz od u) ∧ Q v (L2.upd H' d u)) wk R1 (E.ext x1) ho e2 (chk_lkd el) hl hD fun μ2 H2 xs x2 R2 n2 d2 r2 => ?_
      have R3 := R2.adopt d2 n2 r2
      have x3 := x2.adopt hD
      have ul' : (h2 ++ [PL.PO.lst ys])[l]? = some (.lkd kvs) := by rw [List.getElem?_append_left (List.getElem?_eq_some_iff.mp ul).1]; exact ul
      obtain ⟨a, b, c, vr⟩ := unlocked g2 g1 w x3 R3 ul'
      have e4 : PL.upd (h2 ++ [PL.PO.lst ys]) l (.dct kvs) = h3 ++ [PL.PO.lst ys] := by
        rw [e3]
        unfold PL.upd
        rw [List.set_append_left _ _ (List.getElem?_eq_some_iff.mp ul).1]
      rw [e4] at c
      refine ⟨a, post _ _ _ b c (.ref ?_)⟩
      have : h3.length = μ2.length := by rw [e3]; unfold PL.upd; rw [List.length_set, ← R2.len]
      rw [this]; simp
    · cases ev2
  · cases ev2
end
end PL
set_option autoImplicit false
set_option linter.all false
set_option maxRecDepth 20000
set_option maxHeartbeats 1000000
/-! PlSnd7: calls of defs, of built-ins. -/
namespace PL
open PySem PySem.Spec PyProof.Rows L2
/-- a def keeps the evaluator's promise wherever it is called -/
def FnG (P : Program) (w : World) (K : PySem.W.Frag) (mg : Str → Option Value) (base : Heap) (T : List (Addr × Str)) (F : Fun) (r : Nat) (f : Nat) (a : Addr) : Prop :=
  ∀ (A : Around) (outer : List PySem.Env) (s : Shared) (H : Hp) (us : List Value) (vs : List V) (Q : VK), Room r A → A.guards = some [] → Env0 P w K mg base A outer s H → Vals vs us → rOs P w K T (F f) vs H Q →
    codeAny (model P w) A (.call (.ref a) ⟨us, []⟩) (CR C8.CX0 outer P w H s Q C8.E0) s
section
variable {X : Cx} {T : List (Addr × Str)} {F : Fun} {W : Nat} {μ μ' : List Addr} {H H' : Hp} {hp hp' hp0 : Hv} {env : Env} {σ σ' : L2.St}
theorem call_G {pins : List (Addr × Obj)} {s : Shared} {r f : Nat} {a : Addr} {us : List Value} {vs : List V} {Q : VK} (G : FnG X.prog X.w X.K X.mg X.base T F r f a) (hr : Room r X.A) (hg : X.A.guards = some []) (I : Inv X pins σ H s) (rv : Vals vs us) (h : rOs X.prog X.w X.K T (F f) vs H Q) :
    wpAny (model X.prog X.w) X.A (call (.ref a) us) (EP X pins σ Q) X.xe s := by
  refine wpAny_call (codeAny_mono (G X.A X.stack s H us vs Q hr hg I.env0 rv h) fun r s' hq => ?_)
  cases r with
  | error e => exact (show False from hq).elim
  | ok fl =>
    cases fl with
    | ret u => exact I.after hq
    | next => exact False.elim hq
    | brk => exact False.elim hq
    | cont => exact False.elim hq
theorem call_imp {f : Nat} {as : Exs} {σ : L2.St} {H : Hp} {Q : VK} (h : rE X T F (.call f as) σ H Q) : rEs X T F as σ H fun xs H1 => rOs X.prog X.w X.K T (F f) xs H1 Q := by
  obtain ⟨μ, env, hp, v, hp', R, E, ev, post⟩ := h
  unfold evE at ev
  obtain ⟨vs, g, e1, ev⟩ := PL.thn_some ev
  exact ⟨μ, env, hp, vs, g, R, E, e1, fun μ1 xs H1 x R1 r => ⟨μ1, g, vs, v, hp', R1, r, ev, post.tr x⟩⟩
theorem nE_call {r f : Nat} {a : Addr} {x : Str} {e : Expr} {es : List Expr} {as : Exs} {p pos : Pos} (G : FnG X.prog X.w X.K X.mg X.base T F r f a) (hr : Room r X.A) (hgd : X.A.guards = some []) (hg : Gl X x) (hm : X.mg x = some (.ref a)) (hk : PySem.W.keepIn X.K (.ref a) = true)
    (ha : PA X (e :: es) (rEs X T F as)) (hdb : (x == ("__debug__" : Str)) = false) (he : starEach (e :: es) X.env = (false, eval e X.env) :: starEach es X.env) (hpl : (backTo pos (starEach es X.env)).any (·.1) = false) : PE X (.Call (.Name x p) (e :: es) [] pos) (rE X T F (.call f as)) := by
  refine ⟨fun pins s σ H Q I h => ?_⟩
  have h := call_imp h
  refine wpAny_Call_Name_kw (ld_glob I hg hm ?_ hdb)
  refine PySem.W.callWith_K (h₀ := X.base) I.ok.mod.kin hk (L2.thn (ha.run pos pins s σ H _ I h) fun us s1 ⟨vs, H1, I1, r, q⟩ => ⟨I1.kIn, ?_⟩) he hpl
  exact call_G G hr hgd I1 r q
theorem nE_call0 {r f : Nat} {a : Addr} {x : Str} {p pos : Pos} (G : FnG X.prog X.w X.K X.mg X.base T F r f a) (hr : Room r X.A) (hgd : X.A.guards = some []) (hg : Gl X x) (hm : X.mg x = some (.ref a)) (hk : PySem.W.keepIn X.K (.ref a) = true)
    (hdb : (x == ("__debug__" : Str)) = false) : PE X (.Call (.Name x p) [] [] pos) (rE X T F (.call f .nil)) := by
  refine ⟨fun pins s σ H Q I h => ?_⟩
  have h := call_imp h
  refine wpAny_Call_Name_kw (ld_glob I hg hm ?_ hdb)
  obtain ⟨μ, env, hp, vs, hp', R, E, ev, post⟩ := h
  unfold evEs at ev
  cases ev
  exact PySem.W.callWith_K0 I.kIn hk (call_G (vs := []) (us := []) G hr hgd I .nil (post μ [] H Ext.refl R .nil))
/-! ### built-ins -/
theorem blt_imp {f : Bl} {as : Exs} : ∀ σ H Q, rE X T F (.blt f as) σ H Q → tCB (rOs X.prog X.w X.K T (evBl f)) (rEs X T F as) σ H Q := by
  intro σ H Q h
  obtain ⟨μ, env, hp, v, hp', R, E, ev, post⟩ := h
  unfold evE at ev
  obtain ⟨vs, g, e1, ev⟩ := PL.thn_some ev
  exact ⟨μ, env, hp, vs, g, R, E, e1, fun μ1 xs H1 x R1 r => ⟨μ1, g, vs, v, hp', R1, r, ev, post.tr x⟩⟩
theorem nE_blt {f : Bl} {id : String} {x : Str} {e : Expr} {es : List Expr} {as : Exs} {p pos : Pos} (hc : CallR X (.builtin id) (rOs X.prog X.w X.K T (evBl f))) (hg : Gl X x) (hm : X.mg x = none) (hv : bootBuiltins x = some (.builtin id)) (ha : PA X (e :: es) (rEs X T F as)) (hn : x ≠ "__name__") (hdb : (x == ("__debug__" : Str)) = false)
    (he : starEach (e :: es) X.env = (false, eval e X.env) :: starEach es X.env) (hpl : (backTo pos (starEach es X.env)).any (·.1) = false) : PE X (.Call (.Name x p) (e :: es) [] pos) (rE X T F (.blt f as)) :=
  pe_imp (pe_callB hc hg hm hv ha hn hdb he hpl) blt_imp
theorem nE_bltT {f : Bl} {id : String} {x : Str} {e : Expr} {es : List Expr} {as : Exs} {p pos : Pos} (hc : CallR X (.type id) (rOs X.prog X.w X.K T (evBl f))) (hg : Gl X x) (hm : X.mg x = none) (hv : bootBuiltins x = some (.type id)) (ha : PA X (e :: es) (rEs X T F as)) (hn : x ≠ "__name__") (hdb : (x == ("__debug__" : Str)) = false)
    (he : starEach (e :: es) X.env = (false, eval e X.env) :: starEach es X.env) (hpl : (backTo pos (starEach es X.env)).any (·.1) = false) : PE X (.Call (.Name x p) (e :: es) [] pos) (rE X T F (.blt f as)) :=
  pe_imp (pe_callTy hc hg hm hv ha hn hdb he hpl) blt_imp
/-! ### isinstance -/
def tyS : Ty → String
  | .int => "int"
  | .str => "str"
  | .tuple => "tuple"
  | .bool => "bool"
  | .list => "list"
def isSub (a : String) (t : Ty) : Bool := match a, t with
  | "int", .int => true
  | "bool", .int => true
  | "bool", .bool => true
  | "str", .str => true
  | "tuple", .tuple => true
  | "list", .list => true
  | _, _ => false
theorem kit_all : ∀ a ∈ ["NoneType", "bool", "int", "str", "tuple", "list"], ∀ t ∈ [Ty.int, Ty.str, Ty.tuple, Ty.bool, Ty.list], kitB a (tyS t) = some (isSub a t) := by decide +kernel
theorem kit_ok {K : PySem.W.Frag} {a : String} (h : a ∈ ["NoneType", "bool", "int", "str", "tuple", "list"]) (t : Ty) {b : Bool} (e : isSub a t = b) : PySem.W.kitOne K (.type a) (.type (tyS t)) = some b :=
  kit_ty (e ▸ kit_all a h t (by cases t <;> decide))
theorem ty_of {v : PV} {x : V} {t : Ty} {b : Bool} (R : HRx X T μ H hp) (r : VR X.K μ H x v) (e : hasTy hp v t = some b) : ∃ a, TyX X.K H x (.type a) ∧ PySem.W.kitOne X.K (.type a) (.type (tyS t)) = some b := by
  cases v with
  | non => rw [r.non_inv]; exact ⟨_, .base .non, kit_ok (by decide) t (by cases t <;> cases e <;> rfl)⟩
  | bl c => rw [r.bl_inv]; exact ⟨_, .base (.bl c), kit_ok (by decide) t (by cases t <;> cases e <;> rfl)⟩
  | int c => rw [r.int_inv]; exact ⟨_, .base (.int c), kit_ok (by decide) t (by cases t <;> cases e <;> rfl)⟩
  | str c => rw [r.str_inv]; exact ⟨_, .base (.str _), kit_ok (by decide) t (by cases t <;> cases e <;> rfl)⟩
  | tup c =>
    obtain ⟨a, xs, rfl, h, _⟩ := r.tup_inv
    refine ⟨"tuple", ?_, kit_ok (by decide) t (by cases t <;> cases e <;> rfl)⟩
    rcases h with (h | ⟨o, h⟩) | ⟨o, its, n, h1, h2, _⟩
    · exact .base (.tup h)
    · exact .fTuple h
    · exact .kTuple h1 h2
  | ref l =>
    obtain ⟨a, rfl, ha⟩ := r.ref_inv
    have e : (match hp[l]? with
      | some (.lst _) => some (decide (t = .list))
      | _ => none) = some b := by cases t <;> exact e
    split at e
    · rename_i xs e1
      obtain ⟨ys, h1, _⟩ := R.lst_at ha e1
      exact ⟨"list", .base (.lst h1), kit_ok (by decide) t (by cases t <;> cases e <;> rfl)⟩
    · cases e
  | fl c => cases t <;> cases e
theorem nE_isi {a : Expr} {a' : Ex} {t : Ty} {y : Str} {p p2 pos : Pos} (hg : Gl X "isinstance") (hm : X.mg "isinstance" = none) (hg2 : Gl X y) (hm2 : X.mg y = none) (hv2 : bootBuiltins y = some (.type (tyS t))) (hn2 : y ≠ "__name__") (hd2 : (y == ("__debug__" : Str)) = false) (h : PE X a (rE X T F a'))
    (hs : starEach [a, .Name y p2] X.env = (false, eval a X.env) :: starEach [.Name y p2] X.env) : PE X (.Call (.Name "isinstance" p) [a, .Name y p2] [] pos) (rE X T F (.isi a' t)) := by
  refine pe_imp (pe_callB (call_isi (X := X)) hg hm (by decide +kernel) (pa_cons h (pa_cons (pe_bltn (v := .ty (tyS t)) hg2 hm2 hv2 rfl hn2 hd2) pa_nil) hs) (by decide) (by decide) hs) fun σ H Q h => ?_
  obtain ⟨μ, env, hp, v, hp', R, E, ev, post⟩ := h
  unfold evE at ev
  obtain ⟨v1, g, e1, ev⟩ := PL.thn_some ev
  obtain ⟨k, e2, rfl, rfl⟩ := retB_ok ev
  refine ⟨μ, env, hp, v1, hp', R, E, e1, fun μ1 x1 H1 x R1 r => ?_⟩
  obtain ⟨a, h1, h2⟩ := ty_of R1 r e2
  exact ⟨x1, .ty (tyS t), .type a, .type (tyS t), k, rfl, .ty _, h1, h2, post μ1 _ H1 x R1 (.bl k)⟩
end
end PL
set_option autoImplicit false
set_option linter.all false
set_option maxRecDepth 20000
set_option maxHeartbeats 1000000
/-! PlSnd8: dict displays, stores, augmented assignments, methods. -/
namespace PL
open PySem PySem.Spec PyProof.Rows L2
theorem no_tuple_iadd : typeLookup (.type "tuple") (dunderI "add") = pure none := by rw [typeLookup_type, builtinLookup_eq_fast]; kernel_rfl
section
variable {prog : Program} {w : World} {A : Around} {E : Value → Shared → Prop} {s : Shared}
/-- t += u, t not empty -/
theorem icat_tup {t b : Addr} {vs ws : List Value} {Q : Value → Shared → Prop} (ht : IsTup s.heap t vs.toArray) (hb : IsTup s.heap b ws.toArray)
    (h0 : vs = [] → Q (.ref b) s) (h1 : vs ≠ [] → ws = [] → Q (.ref t) s) (h2 : vs ≠ [] → ws ≠ [] → Q (.ref s.heap.objs.size) { s with heap := s.heap.push { cls := .type "tuple", data := .seq (vs ++ ws).toArray } })
    (hsz : vs.length + ws.length ≤ sizeLine) : wpAny (model prog w) A (inplaceOp .Add (.ref t) (.ref b)) Q E s := by
  obtain ⟨⟨cls, dd, data, sl⟩, ho, hc, n, hd⟩ := id ht
  obtain ⟨⟨cls2, dd2, data2, sl2⟩, ho2, hc2, n2, hd2⟩ := id hb
  simp only at hc hd hc2 hd2
  subst hc hd hc2 hd2
  have e : vs.toArray ++ ws.toArray = (vs ++ ws).toArray := by simp
  refine wpAny_inplaceOp_concat ⟨_, ho, rfl⟩ ⟨_, ho2, rfl⟩ no_tuple_iadd noFill_tuple_add seq_tuple_add ?_
  by_cases hv : vs = []
  · subst hv
    exact call_meets PySem.F.slot_tuple_add ⟨_, ho, rfl⟩ PySem.F.entry_tuple_add (PySem.F.args_tuple_add_2 _ _) (tuple_addW0 t b ([] : List Value).toArray ws.toArray n n2 dd dd2 sl sl2 (by simp)) ⟨ho, ho2, h0 rfl⟩
  · by_cases hw : ws = []
    · exact call_meets PySem.F.slot_tuple_add ⟨_, ho, rfl⟩ PySem.F.entry_tuple_add (PySem.F.args_tuple_add_2 _ _) (tuple_addW1 t b vs.toArray ws.toArray n n2 dd dd2 sl sl2 (by simpa using hv) (by simp [hw])) ⟨ho, ho2, h1 hv hw⟩
    · refine call_meets PySem.F.slot_tuple_add ⟨_, ho, rfl⟩ PySem.F.entry_tuple_add (PySem.F.args_tuple_add_2 _ _) (tuple_addW2 t b vs.toArray ws.toArray n n2 dd dd2 sl sl2 (by simpa using hv) (by simpa using hw) (by rw [List.size_toArray, List.size_toArray]; exact hsz)) ⟨ho, ho2, ?_⟩
      rw [e]
      exact h2 hv hw
end
section
variable {X : Cx} {T : List (Addr × Str)} {F : Fun} {W : Nat} {μ μ' : List Addr} {H H' : Hp} {hp hp' hp0 : Hv} {env : Env} {σ σ' : L2.St}
def augM : Op2 → Operator → Bool
  | .add, .Add => true
  | .sub, .Sub => true
  | _, _ => false
theorem iop_cat : OpR X (inplaceOp .Add) (rCatA X.K) := by
  intro pins s σ H x y v u Q I rx ry h
  obtain ⟨a, b, xs, ys, rfl, rfl, ha, hb, hz, q0, q1, q2⟩ := h
  cases rx
  cases ry
  obtain ⟨its, r1, p1, _⟩ := I.tuple ha
  obtain ⟨its2, r2, p2, _⟩ := I.tuple hb
  refine icat_tup p1 p2 (fun e => ⟨.ref b, H, I, rfl, q0 ?_⟩) (fun e f => ⟨.ref a, H, I, rfl, q1 (fun z => e ?_) ?_⟩) (fun e f => ?_) (by rw [← r1.length, ← r2.length]; exact hz)
  · subst e; cases r1; rfl
  · subst z; cases r1; rfl
  · subst f; cases r2; rfl
  · have hf : H s.heap.objs.size = none := I.hok.fresh (Nat.le_refl _)
    refine ⟨.ref s.heap.objs.size, L2.upd H s.heap.objs.size (.tup (xs ++ ys)), I.laid (t' := s.toks) (fun b u e => Heap.get?_push_of_some _ e) (Nat.le_refl _) ?_, rfl, q2 (fun z => e ?_) (fun z => f ?_) _ hf⟩
    · exact ⟨by rw [List.length_append]; exact hz, its ++ its2, r1.append r2, ⟨_, Heap.get?_push_size _ rfl, rfl, _, rfl⟩⟩
    · subst z; cases r1; rfl
    · subst z; cases r2; rfl
theorem oD_aug {o : Op2} {op : Operator} (h : augM o op = true) : OpR X (inplaceOp op) (rO2 X.prog X.w X.K T (evAug o)) := by
  intro pins s σ H x y v u Q I rx ry hh
  obtain ⟨μ, hp, a, b, r, hp', R, va, vb, ev, post⟩ := hh
  cases o <;> cases op <;> try (exact absurd h Bool.false_ne_true)
  · unfold evAug at ev
    split at ev
    · rename_i l m
      split at ev
      · rename_i xs ys e1 e2
        split at ev
        · rename_i hl
          cases ev
          obtain ⟨p, rfl, hp1⟩ := va.ref_inv
          obtain ⟨q, rfl, hq1⟩ := vb.ref_inv
          obtain ⟨xs', hx, rxs⟩ := R.lst_at hp1 e1
          obtain ⟨ys', hy, rys⟩ := R.lst_at hq1 e2
          obtain ⟨X1, R1⟩ := R.write (o' := .lst (xs' ++ ys')) (q' := .lst (xs ++ ys)) e1 hp1 hx ⟨(fun _ e => nomatch e), (fun _ _ e => nomatch e), (fun _ e => nomatch e), (fun _ e => nomatch e)⟩ fun E0 => ⟨_, upd_same, (rxs.append rys).ext E0⟩
          exact iop_ext pins s σ H _ _ v u Q I rx ry ⟨p, q, xs', ys', rfl, rfl, hx, hy, by rw [rxs.len, rys.len, ← line_eq]; exact hl, post μ _ _ X1 R1 (.ref (X1.get hp1))⟩
        · cases ev
      · cases ev
    · cases ev
      rw [va.int_inv] at rx
      rw [vb.int_inv] at ry
      exact iop_add pins s σ H _ _ v u Q I rx ry ⟨_, _, rfl, rfl, post.val R (.int _)⟩
    · split at ev
      · rename_i hl
        cases ev
        rw [va.str_inv] at rx
        rw [vb.str_inv] at ry
        exact iop_add_str pins s σ H _ _ v u Q I rx ry ⟨_, _, rfl, rfl, by rw [tx_len, tx_len, ← line_eq]; exact hl, by rw [tx_append]; exact post.val R (.str _ (va.str_ok.append vb.str_ok (by rw [← line_eq]; exact hl)))⟩
      · cases ev
    · split at ev
      · rename_i x' y' hl
        cases ev
        obtain ⟨p, xs, rfl, hx, rxs⟩ := va.tup_inv
        obtain ⟨q, ys, rfl, hy, rys⟩ := vb.tup_inv
        refine iop_cat pins s σ H _ _ v u Q I rx ry ⟨p, q, xs, ys, rfl, rfl, hx, hy, by rw [rxs.len, rys.len, ← line_eq]; exact hl, fun e => ?_, fun _ e => ?_, fun _ _ c hc => ?_⟩
        · have := rxs.nil_iff.mp e
          subst this
          exact post.val R (.tup hy rys)
        · have := rys.nil_iff.mp e
          subst this
          rw [List.append_nil] at post
          exact post.val R (.tup hx rxs)
        · exact post.tup R (rxs.append rys) hc
      · cases ev
    · rename_i e; cases e
    · cases ev
  · unfold evAug at ev
    split at ev
    · rename_i e; cases e
    · rename_i e; cases e
    · rename_i e; cases e
    · rename_i e; cases e
    · cases ev
      rw [va.int_inv] at rx
      rw [vb.int_inv] at ry
      exact iop_sub pins s σ H _ _ v u Q I rx ry ⟨_, _, rfl, rfl, post.val R (.int _)⟩
    · cases ev
theorem nS_aug {i : Nat} {x : Str} {e : Expr} {a : Ex} {o : Op2} {op : Operator} {pos' pos : Pos} (hN : X.N.Nodup) (hi : X.N[i]? = some x) (hx : Loc X.env.scope x) (he : PE X e (rE X T F a)) (ho : augM o op = true) (hf : X.fn x = true ∨ X.env.scope.names.lookup x = some .local) : PS X (.AugAssign (.Name x pos') op e pos) (rS X T F W (.aug i o a)) := by
  refine ps_imp (ps_aug hN hi hx he (oD_aug (T := T) ho) hf) fun D σ H h => ?_
  obtain ⟨μ, env, hp, o1, hp', R, E, ev, post⟩ := h
  unfold evS at ev
  split at ev
  · rename_i v ei
    obtain ⟨v1, g, e1, ev⟩ := PL.thn_some ev
    obtain ⟨v2, g2, e2, ev⟩ := PL.thn_some ev
    cases ev
    obtain ⟨y, h1, h2⟩ := E.1 i _ ei
    exact ⟨y, h1, μ, env, hp, v1, g, R, E, e1, fun μ1 x1 H1 x R1 r => ⟨μ1, g, v, v1, v2, hp', R1, h2.ext x, r, e2, fun μ2 x2 H2 z R2 r2 => post μ2 _ H2 (x.trans z) R2 ((E.ext (x.trans z)).set r2)⟩⟩
  · cases ev
def rSet (X : Cx) (T : List (Addr × Str)) : TSet := fun o i v H Q => ∃ μ hp x y z hp', HRx X T μ H hp ∧ VR X.K μ H o x ∧ VR X.K μ H i y ∧ VR X.K μ H v z ∧ evSt x y z hp = some hp' ∧ ∀ μ' H', Ext μ H μ' H' → HRx X T μ' H' hp' → Q H'
theorem pset (hu : X.A.units + 200 < cLine) : PSet X (rSet X T) := by
  intro pins s σ H o i v ov iv u Q I ro ri rv h
  obtain ⟨μ, hp, x, y, z, hp', R, vo, vi, vv, ev, post⟩ := h
  unfold evSt at ev
  split at ev
  · rename_i l
    obtain ⟨a, rfl, ha⟩ := vo.ref_inv
    split at ev
    · rename_i xs e1
      split at ev
      · rename_i j
        split at ev
        · rename_i k e2
          cases ev
          obtain ⟨xs', hx, rxs⟩ := R.lst_at ha e1
          obtain ⟨X1, R1⟩ := R.write (o' := .lst (xs'.set k v)) (q' := .lst (xs.set k z)) e1 ha hx ⟨(fun _ e => nomatch e), (fun _ _ e => nomatch e), (fun _ e => nomatch e), (fun _ e => nomatch e)⟩ fun E0 => ⟨_, upd_same, (VRs.set vv k rxs).ext E0⟩
          rw [vi.int_inv] at ri
          refine set_list pins s σ H _ _ v ov iv u Q I ro ri rv ⟨a, xs', j, k, rfl, rfl, hx, ?_, post μ _ X1 R1⟩
          rw [rxs.len]
          exact ix_ixN e2
        · cases ev
      · cases ev
    · rename_i kvs e1
      split at ev
      · rename_i hc
        cases ev
        rw [Bool.and_eq_true] at hc
        cases ro
        exact d_set hu I R ha e1 hc.1 (by rw [← line_eq]; exact of_decide_eq_true hc.2) vi ri vv rv fun H' s' I' X1 R1 => ⟨H', I', post μ H' X1 R1⟩
      · cases ev
    · cases ev
  · cases ev
theorem nS_sset {o i e : Expr} {o' i' e' : Ex} {tpos pos : Pos} (hu : X.A.units + 200 < cLine) (ho : PE X o (rE X T F o')) (hi : PE X i (rE X T F i')) (he : PE X e (rE X T F e'))
    (ha : ∀ v, assign (.Subscript o i tpos) X.env v = (do
      let ov ← holding [v] (eval o X.env)
      let iv ← holding [v, ov] (eval i X.env)
      standAt tpos
      holding [v, ov, iv] (setItem ov iv v)
      release [v, ov, iv] []))
    (hs : swapsWithSole [.Subscript o i tpos] e pos.line X.env = pure false) (hw : swappedStores [.Subscript o i tpos] e X.env = pure none) : PS X (.Assign [.Subscript o i tpos] e pos) (rS X T F W (.sset o' i' e')) := by
  refine ps_imp (ps_asg he (pg_sub ho hi (pset (T := T) hu) ha) hs hw) fun D σ H h => ?_
  obtain ⟨μ, env, hp, o1, hp', R, E, ev, post⟩ := h
  unfold evS at ev
  obtain ⟨v1, g1, e1, ev⟩ := PL.thn_some ev
  obtain ⟨v2, g2, e2, ev⟩ := PL.thn_some ev
  obtain ⟨v3, g3, e3, ev⟩ := PL.thn_some ev
  split at ev
  · rename_i h4 e4
    cases ev
    exact ⟨μ, env, hp, v1, g1, R, E, e1, fun μ1 x1 H1 x R1 r1 => ⟨μ1, env, g1, v2, g2, R1, E.ext x, e2, fun μ2 x2 H2 y R2 r2 => ⟨μ2, env, g2, v3, g3, R2, E.ext (x.trans y), e3, fun μ3 x3 H3 z R3 r3 =>
      ⟨μ3, g3, v2, v3, v1, hp', R3, r2.ext z, r3, (r1.ext y).ext z, e4, fun μ4 H4 q R4 => post μ4 _ H4 (x.trans (y.trans (z.trans q))) R4 (E.ext (x.trans (y.trans (z.trans q))))⟩⟩⟩⟩
  · cases ev
theorem nE_dct0 {pos : Pos} : PE X (.Dict [] [] pos) (rE X T F .dct0) := by
  refine pe_imp pe_dnewK fun σ H Q h => ?_
  obtain ⟨μ, env, hp, v, hp', R, E, ev, post⟩ := h
  unfold evE at ev
  unfold alloc at ev
  cases ev
  intro p hn
  have q : OR X.prog X.w X.K (μ ++ [p]) (L2.upd H p (.dK [])) p (.dct []) := ⟨.dK [], upd_same, .inr ⟨[], rfl, .nil⟩⟩
  exact post _ _ _ (Ext.new hn) (R.new hn q (R.nmem hn)) (.ref (by rw [← R.len]; simp))
/-! ### methods -/
theorem mth_imp {m : Mt} {o a : Ex} {ty : String} {r : L2.St → V → List V → Hp → VK → Prop} (hty : ∀ {μ H hp x v vs h r' h'}, HRx X T μ H hp → VR X.K μ H x v → mtOn v hp = true → evMt m v vs h = .ok (r', h') → tyV X.K ty x H)
    (hr : ∀ {μ H hp σ x v xs vs r' hp'} {Q : VK}, HRx X T μ H hp → VR X.K μ H x v → VRs X.K μ H xs vs → evMt m v vs hp = .ok (r', hp') → Pst X T μ H hp' r' Q → r σ x xs H Q) :
    ∀ σ H Q, rE X T F (.mth m o (.cons a .nil)) σ H Q → tBMS X.K ty r (rE X T F o) (tCons (rE X T F a) tNil) σ H Q := by
  intro σ H Q h
  obtain ⟨μ, env, hp, v, hp', R, E, ev, post⟩ := h
  unfold evE at ev
  obtain ⟨v0, g0, e0, ev⟩ := PL.thn_some ev
  split at ev
  · rename_i hon
    obtain ⟨vs, g, e1, ev⟩ := PL.thn_some ev
    unfold evEs at e1
    obtain ⟨v3, g3, e3, e1⟩ := PL.thn_some e1
    obtain ⟨vs4, g4, e4, e1⟩ := PL.thn_some e1
    unfold evEs at e4
    cases e4
    cases e1
    exact ⟨μ, env, hp, v0, g0, R, E, e0, fun μ1 x H1 x1 R1 r1 => ⟨hty R1 r1 hon ev, μ1, env, g0, v3, g, R1, E.ext x1, e3, fun μ2 y H2 x2 R2 r2 => hr R2 (r1.ext x2) (.cons r2 .nil) ev (post.tr (x1.trans x2))⟩⟩
  · cases ev
theorem nE_append {o e : Expr} {o' e' : Ex} {apos cpos : Pos} (ho : PE X o (rE X T F o')) (he : PE X e (rE X T F e')) (hbase : attributeBase o "append" X.env (eval o X.env) = eval o X.env) (hline : (apos.endLine == cpos.line) = true) (hs : starEach [e] X.env = (false, eval e X.env) :: starEach [] X.env) :
    PE X (.Call (.Attribute o "append" apos) [e] [] cpos) (rE X T F (.mth .append o' (.cons e' .nil))) := by
  have hm : MtS X "list.append" (fun _ x xs H Q => rAppend x xs H Q) := fun pins s σ H x xs v us Q I rx rs q => mt_append pins s σ H x xs v us Q I rx rs q
  refine pe_imp (pe_bmS PySem.F.plainAttrs_list PySem.F.slot_list_append PySem.F.type_list_append hm ho (pa_cons he pa_nil hs) hbase (by rw [hs]; rfl) hline hs rfl) (mth_imp ?_ ?_)
  · intro μ H hp x v vs h r' h' R r on ev
    cases v with
    | ref l =>
      obtain ⟨a, rfl, ha⟩ := r.ref_inv
      dsimp only [mtOn] at on
      split at on
      · rename_i xs e1
        obtain ⟨ys, h1, _⟩ := R.lst_at ha e1
        exact .inl ⟨rfl, ys, .of h1⟩
      · cases on
    | str z =>
      unfold evMt at ev
      split at ev
      · cases ev
      · cases ev
    | _ => cases on
  · intro μ H hp σ x v xs vs r' hp' Q R r rs ev post
    unfold evMt at ev
    split at ev
    · rename_i u
      unfold evMt1 at ev
      split at ev
      · rename_i l
        split at ev
        · rename_i zs e1
          split at ev
          · rename_i hl
            cases ev
            obtain ⟨a, rfl, ha⟩ := r.ref_inv
            obtain ⟨ys, h1, rys⟩ := R.lst_at ha e1
            obtain ⟨y, rfl, ry⟩ := rs.one
            obtain ⟨X1, R1⟩ := R.write (o' := .lst (ys ++ [y])) (q' := .lst (zs ++ [u])) e1 ha h1 ⟨(fun _ e => nomatch e), (fun _ _ e => nomatch e), (fun _ e => nomatch e), (fun _ e => nomatch e)⟩ fun E0 => ⟨_, upd_same, (rys.snoc ry).ext E0⟩
            exact ⟨a, ys, y, rfl, rfl, h1, by rw [rys.len, ← line_eq]; exact hl, post μ _ _ X1 R1 .non⟩
          · cases ev
        · cases ev
      · rename_i e; cases e
      · cases ev
    · cases ev
end
theorem occ_stay (s sub : Str) (hi : Nat) : ∀ (l : List Nat) (st : Array Nat × Nat), 1 ≤ st.fst.size → (forIn l st (StrLaws.occBody s sub hi 1)).run.fst = st.fst
  | [], st, _ => rfl
  | a :: l, st, h => by
    rw [List.forIn_cons]
    unfold StrLaws.occBody
    rw [if_neg (fun z => absurd z.1.1.1 (by omega))]
    exact occ_stay s sub hi l _ h
theorem occ_first (s sub : Str) (hi : Nat) : ∀ (l : List Nat) (free : Nat), (∀ i ∈ l, free ≤ i) → (forIn l ((#[] : Array Nat), free) (StrLaws.occBody s sub hi 1)).run.fst.toList = (l.find? fun i => decide (i + sub.length ≤ hi ∧ Builtin.Str.subAt s sub i = true)).toList
  | [], _, _ => rfl
  | a :: l, free, h => by
    rw [List.forIn_cons]
    unfold StrLaws.occBody
    by_cases hc : a + sub.length ≤ hi ∧ Builtin.Str.subAt s sub a = true
    · rw [if_pos ⟨⟨⟨by simp, h a List.mem_cons_self⟩, hc.1⟩, hc.2⟩]
      show (forIn l _ (StrLaws.occBody s sub hi 1)).run.fst.toList = _
      rw [occ_stay s sub hi l _ (by simp), List.find?_cons_of_pos (by simpa using hc)]
      rfl
    · rw [if_neg (fun z => hc ⟨z.1.2, z.2⟩), List.find?_cons_of_neg (by simpa using hc)]
      exact occ_first s sub hi l free fun i hi => h i (List.mem_cons_of_mem _ hi)
theorem occ_index {x : List Nat} {c i : Nat} (h : x.findIdx? (· == c) = some i) : Builtin.Str.occurrences (tx x) (tx [c]) 0 (tx x).length 1 = [i] := by
  rw [StrLaws.occ_eq, occ_first _ _ _ _ 0 (fun _ _ => Nat.zero_le _)]
  have hp : ∀ j, (decide (j + (tx [c]).length ≤ (tx x).length ∧ Builtin.Str.subAt (tx x) (tx [c]) j = true)) = decide (x[j]? = some c) := fun j => by
    have := StrLaws.subAt_one (tx x) c j
    rw [decide_eq_decide]
    refine this.trans ?_
    show (tx x).cps.toList[j]? = some c ↔ _
    simp
  rw [List.findIdx?_eq_some_iff_getElem] at h
  obtain ⟨h1, h2, h3⟩ := h
  have : (List.range' 0 ((tx x).length + 1 - 0)).find? (fun i => decide (i + (tx [c]).length ≤ (tx x).length ∧ Builtin.Str.subAt (tx x) (tx [c]) i = true)) = some i := by
    rw [List.find?_range'_eq_some]
    refine ⟨by rw [hp, decide_eq_true_eq, List.getElem?_eq_getElem h1, eq_of_beq h2], ?_, fun j _ hj => ?_⟩
    · rw [tx_len, List.mem_range'_1]; omega
    · rw [hp, Bool.not_eq_true', decide_eq_false_iff_not, List.getElem?_eq_getElem (Nat.lt_trans hj h1)]
      intro e
      have := h3 j hj
      rw [Option.some.inj e] at this
      simp at this
  rw [this]
  rfl
section
variable {X : Cx} {T : List (Addr × Str)} {F : Fun} {W : Nat} {μ μ' : List Addr} {H H' : Hp} {hp hp' hp0 : Hv} {env : Env} {σ σ' : L2.St}
theorem nE_index {o e : Expr} {o' e' : Ex} {apos cpos : Pos} (hc : X.calm = true) (ho : PE X o (rE X T F o')) (he : PE X e (rE X T F e')) (hbase : attributeBase o "index" X.env (eval o X.env) = eval o X.env) (hline : (apos.endLine == cpos.line) = true) (hs : starEach [e] X.env = (false, eval e X.env) :: starEach [] X.env) :
    PE X (.Call (.Attribute o "index" apos) [e] [] cpos) (rE X T F (.mth .index o' (.cons e' .nil))) := by
  refine pe_imp (pe_bmS PySem.F.plainAttrs_str PySem.F.slot_str_index PySem.F.type_str_index (mt_indexX hc LamX.takes0) ho (pa_cons he pa_nil hs) hbase (by rw [hs]; rfl) hline hs rfl) (mth_imp ?_ ?_)
  · intro μ H hp x v vs h r' h' R r on ev
    cases v with
    | str z => rw [r.str_inv]; exact rfl
    | ref l =>
      unfold evMt at ev
      split at ev
      · cases ev
      · cases ev
    | _ => cases on
  · intro μ H hp σ x v xs vs r' hp' Q R r rs ev post
    unfold evMt at ev
    split at ev
    · rename_i u
      unfold evMt1 at ev
      split at ev
      · rename_i e; cases e
      · split at ev
        · rename_i c
          split at ev
          · rename_i i hi
            cases ev
            obtain ⟨y, rfl, ry⟩ := rs.one
            refine ⟨_, _, r.str_inv, by rw [ry.str_inv], fun k hk => ?_, fun hk => ?_⟩
            · unfold Txt.index0 at hk
              rw [occ_index hi] at hk
              cases hk
              exact post.val R (.int _)
            · unfold Txt.index0 at hk
              rw [occ_index hi] at hk
              cases hk
          · cases ev
        · cases ev
      · cases ev
    · cases ev
end
end PL
set_option autoImplicit false
set_option linter.all false
set_option maxRecDepth 20000
set_option maxHeartbeats 1000000
/-! PlSrt: sorted(.., key=..), the key's calls of any kind that lets the sort's own objects be. -/
namespace PL
open PySem PySem.Spec PySem.W PySem.Calls PyProof.Rows
section
variable {prog : Program} {w : World} {A : Around} {E : Value → Shared → Prop} {s : Shared} {a kS : Addr} {b : Bool} {vs : List Value} {e1 : Nat} {P : PySem.Fin → Shared → Prop}
/-- the keys are made one behind another -/
theorem srt_rest {f : Value} (St : Nat → Array Value → Shared → Prop) (hZ : vs.length ≤ sizeLine)
    (turn : ∀ (j : Nat) (v : Value), vs[j]? = some v → ∀ (ks : Array Value) (s' : Shared), St j ks s' → ks.size = j ∧
      wpAny (model prog w) A (call f [v]) (fun k s'' => ∃ e, s''.heap.get? kS = some (seqObj "list" ks e) ∧ ∀ (h' : Heap) (c : Nat), Heap.SameBut kS s''.heap h' → h'.get? kS = some (seqObj "list" (ks.push k) c) → St (j + 1) (ks.push k) { s'' with heap := h' }) (fun _ _ => False) s')
    (done : ∀ (ks : Array Value) (s' : Shared), St vs.length ks s' → (∃ e, s'.heap.get? kS = some (seqObj "list" ks e)) ∧ wpAny (model prog w) A (ksk_end a b vs.toArray e1 (.ref kS) ks) P E s')
    (h0 : St 0 #[] s) : wpAny (model prog w) A (ksk_rest a f b vs.toArray e1 (.ref kS)) P E s := by
  unfold ksk_rest
  refine wpAny_bind (wpAny_rule ?_)
  first
    | rw [List.forIn_toArray]
    | (rw [← Array.forIn_toList]; simp only [List.toList_toArray])
    | rw [← Array.forIn_toList]
  refine wpAny_bind (ksk_fold (fun i s' => ∃ ks, St i ks s') vs 0 s ⟨#[], h0⟩ ?step ?done)
  case step =>
    rintro j x s' hx ⟨ks, hs⟩
    simp only [Nat.zero_add] at hs ⊢
    have hj : j < vs.length := (List.getElem?_eq_some_iff.mp hx).1
    obtain ⟨hsz, ht⟩ := turn j x hx ks s' hs
    refine wpAny_bind (wpAny_attempt (wpAny_mono ht (fun k s'' he => ?_) fun _ _ hF => hF.elim))
    obtain ⟨e, nk2, hn⟩ := he
    try dsimp only
    have s1 := Heap.SameBut.update s''.heap kS (Obj.mapSeq (·.push k))
    obtain ⟨c2, hc2⟩ : ∃ c2, (s''.heap.update kS (Obj.mapSeq (·.push k))).get? kS = some (seqObj "list" (ks.push k) c2) := ⟨_, get?_update_seq nk2 (·.push k)⟩
    have hz : ks.size ≤ sizeLine := by omega
    refine wpAny_bind (listUpdate_at nk2 rfl ?_ hz (Nat.le_trans (Nat.le_of_eq (Array.size_push ..)) (Nat.succ_le_succ hz)))
    exact wpAny_pure ⟨rfl, _, hn _ c2 s1 hc2⟩
  case done =>
    rintro s' ⟨ks, hs⟩
    rw [Nat.zero_add] at hs
    obtain ⟨⟨e, nk'⟩, hd⟩ := done ks s' hs
    try dsimp only
    refine wpAny_bind (listItems_at nk' rfl ?_)
    exact hd
/-- the list's own sort: from its new objects on -/
theorem srt_tree {f : Value} {n : Nat} (ho : s.heap.get? a = some (seqObj "list" vs.toArray n)) (hZ : vs.length ≤ sizeLine)
    (h : ∀ e1 : Nat, (sortingHeap s.heap a vs).get? a = some (seqObj "list" #[] e1) → (sortingHeap s.heap a vs).get? (s.heap.objs.size + 1) = some (seqObj "list" #[] 0) →
      wpAny (model prog w) A (ksk_rest a f b vs.toArray e1 (.ref (s.heap.objs.size + 1))) P E { s with heap := sortingHeap s.heap a vs }) :
    wpAny (model prog w) A (ksk_tree a f b) P E s := by
  have ha : a < s.heap.objs.size := Heap.lt_size ho
  obtain ⟨e1, ho1⟩ : ∃ e1, (s.heap.update a (Obj.mapSeq fun _ => (#[] : Array Value))).get? a = some (seqObj "list" #[] e1) := ⟨_, get?_update_seq ho fun _ => #[]⟩
  have hkS : ((s.heap.update a (Obj.mapSeq fun _ => (#[] : Array Value))).push (seqObj "tuple" vs.toArray 0)).objs.size = s.heap.objs.size + 1 := by rw [size_push', Heap.size_update]
  unfold ksk_tree
  refine wpAny_bind (listItems_at ho rfl ?_)
  refine wpAny_bind (listUpdate_at ho rfl ?_ (by rw [List.size_toArray]; exact hZ) (Nat.zero_le _))
  refine wpAny_bind (seqEpoch_at ho1 rfl ?_)
  refine wpAny_bind (wpAny_newTuple ?_ (by show vs.length ≤ _; exact hZ))
  refine wpAny_bind (wpAny_newList ?_ (Nat.zero_le _))
  refine wpAny_holding ?_
  have z := h e1 (Heap.get?_push_of_some _ (Heap.get?_push_of_some _ ho1)) (by rw [← hkS]; exact Heap.get?_push_size _ rfl)
  rw [← hkS] at z
  exact z
/-- sorted(x, key=f): behind the gathering -/
theorem srt_sorted {x : Value} {q : Addr} {Q : Value → Shared → Prop} (hL : vs.length ≤ sizeLine)
    (hcol : ∀ (E' : Value → Shared → Prop) (R : List Value → Shared → Prop), (∀ (h' : Heap) (tk : Nat), (∀ b o, s.heap.get? b = some o → h'.get? b = some o) → R vs { s with heap := h', toks := tk }) → wpAny (model prog w) A.in1 (collect x) R E' s)
    (body : ∀ (E' : Value → Shared → Prop) (h' : Heap) (tk : Nat), (∀ b o, s.heap.get? b = some o → h'.get? b = some o) → 
      wpAny (model prog w) A.in1.in1 (ksk_tree h'.objs.size (.ref q) false) (fun r s' => r = .done (.ret .none) ∧ Q (.ref h'.objs.size) s') E' { s with heap := h'.push (seqObj "list" vs.toArray 0), toks := tk }) :
    wpAny (model prog w) A (call (.builtin "sorted") [x] [(Str.ofString "key", .ref q)]) Q E s := by
  refine call_function_entry_kw kind_sorted plain_sorted entry_sorted (ksk_s1 _ _) ?_
  unfold Builtin.«sorted»
  refine wpAny_bind (m := checkCount "sorted" 1 1 _) (wpAny_pure ?_)
  refine wpAny_bind (hcol _ _ fun h' tk hk => ?_)
  refine wpAny_bind (wpAny_newList ?_ hL)
  refine wpAny_bind (wpAny_holding (wpAny_call_entry_kw slot_list_sort ⟨_, Heap.get?_push_size _ rfl, rfl⟩ entry_list_sort ?body (ksk_l1 _ _)))
  case body =>
    show wpAny (model prog w) A.in1.in1 (Builtin.«list.sort» ⟨[.ref h'.objs.size], [(Str.ofString "key", .ref q)]⟩) _ _ _
    rw [ksk_t1]
    refine wpAny_mono (body _ h' tk hk) (fun r s' hf => ?_) fun _ _ e => e
    obtain ⟨rfl, hq⟩ := hf
    exact ⟨_, rfl, wpAny_pure ⟨_, rfl, hq⟩⟩
end
end PL
set_option autoImplicit false
set_option linter.all false
set_option maxRecDepth 20000
set_option maxHeartbeats 1000000
/-! PlSrt2: sorted by keys that the evaluator tells. -/
namespace PL
open PySem PySem.Spec PyProof.Rows L2
section
variable {X : Cx} {T : List (Addr × Str)} {pins : List (Addr × Obj)} {s : Shared} {σ : L2.St} {H : Hp} {μ : List Addr}
/-- an object of ours comes under the tracked ones, the other one is let go -/
theorem inv_adopt {a kS : Addr} {ys : List V} {out : List Value} {h' : Heap} {c tk : Nat} (I : Inv X pins σ H s) (fa : FpOk X pins H a) (fk : FpOk X pins H kS) (k : ∀ b o, b ≠ a → b ≠ kS → s.heap.get? b = some o → h'.get? b = some o)
    (hd : h'.get? a = some (seqObj "list" out.toArray c)) (r : Vals ys out) (hz : ys.length ≤ sizeLine) : Inv X pins σ (L2.upd H a (.lst ys)) { s with heap := h', toks := tk } := by
  obtain ⟨a0, a1, a2, a3, a4, a5⟩ := fa
  obtain ⟨k0, k1, k2, k3, k4, k5⟩ := fk
  have na : ∀ b u, H b = some u → b ≠ a := fun b u e z => by rw [z, a0] at e; cases e
  have nk : ∀ b u, H b = some u → b ≠ kS := fun b u e z => by rw [z, k0] at e; cases e
  have kc : ∀ b o, b ∉ [a, kS] → s.heap.get? b = some o → h'.get? b = some o := fun b o hb e => k b o (fun z => hb (by simp [z])) (fun z => hb (by simp [z])) e
  refine I.step (g' := s.gens) (d' := s.drawn) (ch := [a, kS]) (fun b hb => ?_) (fun b o _ _ hc e _ => kc b o hc e) (fun b o _ _ hc e _ => ⟨o.slots, kc b o hc e⟩) (fun b o hc e n => ?_)
    (fun b o hc e => ⟨o, kc b o hc e⟩) (fun b xs e => ?_) (fun b o u e => ?_) (fun b ps e => ⟨#[], ?_⟩) (fun m hm => ?_) (fun b u e => ?_) I.bare
  · have e : b = a ∨ b = kS := by simpa using hb
    rcases e with rfl | rfl
    · exact ⟨a3, a1, a4, a5⟩
    · exact ⟨k3, k1, k4, k5⟩
  · rw [upd_ne (fun z => hc (by simp [z]))]; exact n
  · rw [upd_ne (na b _ e)]; exact e
  · rw [upd_ne (na b _ e)]; exact e
  · rw [upd_ne (na b _ e), e]; simp
  · obtain ⟨o, es, ep, ho, rr⟩ := hm
    exact ⟨o, es, ep, k _ o (Ne.symm a1) (Ne.symm k1) ho, rr⟩
  · by_cases hb : b = a
    · subst hb
      rw [upd_same] at e
      cases e
      exact ⟨hz, out, c, r, hd⟩
    · rw [upd_ne hb] at e
      refine (I.hok b u e).stay (fun d v hd' q => ?_) (fun d q => by rw [upd_ne (na d _ q)]; exact q) fun d xs q => by rw [upd_ne (na d _ q)]; exact q
      rcases hd' with z | z
      · rw [z] at q ⊢; exact k b v (na b u e) (nk b u e) q
      · exact k d v (na d _ z) (nk d _ z) q
/-- the call of a key -/
def KeyT (X : Cx) (T : List (Addr × Str)) (σ : L2.St) (μ : List Addr) (H : Hp) (q : Addr) (g : PV → Hv → R PV) (p0 : List (Addr × Obj)) : Prop :=
  ∀ (pins : List (Addr × Obj)), (∀ p ∈ p0, p ∈ pins) → ∀ (s : Shared) (H1 : Hp) (μ1 : List Addr) (hp : Hv) (z : V) (v : Value) (x r : PV) (hp' : Hv) (Q : VK), Inv X pins σ H1 s → Ext μ H μ1 H1 → HRx X T μ1 H1 hp → RelV z v → VR X.K μ1 H1 z x → g x hp = .ok (r, hp') → Pst X T μ1 H1 hp' r Q →
    wpAny (model X.prog X.w) X.A.in1.in1 (call (.ref q) [v]) (EP X pins σ Q) (fun _ _ => False) s
theorem keysOk_inv {ks : List PV} (h : keysOk ks = true) : (∀ k ∈ ks, keyOk k = true) ∧ ∀ a ∈ ks, ∀ b ∈ ks, alk a b = true := by
  unfold keysOk at h
  rw [List.all_eq_true] at h
  refine ⟨fun k hk => ?_, fun a ha b hb => ?_⟩
  · have := h k hk; rw [Bool.and_eq_true] at this; exact this.1
  · have := h a ha; rw [Bool.and_eq_true, List.all_eq_true] at this; exact this.2 b hb
theorem keyOk_fit {k : PV} (h : keyOk k = true) : PV.fit k = true ∧ k ≠ .non := by
  unfold keyOk at h
  split at h
  · exact ⟨h, fun e => nomatch e⟩
  · exact ⟨by unfold PV.fit; simp [PV.pure, depth], fun e => nomatch e⟩
  · exact ⟨by unfold PV.fit; simp [PV.pure, depth], fun e => nomatch e⟩
  · cases h
theorem keys_alike {ks : List PV} (h : keysOk ks = true) : PySem.W.AllAlike (ks.map toD) := by
  obtain ⟨h1, h2⟩ := keysOk_inv h
  intro d hd e he
  obtain ⟨a, ha, rfl⟩ := List.mem_map.mp hd
  obtain ⟨b, hb, rfl⟩ := List.mem_map.mp he
  rw [alk_toD a b (fit_inv (keyOk_fit (h1 a ha)).1).1 (fit_inv (keyOk_fit (h1 b hb)).1).1]
  exact h2 a ha b hb
theorem keys_sortable {ks : List PV} (h : keysOk ks = true) : PySem.W.Sortable (ks.map toD) := by
  obtain ⟨h1, h2⟩ := keysOk_inv h
  by_cases ht : ∃ xs, PV.tup xs ∈ ks
  · obtain ⟨xs, hx⟩ := ht
    refine .inl fun d hd => ?_
    obtain ⟨a, ha, rfl⟩ := List.mem_map.mp hd
    have al := h2 _ hx a ha
    have ka := h1 a ha
    cases a with
    | tup ys =>
      cases ys with
      | nil => simp [keyOk] at ka
      | cons y ys => exact ⟨toD y, toDs ys, rfl⟩
    | non => cases ka
    | bl b => cases ka
    | int i => simp [alk] at al
    | str z => simp [alk] at al
    | ref l => cases ka
    | fl l => cases ka
  · refine .inr fun d hd => ?_
    obtain ⟨a, ha, rfl⟩ := List.mem_map.mp hd
    have ka := h1 a ha
    cases a with
    | tup ys => exact (ht ⟨ys, ha⟩).elim
    | non => cases ka
    | bl b => cases ka
    | int i => exact ⟨(fun e => nomatch e), fun xs e => nomatch e⟩
    | str z => exact ⟨(fun e => nomatch e), fun xs e => nomatch e⟩
    | ref l => cases ka
    | fl l => cases ka
theorem keys_reads {ks : List PV} : ∀ {zs : List V}, VRs X.K μ H zs ks → ∀ {us : List Value}, Inv X pins σ H s → Vals zs us → (∀ k ∈ ks, keyOk k = true) → PySem.W.EachIs (fun v d => ∃ as, Reads s.heap v d as) us (ks.map toD) := by
  induction ks with
  | nil =>
    intro zs r us I rv _
    cases r
    cases rv
    exact .nil
  | cons k ks ih =>
    intro zs r us I rv h
    cases r with
    | cons a r =>
      cases rv with
      | cons ra rr =>
        exact .cons (reads_of I a (fit_inv (keyOk_fit (h k List.mem_cons_self)).1).1 ra) (ih r I rr fun k' hk => h k' (List.mem_cons_of_mem _ hk))
theorem each_zip : ∀ {xs : List PV} {zs : List V}, VRs X.K μ H zs xs → ∀ {vs : List Value}, Vals zs vs → ∀ {ks : List PV}, ks.length = xs.length → PySem.W.EachIs (fun (v : Value) (p : PV × PV) => ∃ z, RelV z v ∧ VR X.K μ H z p.2) vs (ks.zip xs)
  | _, _, .nil, _, .nil, [], _ => .nil
  | _, _, .nil, _, .nil, _ :: _, h => by cases h
  | _, _, .cons a r, _, .cons ra rr, [], h => by cases h
  | _, _, .cons a r, _, .cons ra rr, k :: ks, h => .cons ⟨_, ra, a⟩ (each_zip r rr (Nat.succ.inj h))
theorem each_vals : ∀ {out : List Value} {l : List (PV × PV)}, PySem.W.EachIs (fun (v : Value) (p : PV × PV) => ∃ z, RelV z v ∧ VR X.K μ H z p.2) out l → ∃ ys, Vals ys out ∧ VRs X.K μ H ys (l.map (·.2))
  | _, _, .nil => ⟨[], .nil, .nil⟩
  | _, _, .cons ⟨z, r, v⟩ t => by
    obtain ⟨ys, h1, h2⟩ := each_vals t
    exact ⟨z :: ys, .cons r h1, .cons v h2⟩
/-- what the sort's loop keeps -/
structure SortSt (X : Cx) (T : List (Addr × Str)) (pins : List (Addr × Obj)) (σ : L2.St) (μ : List Addr) (H : Hp) (g : PV → Hv → R PV) (xs ks : List PV) (h2 : Hv) (a kS : Addr) (e1 : Nat) (i : Nat) (ka : Array Value) (s' : Shared) (μ1 : List Addr) (H1 : Hp) (hp1 : Hv) (kz : List V) (dn rest : List PV) : Prop where
  inv : L2.Inv X pins σ H1 s'
  ext : Ext μ H μ1 H1
  hr : HRx X T μ1 H1 hp1
  fa : FpOk X pins H1 a
  fk : FpOk X pins H1 kS
  atK : ∃ e, s'.heap.get? kS = some (seqObj "list" ka e)
  atA : s'.heap.get? a = some (seqObj "list" #[] e1)
  rv : Vals kz ka.toList
  rk : VRs X.K μ1 H1 kz dn
  eq : ks = dn ++ rest
  len : dn.length = i
  ev : keysG g (xs.drop i) hp1 = .ok (rest, h2)
theorem sorted_ok {p0 : List (Addr × Obj)} {x : Value} {q : Addr} {g : PV → Hv → R PV} {zs : List V} {vs : List Value} {xs ks : List PV} {hp h2 h3 : Hv} {r : PV} {Q : VK} (hu : X.A.units + 200 < cLine) (I : L2.Inv X pins σ H s) (R : HRx X T μ H hp) (rz : Vals zs vs) (rx : VRs X.K μ H zs xs)
    (hcol : ∀ (E' : Value → Shared → Prop) (R : List Value → Shared → Prop), (∀ (h' : Heap) (tk : Nat), (∀ b o, s.heap.get? b = some o → h'.get? b = some o) → R vs { s with heap := h', toks := tk }) → wpAny (model X.prog X.w) X.A.in1 (collect x) R E' s)
    (KT : KeyT X T σ μ H q g p0) (hp0 : ∀ p ∈ p0, p ∈ pins) (hev : keysG g xs hp = .ok (ks, h2)) (hsb : sortBy xs ks h2 = .ok (r, h3)) (post : Pst X T μ H h3 r Q) :
    wpAny (model X.prog X.w) X.A (call (.builtin "sorted") [x] [(Str.ofString "key", .ref q)]) (EP X pins σ Q) X.xe s := by
  unfold sortBy at hsb
  split at hsb
  · rename_i hk
    rw [Bool.and_eq_true, decide_eq_true_eq] at hk
    obtain ⟨hk, hz⟩ := hk
    unfold alloc at hsb
    cases hsb
    have hvl : vs.length = xs.length := by rw [← rz.length, rx.len]
    have hL : vs.length ≤ sizeLine := by rw [hvl, ← line_eq]; exact hz
    refine srt_sorted hL hcol fun E' h' tk hk' => ?_
    have I1 : L2.Inv X pins σ H { s with heap := h', toks := tk } := I.kept hk'
    have ha0 : H h'.objs.size = none := I1.hok.fresh (Nat.le_refl _)
    refine srt_tree (s := { s with heap := h'.push (seqObj "list" vs.toArray 0), toks := tk }) (a := h'.objs.size) (n := 0) (Heap.get?_push_size _ rfl) hL fun e1 hA hK => ?_
    have szp : (h'.push (seqObj "list" vs.toArray 0)).objs.size = h'.objs.size + 1 := size_push' ..
    have gek : h'.objs.size ≤ (h'.push (seqObj "list" vs.toArray 0)).objs.size + 1 := by rw [szp]; omega
    have hk0 : H ((h'.push (seqObj "list" vs.toArray 0)).objs.size + 1) = none := I1.hok.fresh gek
    have nak : h'.objs.size ≠ (h'.push (seqObj "list" vs.toArray 0)).objs.size + 1 := by rw [szp]; omega
    have I2 : L2.Inv X pins σ H { s with heap := PySem.W.sortingHeap (h'.push (seqObj "list" vs.toArray 0)) h'.objs.size vs, toks := tk } :=
      I1.kept fun b o e => PySem.W.sortingHeap_old (Nat.ne_of_lt (Heap.lt_size e)) (Heap.get?_push_of_some _ e)
    have fa : FpOk X pins H h'.objs.size := I1.fpOk (Nat.le_refl _) ha0
    have fk : FpOk X pins H ((h'.push (seqObj "list" vs.toArray 0)).objs.size + 1) := I1.fpOk gek hk0
    generalize (h'.push (seqObj "list" vs.toArray 0)).objs.size + 1 = kS at *
    generalize hAa : h'.objs.size = a at *
    refine srt_rest (St := fun i ka s' => ∃ μ1 H1 hp1 kz dn rest, SortSt X T pins σ μ H g xs ks h2 a kS e1 i ka s' μ1 H1 hp1 kz dn rest) hL ?turn ?done ⟨μ, H, hp, [], [], ks, I2, Ext.refl, R, fa, fk, ⟨0, hK⟩, hA, .nil, .nil, rfl, rfl, hev⟩
    case turn =>
      rintro j v hj ka s' ⟨μ1, H1, hp1, kz, dn, rest, S⟩
      have hsz : ka.size = j := by rw [← Array.length_toList, ← S.rv.length, S.rk.len, S.len]
      refine ⟨hsz, ?_⟩
      have hjx : j < xs.length := by rw [← hvl]; exact (List.getElem?_eq_some_iff.mp hj).1
      have ev := S.ev
      rw [List.drop_eq_getElem_cons hjx] at ev
      unfold keysG at ev
      obtain ⟨k, g1, ek, ev⟩ := PL.thn_some ev
      obtain ⟨ks', g2, ek2, ev⟩ := PL.thn_some ev
      have ev' : k :: ks' = rest ∧ g2 = h2 := by cases ev; exact ⟨rfl, rfl⟩
      obtain ⟨hrest, hg2⟩ := ev'
      subst hg2
      have hjz : j < zs.length := by rw [rx.len]; exact hjx
      obtain ⟨u, hu1, ru⟩ := rz.get (List.getElem?_eq_getElem hjz)
      rw [hj] at hu1
      cases hu1
      obtain ⟨w, hw1, rw1⟩ := (rx.ext S.ext).get (List.getElem?_eq_getElem hjz)
      rw [List.getElem?_eq_getElem hjx] at hw1
      cases hw1
      have fpo : ∀ b ∈ [a, kS], FpOk X pins H1 b := fun b hb => by
        have e : b = a ∨ b = kS := by simpa using hb
        rcases e with rfl | rfl
        · exact S.fa
        · exact S.fk
      obtain ⟨eK, atK⟩ := S.atK
      have obo : ∀ b ∈ [a, kS], ∃ o, s'.heap.get? b = some o ∧ ∀ v, o.data ≠ .cell v := fun b hb => by
        have e : b = a ∨ b = kS := by simpa using hb
        rcases e with rfl | rfl
        · exact ⟨_, S.atA, fun v z => nomatch z⟩
        · exact ⟨_, atK, fun v z => nomatch z⟩
      have Ip := S.inv.pinned fpo obo
      refine wpAny_mono (KT _ (fun p hp => List.mem_append_left _ (hp0 p hp)) s' H1 μ1 hp1 _ v _ k g1 (fun y H'' => ∃ μ', Ext μ1 H1 μ' H'' ∧ HRx X T μ' H'' g1 ∧ VR X.K μ' H'' y k) Ip S.ext S.hr ru rw1 ek fun μ' y H'' x1 R1 r1 => ⟨μ', x1, R1, r1⟩) (fun kv s'' he => ?_) fun _ _ e => e
      obtain ⟨y, H'', I3, ry, μ3, x3, R3, r3⟩ := he
      have pa := I3.pin _ (List.mem_append_right _ (List.mem_append_right _ (mem_pinsAt (b := a) (by simp) S.atA)))
      have pk := I3.pin _ (List.mem_append_right _ (List.mem_append_right _ (mem_pinsAt (b := kS) (by simp) atK)))
      refine ⟨eK, pk.1, fun hN c sb hc => ?_⟩
      have fa3 : FpOk X pins H'' a := ⟨pa.2.1, S.fa.2⟩
      have fk3 : FpOk X pins H'' kS := ⟨pk.2.1, S.fk.2⟩
      obtain ⟨f0, f1, f2, f3, f4, f5⟩ := id fk3
      have I4 : L2.Inv X pins σ H'' { s'' with heap := hN } := I3.unpinned.turned (t' := s''.toks) (fun b o hb e => (sb.2 b hb).trans e) f0 f1 f3 f4 f5
      refine ⟨μ3, H'', g1, kz ++ [y], dn ++ [k], ks', I4, S.ext.trans x3, R3, fa3, fk3, ⟨c, hc⟩, (sb.2 a nak).trans pa.1, ?_, (S.rk.ext x3).snoc r3, by rw [S.eq, ← hrest]; simp, by simp [S.len], ek2⟩
      rw [Array.toList_push]
      exact S.rv.append (.cons ry .nil)
    case done =>
      rintro ka s' ⟨μ1, H1, hp1, kz, dn, rest, S⟩
      refine ⟨S.atK, ?_⟩
      have ev := S.ev
      rw [hvl, List.drop_length] at ev
      unfold keysG at ev
      have hnil : rest = [] ∧ hp1 = h2 := by cases ev; exact ⟨rfl, rfl⟩
      obtain ⟨rfl, rfl⟩ := hnil
      have ekd : ks = dn := by rw [S.eq, List.append_nil]
      subst ekd
      obtain ⟨eK, atK⟩ := S.atK
      have kr := keys_reads S.rk S.inv S.rv (keysOk_inv hk).1
      have hsz : ka.size = vs.length := by rw [← Array.length_toList, ← S.rv.length, S.rk.len, S.len]
      have kp : PySem.W.KeepsBut a (PySem.W.hideAll s'.heap [kS]) s'.heap := fun b o _ e => PySem.W.of_hideAll [kS] e
      refine PySem.W.keyH_end (κ := PySem.W.dataKind s'.heap (ks.map toD)) kp (PySem.W.hideAll_none [kS] (by simp)) atK S.atA (Ne.symm nak) (PySem.W.SortsAt.data kr (keys_alike hk) (keys_sortable hk) fun d hd => ?_) hsz hL fun h4 tk4 c kp4 n4 => ⟨rfl, ?_⟩
      · obtain ⟨k, hk1, rfl⟩ := List.mem_map.mp hd
        rw [depth_toD]
        have := (fit_inv (keyOk_fit ((keysOk_inv hk).1 k hk1)).1).2
        show X.A.units + 1 + 1 + depth k < cLine
        omega
      · have kept : ∀ b o, b ≠ a → b ≠ kS → s'.heap.get? b = some o → h4.get? b = some o := fun b o h1 h2 e => kp4 b o h1 (PySem.W.hideAll_get [kS] e (by simpa using h2))
        have each : PySem.W.EachIs (fun (v : Value) (p : PV × PV) => ∃ z, RelV z v ∧ VR X.K μ1 H1 z p.2) vs (ks.zip xs) := by
          exact each_zip (rx.ext S.ext) rz (by rw [S.len, hvl])
        have hkl : ks.length = xs.length := by rw [S.len, hvl]
        have em : (ks.zip xs).map (fun p : PV × PV => toD p.1) = ks.map toD := by
          rw [show (fun p : PV × PV => toD p.1) = toD ∘ Prod.fst from rfl, ← List.map_map, List.map_fst_zip (by omega)]
        have ko : PySem.W.KeyedOut false ((ks.zip xs).map fun p : PV × PV => toD p.1) vs (PySem.W.sortVals (PySem.W.dataKind s'.heap (ks.map toD)) false ka.toList vs) := by
          rw [em]
          exact ⟨s'.heap, ka.toList, keys_alike hk, rfl, kr⟩
        have out := PySem.W.keyedOut_each (fun p : PV × PV => toD p.1) ko each
        have es : (ks.zip xs).mergeSort (PySem.W.dataLe false fun p : PV × PV => toD p.1) = (ks.zip xs).mergeSort fun a b => !ltv b.1 a.1 := by
          have := List.map_mergeSort (r := PySem.W.dataLe false fun p : PV × PV => toD p.1) (s := fun a b : PV × PV => !ltv b.1 a.1) (f := id) (l := ks.zip xs) fun p hp q hq => ?_
          · simpa using this
          · have hp1 := (List.of_mem_zip hp).1
            have hq1 := (List.of_mem_zip hq).1
            obtain ⟨k1, k2⟩ := keysOk_inv hk
            show (!PySem.W.dataLt (toD q.1) (toD p.1)) = !ltv q.1 p.1
            rw [ltv_toD q.1 p.1 (fit_inv (keyOk_fit (k1 _ hq1)).1).1 (fit_inv (keyOk_fit (k1 _ hp1)).1).1 (k2 _ hq1 _ hp1) (keyOk_fit (k1 _ hq1)).2]
        rw [es] at out
        obtain ⟨ys, ry, vy⟩ := each_vals out
        have hyl : ys.length ≤ sizeLine := by
          rw [vy.len, List.length_map, List.length_mergeSort, List.length_zip]
          omega
        have I5 := inv_adopt (tk := tk4) S.inv S.fa S.fk kept n4 ry hyl
        have q5 : OR X.prog X.w X.K (μ1 ++ [a]) (L2.upd H1 a (.lst ys)) a (.lst (((ks.zip xs).mergeSort fun a b => !ltv b.1 a.1).map (·.2))) := ⟨ys, upd_same, vy.ext (Ext.new S.fa.1)⟩
        exact ⟨.ref a, _, I5, rfl, post _ _ _ (S.ext.trans (Ext.new S.fa.1)) (S.hr.new S.fa.1 q5 (S.hr.nmem S.fa.1)) (.ref (by rw [← S.hr.len]; simp))⟩
  · cases hsb
end
end PL
set_option autoImplicit false
set_option linter.all false
set_option maxRecDepth 20000
set_option maxHeartbeats 1000000
/-! PlSrt3: what is sorted is gathered; the call's syntax. -/
namespace PL
open PySem PySem.Spec PyProof.Rows L2
section
variable {X : Cx} {T : List (Addr × Str)} {pins : List (Addr × Obj)} {s : Shared} {σ : L2.St} {H : Hp} {μ : List Addr} {hp : Hv}
theorem items_at' {h : Hv} {l : Nat} {xs : List PV} (e : items? h (.ref l) = some xs) : h[l]? = some (.lst xs) := by
  dsimp only [items?] at e
  split at e
  · cases e; assumption
  · cases e
theorem ERs.refs : ∀ {raw : RawT} {kvs : List (PV × PV)}, ERs X.K μ H raw kvs → VRs X.K μ H (raw.map fun e => V.ref e.2.1) (kvs.map (·.1))
  | _, _, .nil => .nil
  | _, _, .cons _ b _ _ r => .cons b (ERs.refs r)
theorem vals_refs : ∀ (raw : RawT), Vals (raw.map fun e => V.ref e.2.1) (raw.map fun e => Value.ref e.2.1)
  | [] => .nil
  | e :: r => .cons rfl (vals_refs r)
/-- gathering the keys of a dict -/
theorem col_dict (I : L2.Inv X pins σ H s) (hc : X.calm = true) {a : Addr} {raw : RawT} (hs : (a == sysModules) = false) (hm : s.heap.DictOfH (nestedKind X.prog X.w) a raw) (hl : raw.length ≤ sizeLine) {E' : Value → Shared → Prop} {R : List Value → Shared → Prop}
    (h : ∀ (h' : Heap) (tk : Nat), (∀ b o, s.heap.get? b = some o → h'.get? b = some o) → R (raw.map fun e => Value.ref e.2.1) { s with heap := h', toks := tk }) : wpAny (model X.prog X.w) X.A.in1 (collect (.ref a)) R E' s := by
  obtain ⟨o, es, ep, h1, h2, h3, h4, _, _⟩ := hm
  have hsz : es.size = raw.length := by rw [← Array.length_toList, h4, List.length_map]
  refine PySem.W.kdu_collect (PySem.KdlSrc.rawDict (es := es) (ep := ep) hs) (I.ok.hd hc) ⟨o, h1, h2, h3⟩ (by rw [hsz]; exact hl) fun h' tk acc hk hacc => ?_
  have e : acc.toList = raw.map fun e => Value.ref e.2.1 := by
    refine List.ext_getElem? fun j => ?_
    by_cases hj : j < raw.length
    · have hja : j < acc.size := by rw [hacc.1, hsz]; exact hj
      obtain ⟨hi, hv⟩ := hacc.2 j acc[j] (by rw [Array.getElem?_eq_getElem hja])
      rw [Array.getElem?_toList, Array.getElem?_eq_getElem hja, hv, List.getElem?_map, List.getElem?_eq_getElem hj]
      have : es.toList[j]? = (raw.map (entryOfKey (nestedKind X.prog X.w)))[j]? := by rw [h4]
      rw [Array.getElem?_toList, Array.getElem?_eq_getElem hi, List.getElem?_map, List.getElem?_eq_getElem hj] at this
      rw [Option.some.inj this]
      rfl
    · rw [List.getElem?_eq_none (by rw [Array.length_toList, hacc.1, hsz]; omega), List.getElem?_eq_none (by rw [List.length_map]; omega)]
  rw [e]
  exact h h' tk hk
theorem sorts_at (I : L2.Inv X pins σ H s) (hc : X.calm = true) (R : HRx X T μ H hp) {x : V} {u : Value} {v : PV} {xs : List PV} (rx : RelV x u) (vx : VR X.K μ H x v) (e : sorts hp v = some xs) :
    ∃ zs vs, Vals zs vs ∧ VRs X.K μ H zs xs ∧ ∀ (E' : Value → Shared → Prop) (R : List Value → Shared → Prop), (∀ (h' : Heap) (tk : Nat), (∀ b o, s.heap.get? b = some o → h'.get? b = some o) → R vs { s with heap := h', toks := tk }) → wpAny (model X.prog X.w) X.A.in1 (collect u) R E' s := by
  unfold sorts at e
  split at e
  · rename_i kvs e1
    split at e
    · rename_i hk
      cases e
      obtain ⟨a, o, rfl, rd, d⟩ := R.dict_at vx e1
      cases rx
      rcases d with ⟨raw, rfl, er, hz, _⟩ | ⟨fs, rfl, er⟩
      · obtain ⟨h1, h2⟩ := dictT_of I rd er
        exact ⟨_, _, vals_refs raw, er.refs, fun E' R' h => col_dict I hc h1 h2 hz h⟩
      · have : kvs = [] := by
          cases kvs with
          | nil => rfl
          | cons p r =>
            rw [List.all_cons, Bool.and_eq_true] at hk
            exact (tup_not_flat hk.1 (er.keys p List.mem_cons_self)).elim
        subst this
        cases er
        obtain ⟨h1, h2⟩ := dk_emptyH I rd
        exact ⟨[], [], .nil, .nil, fun E' R' h => col_dict I hc (raw := []) h1 h2 (Nat.zero_le _) h⟩
    · cases e
  · cases v with
    | tup ys =>
      cases e
      obtain ⟨a, zs, rfl, hq, rz⟩ := vx.tup_inv
      cases rx
      obtain ⟨its, rv, ⟨o, ho, hcl, n, hd⟩, hz⟩ := I.tuple hq
      refine ⟨zs, its, rv, rz, fun E' R' h => ?_⟩
      exact wpAny_collect_seq a (.inr rfl) ho hcl hd (fun h' hk => by simpa using h h' s.toks hk) (by rw [List.size_toArray, ← rv.length]; exact hz)
    | ref l =>
      obtain ⟨a, rfl, ha⟩ := vx.ref_inv
      cases rx
      obtain ⟨zs, h1, rz⟩ := R.lst_at ha (items_at' e)
      obtain ⟨its, rv, ⟨o, n, ho, hcl, _, hd⟩, hz⟩ := I.list (.of h1)
      refine ⟨zs, its, rv, rz, fun E' R' h => ?_⟩
      exact wpAny_collect_seq a (.inl rfl) ho hcl hd (fun h' hk => by simpa using h h' s.toks hk) (by rw [List.size_toArray, ← rv.length]; exact hz)
    | non => cases e
    | bl b => cases e
    | int b => cases e
    | str b => cases e
    | fl b => cases e
end
end PL
set_option autoImplicit false
set_option linter.all false
set_option maxRecDepth 20000
set_option maxHeartbeats 1000000
/-! PlSrt4: sorted(x, key=f), f a def. -/
namespace PL
open PySem PySem.Spec PyProof.Rows L2
section
variable {X : Cx} {T : List (Addr × Str)} {F : Fun} {σ : L2.St} {H : Hp} {μ : List Addr}
theorem keyT_def {r f : Nat} {a : Addr} (G : FnG X.prog X.w X.K X.mg X.base T F r f a) (hr : Room (r + 2) X.A) (hg : X.A.guards = some []) : KeyT X T σ μ H a (fun x h => F f [x] h) [] := by
  intro pins _ s H1 μ1 hp z v x r' hp' Q I x1 R rz vx ev post
  refine wpAny_call (codeAny_mono (G X.A.in1.in1 X.stack s H1 [v] [z] Q hr.in1.in1 hg I.env0.in1.in1 (.cons rz .nil) ⟨μ1, hp, [x], r', hp', R, .cons vx .nil, ev, post⟩) fun r s' hq => ?_)
  cases r with
  | error e => exact (show False from hq).elim
  | ok fl =>
    cases fl with
    | ret u => exact I.after hq
    | next => exact False.elim hq
    | brk => exact False.elim hq
    | cont => exact False.elim hq
def rSrt (X : Cx) (T : List (Addr × Str)) (g : PV → Hv → R PV) (a : Addr) : List V → List V → Hp → VK → Prop := fun xs zs H Q => ∃ μ hp x v xs' ks h2 r h3, xs = [x] ∧ zs = [V.ref a] ∧ HRx X T μ H hp ∧ VR X.K μ H x v ∧ sorts hp v = some xs' ∧ keysG g xs' hp = .ok (ks, h2) ∧ sortBy xs' ks h2 = .ok (r, h3) ∧ Pst X T μ H h3 r Q
theorem cr_srt {g : PV → Hv → R PV} {a : Addr} (hu : X.A.units + 200 < cLine) (hc : X.calm = true) (KT : ∀ σ μ H, KeyT X T σ μ H a g []) : CallRK X (.builtin "sorted") [Str.ofString "key"] (rSrt X T g a) := by
  intro pins s σ H xs zs us ws Q I rx rz h
  obtain ⟨μ, hp, x, v, xs', ks, h2, r, h3, rfl, rfl, R, vx, e1, e2, e3, post⟩ := h
  obtain ⟨u, rfl, ru⟩ := vals1 rx
  obtain ⟨w', rfl, rw'⟩ := vals1 rz
  cases rw'
  obtain ⟨zs', vs, q1, q2, q3⟩ := sorts_at I hc R ru vx e1
  exact sorted_ok hu I R q1 q2 q3 (KT σ μ H) (fun _ h => nomatch h) e2 e3 post
theorem nE_srt {r f : Nat} {a : Addr} {fx : Str} {e : Expr} {e' : Ex} {p p2 kp pos : Pos} (G : FnG X.prog X.w X.K X.mg X.base T F r f a) (hr : Room (r + 2) X.A) (hgd : X.A.guards = some []) (hc : X.calm = true) (hu : X.A.units + 200 < cLine)
    (hg : Gl X "sorted") (hm : X.mg "sorted" = none) (hg2 : Gl X fx) (hm2 : X.mg fx = some (.ref a)) (hd2 : (fx == ("__debug__" : Str)) = false) (h : PE X e (rE X T F e')) (hs : starEach [e] X.env = (false, eval e X.env) :: starEach [] X.env) :
    PE X (.Call (.Name "sorted" p) [e] [⟨some "key", .Name fx p2, kp⟩] pos) (rE X T F (.srt e' f)) := by
  refine pe_imp (pe_callBK (cr_srt (T := T) (g := fun x h => F f [x] h) hu hc fun σ μ H => keyT_def G hr hgd) hg hm (by decide +kernel) (pa_cons h pa_nil hs) (pk_cons (pe_glob (v := .ref a) hg2 hm2 rfl hd2) pk_nil) (by decide) (by decide) (by rw [hs]; rfl) (by rw [hs]; rfl)) fun σ H Q h => ?_
  obtain ⟨μ, env, hp, v, hp', R, E, ev, post⟩ := h
  unfold evE at ev
  obtain ⟨v1, g1, e1, ev⟩ := PL.thn_some ev
  split at ev
  · rename_i xs hx
    obtain ⟨ks, g2, e2, ev⟩ := PL.thn_some ev
    exact ⟨μ, env, hp, v1, g1, R, E, e1, fun μ1 x1 H1 x R1 r1 => ⟨μ1, g1, x1, v1, xs, ks, g2, v, hp', rfl, rfl, R1, r1, hx, e2, ev, post.tr x⟩⟩
  · cases ev
end
end PL
set_option autoImplicit false
set_option linter.all false
set_option maxRecDepth 20000
set_option maxHeartbeats 1000000
/-! PlLam: sorted(x, key=lambda y: ..). -/
namespace PL
open PySem PySem.Spec PyProof.Rows L2
/-- one parameter, no other name of its own -/
structure LamS1 (N : List Str) (sc scope : Scope) (y : Str) (i : Nat) : Prop where
  kind : scope.kind = .function
  co : scope.isCoroutine = false
  gen : scope.isGenerator = false
  loc : scope.names.lookup y = some .local
  own : ∀ n ∈ scope.names, n.2 ≠ .cell ∧ (n.2 = .local → n.1 = y)
  free : ∀ n ∈ scope.names, n.2 = .free → (sc.names.lookup n.1 = some .cell ∨ sc.names.lookup n.1 = some .free)
  ix : N[i]? = some y
def lamB1 (N : List Str) (sc scope : Scope) (y : Str) (i : Nat) : Bool :=
  decide (scope.kind = .function) && !scope.isCoroutine && !scope.isGenerator && decide (scope.names.lookup y = some .local) && (scope.names.all fun n => !decide (n.2 = .cell) && (!decide (n.2 = .local) || decide (n.1 = y)) && (!decide (n.2 = .free) || decide (sc.names.lookup n.1 = some .cell) || decide (sc.names.lookup n.1 = some .free))) && decide (N[i]? = some y)
theorem lam1_by {N : List Str} {sc scope : Scope} {y : Str} {i : Nat} (h : lamB1 N sc scope y i = true) : LamS1 N sc scope y i := by
  unfold lamB1 at h
  simp only [Bool.and_eq_true, Bool.or_eq_true, Bool.not_eq_true', decide_eq_true_eq, decide_eq_false_iff_not, List.all_eq_true] at h
  obtain ⟨⟨⟨⟨⟨h1, h2⟩, h3⟩, h4⟩, h5⟩, h6⟩ := h
  refine ⟨h1, h2, h3, h4, fun n hn => ⟨(h5 n hn).1.1, fun e => ?_⟩, fun n hn e => ?_, h6⟩
  · rcases (h5 n hn).1.2 with z | z
    · exact absurd e z
    · exact z
  · rcases (h5 n hn).2 with (z | z) | z
    · exact absurd e z
    · exact .inl z
    · exact .inr z
section
variable {X : Cx} {pins : List (Addr × Obj)} {σ : L2.St} {H HZ : Hp} {s s1 : Shared}
theorem LamS1.has {scope : Scope} {y : Str} {i : Nat} (L : LamS1 X.N X.env.scope scope y i) (ok : X.Ok) : ∀ n ∈ scope.names, n.2 = .free → ∃ c, X.env.cells.lookup n.1 = some c := fun n hn e => by
  rcases L.free n hn e with k | k
  · exact ok.has _ (.inl k)
  · exact ok.has _ (.inr k)
theorem lam_start1 {A : Around} {outer : List PySem.Env} {E : XK} {scope : Scope} {f c' : Addr} {h₁ : Heap} {tk i : Nat} {y : Str} {z : V} {v : Value} (I : L2.Inv X pins σ H s) (hN : X.N.Nodup) (L : LamS1 X.N X.env.scope scope y i) (e0 : Env0 X.prog X.w X.K X.mg X.base A outer s1 HZ) (hd : A.handled = none)
    (un : Un (frs X.stack) [] H HZ s.heap s1.heap) (rz : RelV z v) (hns : h₁.Ns s1.heap.objs.size fun n => ([(y, v)] : List (Str × Value)).reverse.lookup n) (kp : ∀ b o, s1.heap.get? b = some o → h₁.get? b = some o) :
    L2.Inv (LamX.lamCx X A outer s1 HZ E scope f c') [] (σ.set i (some z)) HZ { s1 with heap := h₁, toks := tk } := by
  have hfree := L.has I.ok
  have cm : ∀ {y c}, (cloFrom X.env.cells scope.names []).lookup y = some c → X.env.cells.lookup y = some c := fun {y c} e => by
    rcases cloFrom_mem (PySem.mem_of_lookup e) with hm | ⟨h1, h2⟩
    · cases hm
    · obtain ⟨c1, hc⟩ := hfree _ h1 rfl
      have hc : X.env.cells.lookup y = some c1 := hc
      have e2 : c = c1 := by
        rw [h2, hc] <;> rfl
      rw [e2]
      exact hc
  have look : ∀ {y}, scope.names.lookup y = some .free → ∃ c, (cloFrom X.env.cells scope.names []).lookup y = some c := fun {y} hl => by
    have hy : (y, NameKind.free) ∈ scope.names := PySem.mem_of_lookup hl
    exact mem_lookup (cloFrom_has (cells := X.env.cells) (acc := []) hy)
  have cellK : ∀ {c : Addr} {v : Option Value}, H c = none → s.heap.IsCell c v → h₁.IsCell c v := fun {c v} n ⟨o, ho, hd⟩ => by
    obtain ⟨sl, q⟩ := un.any ho n (by simp)
    exact ⟨_, kp _ _ q, hd⟩
  have noA : ∀ b : Addr, b ∉ (LamX.lamCx X A outer s1 HZ E scope f c').ex := fun b z => absurd (show b ∈ ([] : List Addr) from z) (by simp)
  refine ⟨⟨e0.mod, L.kind, rfl, rfl, Nat.le_refl _, fun y z c e1 e2 => I.ok.inj y z c (cm e1) (cm e2), fun y hy => ?_, fun y c z _ => ?_, fun _ => hd, Around.frames_deeper e0.frames, .inr ⟨rfl, rfl⟩, fun b z => absurd z (noA b), e0.bs, e0.bsz, fun b _ _ => noA b,
      fun b z => absurd z (noA b), e0.funs, e0.frf⟩,
    rfl, e0.bare, Un.kept kp, ⟨_, hns, fun j n u e1 e2 e3 => ?_⟩, fun y c e => ?_, e0.hok.fresh (Nat.le_refl _), fun y c e => ?_, fun q hq => absurd (show q ∈ ([] : List (Addr × Obj)) ++ [] from hq) (by simp), e0.hok.kept kp, by rw [List.length_set]; exact I.len⟩
  · have hy : scope.names.lookup y = some .cell ∨ scope.names.lookup y = some .free := hy
    rcases hy with hy | hy
    · exact absurd rfl (L.own _ (PySem.mem_of_lookup hy)).1
    · exact look hy
  · have z : false = true := z
    cases z
  · have e1 : X.N[j]? = some n := e1
    have e3 : Vis scope n := e3
    rcases e3 with k | k | k
    · have hn : n = y := (L.own _ (PySem.mem_of_lookup k)).2 rfl
      subst hn
      have hij : j = i := nodup_ix hN e1 L.ix
      subst hij
      have hl : j < σ.length := by rw [I.len]; exact (List.getElem?_eq_some_iff.mp e1).1
      rw [List.getElem?_set_self hl] at e2
      cases e2
      exact ⟨v, rz, .inl ⟨k, by simp⟩⟩
    · exact absurd rfl (L.own _ (PySem.mem_of_lookup k)).1
    · have hij : i ≠ j := fun z => by
        subst z
        have : n = y := Option.some.inj (e1.symm.trans L.ix)
        rw [this, L.loc] at k
        cases k
      rw [List.getElem?_set_ne hij] at e2
      obtain ⟨m, hn, hl⟩ := I.loc
      have hvis : Vis X.env.scope n := (L.free _ (PySem.mem_of_lookup k) rfl).elim (fun k => .inr (.inl k)) (fun k => .inr (.inr k))
      obtain ⟨w', r, q⟩ := hl j n u e1 e2 hvis
      obtain ⟨c2, h2⟩ := look k
      refine ⟨w', r, .inr ⟨.inr k, c2, h2, ?_⟩⟩
      have c1 := cm h2
      rcases q with ⟨k', _⟩ | ⟨_, c3, e', z⟩
      · have k' : X.env.scope.names.lookup n = some .local := k'
        rcases L.free _ (PySem.mem_of_lookup k) rfl with k2 | k2 <;> rw [show X.env.scope.names.lookup n = _ from k2] at k' <;> cases k'
      · rw [c1] at e'
        cases e'
        exact cellK (I.freeC n _ c1) z
  · obtain ⟨w', z⟩ := I.cell y c (cm e)
    exact ⟨w', cellK (I.freeC y c (cm e)) z⟩
  · obtain ⟨v, o, ho, hd⟩ := I.cell y c (cm e)
    exact un.free c o ho (I.freeC y c (cm e)) (by simp)
end
end PL
set_option autoImplicit false
set_option linter.all false
set_option maxRecDepth 20000
set_option maxHeartbeats 1000000
/-! PlLam2: the calls of such a lambda. -/
namespace PL
open PySem PySem.Spec PyProof.Rows L2
abbrev lamObj (X : Cx) (params : Arguments) (body : Expr) (scope : Scope) (pm : Value) (c' : Addr) (ctv : Value) : Obj :=
  PySem.W.kla_obj "<lambda>" (X.env.qual ++ "<lambda>") params body scope (cloFrom X.env.cells scope.names []) pm c' ctv
section
variable {X : Cx} {T : List (Addr × Str)} {F : Fun} {σ : L2.St} {H : Hp} {μ : List Addr}
theorem keyT_lam {f c' : Addr} {i : Nat} {y : Str} {env : Env} {el : Ex} {params : Arguments} {body : Expr} {scope : Scope} {pm ctv : Value} {k : Nat} (hN : X.N.Nodup) (L : LamS1 X.N X.env.scope scope y i) (hr : Room (k + 3) X.A) (hcalm : X.calm = true)
    (E0 : ERL X.K μ H env σ) (hco : H c' = some (LamX.CodeO c' (X.env.qual ++ "<lambda>"))) (hcm : c' ∉ μ)
    (hbind : ∀ v : Value, bindArgs (PySem.W.kla_fn "<lambda>" (X.env.qual ++ "<lambda>") params body scope (cloFrom X.env.cells scope.names []) pm (.ref c') ctv) ⟨[v], []⟩ = pure [(y, v)])
    (hbody : ∀ (A : Around) (outer : List PySem.Env) (s : Shared) (H : Hp), A.guards = X.A.guards → Room k (A.deeper (LamX.lamEnv X scope s.heap.objs.size f c')) → PE (LamX.lamCx X A outer s H C8.E0 scope f c').nox body (rE X T F el)) :
    KeyT X T σ μ H f (fun x h => PL.thn (evE F el (env.set i (some x)) h) fun y h1 => .ok (gcR y h h1)) [(f, lamObj X params body scope pm c' ctv)] := by
  intro pins hp0 s H1 μ1 hp z v x r' hp' Q I x1 R rz vx ev post
  have of1 : s.heap.get? f = some (lamObj X params body scope pm c' ctv) := (I.pin _ (List.mem_append_right _ (hp0 _ List.mem_cons_self))).1
  have hc1 : H1 c' = some (LamX.CodeO c' (X.env.qual ++ "<lambda>")) := x1.all c' _ hco hcm LamX.codeO_ne
  obtain ⟨⟨oc, vs, t, hoc, hdc, hvc⟩, _, _⟩ := I.hok c' _ hc1
  have hr2 : Room (k + 1) X.A.in1.in1 := Room.in1 (Room.in1 hr)
  obtain ⟨v1, g1, e1, ev⟩ := PL.thn_some ev
  have rc : codeAny (model X.prog X.w) X.A.in1.in1 (.call (.ref f) ⟨[v], []⟩) (CR C8.CX0 X.stack X.prog X.w H1 s Q C8.E0) s := by
    refine PySem.W.kla_callFunE hr2.depth of1 rfl L.co L.gen rfl ⟨c', oc, vs, t, rfl, hoc, hdc, hvc⟩ ?_
    rw [hbind]
    refine wpAny_pure (wpAny_newFunctionEnv (fun n hn => (L.own n hn).1) (fun n hn => ?_) (fun h₁ hns hsb => ⟨I.nolimit.fresh _ hsb, ?_⟩) L.kind)
    · rw [List.mem_singleton.mp hn]; exact L.loc
    · show codeAny _ _ (.expr body (LamX.lamEnv X scope s.heap.objs.size f c')) _ _
      have kp : ∀ b o, s.heap.get? b = some o → h₁.get? b = some o := fun b o e => hsb.extBut b o (Nat.ne_of_lt (Heap.lt_size e)) (Heap.get?_push_of_some _ e)
      have J : L2.Inv (LamX.lamCx X X.A.in1.in1 X.stack s H1 C8.E0 scope f c') [] (σ.set i (some z)) H1 { s with heap := h₁, toks := s.toks + ([(y, v)] : List (Str × Value)).length } :=
        lam_start1 I hN L I.env0.in1.in1 hr2.hd Un.refl rz hns kp
      refine PySem.W.kla_codeExpr (wpAny_mono ((hbody X.A.in1.in1 X.stack s H1 rfl (hr2.deeper _)).run [] _ _ H1 Q (J.wish _) ⟨μ1, env.set i (some x), hp, v1, g1, R, (E0.ext x1).set vx, e1, ?_⟩) (fun u s' hq => ?_) fun e s' hq => hq.elim)
      · intro μ2 y2 H2 x2 R2 r2
        have ev : gcR v1 hp g1 = (r', hp') := Except.ok.inj ev
        obtain ⟨μ3, x3, R3, r3⟩ := gcR_ok R x2 R2 r2
        rw [ev] at R3 r3
        exact post μ3 _ H2 x3 R3 r3
      · obtain ⟨w', H', J', rv, q⟩ := hq
        exact ⟨w', H', J'.os, J'.bare, J'.base, J'.hok, rv, q⟩
  refine wpAny_call (codeAny_mono rc fun r s' hq => ?_)
  cases r with
  | error e => exact (show False from hq).elim
  | ok fl =>
    cases fl with
    | ret u => exact I.after hq
    | next => exact False.elim hq
    | brk => exact False.elim hq
    | cont => exact False.elim hq
end
end PL
set_option autoImplicit false
set_option linter.all false
set_option maxRecDepth 20000
set_option maxHeartbeats 1000000
/-! PlLam3: the lambda is made; the heap behind it. -/
namespace PL
open PySem PySem.Spec PyProof.Rows L2
section
variable {X : Cx} {pins : List (Addr × Obj)} {σ : L2.St} {H : Hp} {s : Shared}
/-- as LamX.lam_make2 has it, and no place is lost -/
theorem lam_make3 {T : List (Addr × Str)} {c P : Addr} {params : Arguments} {body : Expr} {scope : Scope} {pos : Pos} {E : Value → Shared → Prop} {Q : Value → Shared → Prop} (I : L2.Inv X pins σ H s) (TB : LamX.TabB X.base X.mg c P) (hcode : X.env.code = .ref c)
    (hm : (P, X.env.qual ++ "<lambda>") ∈ T) (hu : ∀ p ∈ T, p.1 = P → p.2 = X.env.qual ++ "<lambda>") (hT : LamX.Tabs T H) (hdef : defaultsOf params X.env = ([], [])) (hfree : ∀ y ∈ scope.names, y.2 = .free → ∃ c, X.env.cells.lookup y.1 = some c)
    (h : ∀ (f c' : Addr) (pm ctv : Value) (H1 : Hp) (s' : Shared), L2.Inv X pins σ H1 s' → LamX.ExtN H H1 → (∀ b o, H b = some o → ∃ o', H1 b = some o') → LamX.Tabs T H1 →
      s'.heap.get? f = some (lamObj X params body scope pm c' ctv) → FpOk X pins H1 f → (H c' = none ∨ H c' = some (LamX.CodeO c' (X.env.qual ++ "<lambda>"))) → H1 c' = some (LamX.CodeO c' (X.env.qual ++ "<lambda>")) → Q (.ref f) s') :
    wpAny (model X.prog X.w) X.A (eval (.Lambda params body scope pos) X.env) Q E s := by
  obtain ⟨ps, hP, ht, ha⟩ := hT _ hm
  refine PySem.W.kla_eval hdef ?_
  have bP : s.heap.BuiltinsAt X.mg P := TB.bm.keeps I.bk
  have hP' : s.heap.get? P = some { cls := .none, data := .fields ps } := I.hok P _ hP
  cases hc : codeAmong pos ps.toList with
  | none =>
    refine PySem.W.kla_makeFunction (mg := X.mg) (c := c) (P := P) (ps := ps) (closure_ok hfree) I.ok.glob (I.mod.glob.keeps I.bk) hcode (TB.code.keeps I.bk) hP' ht hc TB.gP bP fun c' ctv h' tk hx hge hlt hrec htb => ?_
    obtain ⟨c2, oc, vs, t, e2, hoc, hd, hv⟩ := hrec
    cases e2
    have hsz : s.heap.objs.size ≤ h'.objs.size := Nat.le_trans hge (Nat.le_of_lt hlt)
    have nC : H c' = none := I.hok.fresh hge
    have I1 := LamX.inv_table (t' := tk) (more := #[rawInt pos.line, rawInt pos.col, .ref c']) (h' := h'.push (lamObj X params body scope ((X.mg "__name__").getD .none) c' ctv)) I hP
      (fun b o hb e => Heap.get?_push_of_some _ (hx b o hb e)) (Heap.get?_push_of_some _ htb) hge ⟨oc, vs, t, Heap.get?_push_of_some _ hoc, hd, hv⟩
    have nPc : P ≠ c' := ne_of_none hP nC
    have hE : LamX.ExtN H (L2.upd (L2.upd H P (.tbl (ps ++ #[rawInt pos.line, rawInt pos.col, .ref c']))) c' (LamX.CodeO c' (X.env.qual ++ "<lambda>"))) := fun b o e n => by
      rw [upd_ne (ne_of_none e nC), upd_ne (fun z => n ps (Option.some.inj (e.symm.trans (by rw [z]; exact hP))))]
      exact e
    have hS : ∀ b o, H b = some o → ∃ o', L2.upd (L2.upd H P (.tbl (ps ++ #[rawInt pos.line, rawInt pos.col, .ref c']))) c' (LamX.CodeO c' (X.env.qual ++ "<lambda>")) b = some o' := fun b o e => by
      rw [upd_ne (ne_of_none e nC)]
      by_cases hb : b = P
      · exact ⟨_, by rw [hb, upd_same]⟩
      · exact ⟨o, by rw [upd_ne hb]; exact e⟩
    have eL : (ps ++ #[rawInt pos.line, rawInt pos.col, .ref c']).toList = ps.toList ++ [rawInt pos.line, rawInt pos.col, .ref c'] := by simp
    refine h h'.objs.size c' ((X.mg "__name__").getD .none) ctv _ _ I1 hE hS (fun p hp => ?_) (Heap.get?_push_size _ rfl) (I.fpOk hsz ?_) (.inl nC) upd_same
    · by_cases hb : p.1 = P
      · rw [hu p hp hb, hb]
        refine ⟨_, by rw [upd_ne nPc, upd_same], by rw [eL]; exact PySem.TriplesOk_snoc _ _ _ _ ht, fun p' cv hcv => ?_⟩
        rw [eL] at hcv
        rcases LamX.among_app _ ht hcv with z | z
        · obtain ⟨c0, e1, e2⟩ := ha p' cv z
          exact ⟨c0, e1, hE _ _ e2 LamX.codeO_ne⟩
        · exact ⟨c', z, upd_same⟩
      · obtain ⟨ps', a1, a2, a3⟩ := hT p hp
        refine ⟨ps', by rw [upd_ne (ne_of_none a1 nC), upd_ne hb]; exact a1, a2, fun p' cv hcv => ?_⟩
        obtain ⟨c0, e1, e2⟩ := a3 p' cv hcv
        exact ⟨c0, e1, hE _ _ e2 LamX.codeO_ne⟩
    · have n1 : h'.objs.size ≠ c' := Nat.ne_of_gt hlt
      have n2 : h'.objs.size ≠ P := Nat.ne_of_gt (Nat.lt_of_lt_of_le (Heap.lt_size hP') hsz)
      rw [upd_ne n1, upd_ne n2]
      exact I.hok.fresh hsz
  | some cv =>
    obtain ⟨c', e, hco⟩ := ha pos cv hc
    subst e
    refine PySem.W.kla_makeFunctionHit (mg := X.mg) (c := c) (P := P) (ps := ps) (closure_ok hfree) I.ok.glob (I.mod.glob.keeps I.bk) hcode (TB.code.keeps I.bk) hP' ht hc bP fun ctv h' tk hx hsz => ?_
    have I1 : L2.Inv X pins σ H { s with heap := h'.push (lamObj X params body scope ((X.mg "__name__").getD .none) c' ctv), toks := tk } := I.kept fun b o e => Heap.get?_push_of_some _ (hx b o e)
    exact h h'.objs.size c' ((X.mg "__name__").getD .none) ctv H _ I1 (LamX.ExtN.refl H) (fun b o e => ⟨o, e⟩) hT (Heap.get?_push_size _ rfl) (I.fpOk hsz (I.hok.fresh hsz)) (.inr hco) hco
end
end PL
set_option autoImplicit false
set_option linter.all false
set_option maxRecDepth 20000
set_option maxHeartbeats 1000000
/-! PlLam4: sorted(x, key=lambda y: ..). -/
namespace PL
open PySem PySem.Spec PyProof.Rows L2
section
variable {P : Program} {w : World} {K : PySem.W.Frag} {μ : List Addr} {H H' : Hp} {T : List (Addr × Str)} {hp : Hv}
theorem ext_tabs (n : LamX.ExtN H H') (t : ∀ b o, H b = some o → ∃ o', H' b = some o') : Ext μ H μ H' :=
  ⟨⟨[], by simp, fun a h => absurd h (by simp)⟩, fun b xs h => n b _ h (fun _ z => nomatch z), fun b o u h => n b _ h (fun _ z => nomatch z), fun b o h _ q => n b o h q, t⟩
theorem DR.ne {a : Addr} {o : HO} {kvs : List (PV × PV)} (h : DR P w K μ H a o kvs) (ps : Array Value) : o ≠ .tbl ps := by
  intro z
  rcases h with ⟨raw, rfl, _⟩ | ⟨fs, rfl, _⟩
  · unfold DictT at z; cases z
  · cases z
theorem HR.tabs (R : HR P w K μ H T hp) (n : LamX.ExtN H H') (t : ∀ b o, H b = some o → ∃ o', H' b = some o') (hT : LamX.Tabs T H') : HR P w K μ H' T hp := by
  refine ⟨fun l o e => ?_, R.nd, R.len, hT⟩
  obtain ⟨a, h1, h2⟩ := R.obj l o e
  refine ⟨a, h1, h2.keep (ext_tabs n t) fun u hu => n a u hu fun ps z => ?_⟩
  subst z
  cases o with
  | lst xs => obtain ⟨ys, h3, _⟩ := h2; rw [hu] at h3; cases h3
  | dct kvs =>
    obtain ⟨o, h3, d⟩ := h2
    rw [hu] at h3
    exact d.ne ps (Option.some.inj h3).symm
  | lkd kvs => obtain ⟨od, o, h3, _⟩ := h2; rw [hu] at h3; cases h3
end
section
variable {X : Cx} {T : List (Addr × Str)} {pins : List (Addr × Obj)} {σ : L2.St} {H : Hp} {s : Shared} {μ : List Addr} {hp : Hv}
/-- a code object is none of the tracked ones -/
theorem code_free (I : L2.Inv X pins σ H s) (R : HRx X T μ H hp) {c : Addr} {q : Str} (h : H c = none ∨ H c = some (LamX.CodeO c q)) : c ∉ μ := by
  intro hm
  obtain ⟨l, hl, e⟩ := List.mem_iff_getElem.mp hm
  have hl' : l < hp.length := by rw [← R.len]; exact hl
  obtain ⟨a, h1, h2⟩ := R.obj l hp[l] (List.getElem?_eq_getElem hl')
  rw [List.getElem?_eq_getElem hl, e] at h1
  cases h1
  cases ho : hp[l] with
  | lst xs =>
    rw [ho] at h2
    obtain ⟨ys, h3, _⟩ := h2
    rcases h with h | h <;> rw [h] at h3 <;> first | (cases h3; done) | (unfold LamX.CodeO at h3; cases h3)
  | dct kvs =>
    rw [ho] at h2
    obtain ⟨o, h3, d⟩ := h2
    rcases h with h | h
    · rw [h] at h3; cases h3
    · rw [h] at h3
      cases h3
      rcases d with ⟨raw, ed, _⟩ | ⟨fs, ed, _⟩
      · have h4 := h
        rw [ed] at h4
        obtain ⟨⟨oc, vs, t, hoc, hdc, hvc⟩, _, _⟩ := I.hok c _ h
        obtain ⟨⟨_, o, es, ep, ho2, hx, hd2, _⟩, _, _⟩ := I.hok c _ h4
        rw [hoc] at ho2
        cases ho2
        rw [hdc] at hd2
        cases hd2
      · unfold LamX.CodeO at ed; cases ed
  | lkd kvs =>
    rw [ho] at h2
    obtain ⟨od, o, h3, _⟩ := h2
    rcases h with h | h <;> rw [h] at h3 <;> first | (cases h3; done) | (unfold LamX.CodeO at h3; cases h3)
end
/-- one parameter, nothing else -/
def par1 (params : Arguments) (y : Str) : Bool := match params with
  | ⟨[], [⟨x, none, _⟩], none, [], [], none, []⟩ => decide (x = "one") && decide (y = "one")
  | _ => false
theorem par1_bind {params : Arguments} {y : Str} (h : par1 params y = true) (q : Str) (body : Expr) (scope : Scope) (cl : List (Str × Addr)) (pm cv ctv : Value) (v : Value) : bindArgs (PySem.W.kla_fn "<lambda>" q params body scope cl pm cv ctv) ⟨[v], []⟩ = pure [(y, v)] := by
  unfold par1 at h
  split at h
  · rw [Bool.and_eq_true, decide_eq_true_eq, decide_eq_true_eq] at h
    obtain ⟨rfl, rfl⟩ := h
    rfl
  · cases h
theorem par1_def {params : Arguments} {y : Str} (h : par1 params y = true) (env : PySem.Env) : defaultsOf params env = ([], []) := by
  unfold par1 at h
  split at h
  · rfl
  · cases h
section
variable {X : Cx} {T : List (Addr × Str)} {F : Fun}
theorem nE_srtL {i k : Nat} {y : Str} {c P : Addr} {e : Expr} {e' el : Ex} {params : Arguments} {body : Expr} {scope : Scope} {p lpos kp pos : Pos} (hN : X.N.Nodup) (L : LamS1 X.N X.env.scope scope y i) (hr : Room (k + 3) X.A) (hc : X.calm = true) (hu : X.A.units + 200 < cLine)
    (hok : ∀ n ∈ scope.names, n.2 = .free → (X.env.scope.names.lookup n.1 = some .cell ∨ X.env.scope.names.lookup n.1 = some .free))
    (hg : Gl X "sorted") (hm : X.mg "sorted" = none) (hp1 : par1 params y = true) (TB : LamX.TabB X.base X.mg c P) (hcode : X.env.code = .ref c) (hmT : (P, X.env.qual ++ "<lambda>") ∈ T) (huT : ∀ p ∈ T, p.1 = P → p.2 = X.env.qual ++ "<lambda>")
    (h : PE X e (rE X T F e')) (hs : starEach [e] X.env = (false, eval e X.env) :: starEach [] X.env)
    (hbody : ∀ (f c' : Addr) (A : Around) (outer : List PySem.Env) (s : Shared) (H : Hp), A.guards = X.A.guards → Room k (A.deeper (LamX.lamEnv X scope s.heap.objs.size f c')) → PE (LamX.lamCx X A outer s H C8.E0 scope f c').nox body (rE X T F el)) :
    PE X (.Call (.Name "sorted" p) [e] [⟨some "key", .Lambda params body scope lpos, kp⟩] pos) (rE X T F (.srtL e' i el)) := by
  refine ⟨fun pins s σ H Q I q => ?_⟩
  obtain ⟨μ, env, hp, v, hp', R, E, ev, post⟩ := q
  unfold evE at ev
  obtain ⟨v1, g1, e1, ev⟩ := PL.thn_some ev
  split at ev
  · rename_i xs hx
    obtain ⟨ks, g2, e2, ev⟩ := PL.thn_some ev
    refine wpAny_Call_Name_kw (ld_blt (u := .builtin "sorted") I hg hm (by decide +kernel) ?_ (by decide) (by decide))
    refine PyProof.Rows.callWith_kw (L2.thn ((pa_cons h pa_nil hs).run pos pins s σ H (fun us H1 => ∃ μ1 x, us = [x] ∧ Ext μ H μ1 H1 ∧ HRx X T μ1 H1 g1 ∧ VR X.K μ1 H1 x v1) I ⟨μ, env, hp, v1, g1, R, E, e1, fun μ1 x1 H1 x R1 r1 => ⟨μ1, x1, rfl, x, R1, r1⟩⟩) fun us s1 ⟨vs, H1, I1, r1, μ1, x, hvs, x1, R1, rx⟩ => ?_) (by rw [hs]; rfl) (by rw [hs]; rfl) (by rfl) (by rfl)
    subst hvs
    show wpAny _ _ (evalAll ((do let v ← eval (.Lambda params body scope lpos) X.env; standAt pos; pure v) :: [])) _ _ s1
    have E1 := E.ext x1
    refine wpAny_evalAll_cons (wpAny_bind (lam_make3 I1 TB hcode hmT huT R1.tab (par1_def hp1 _) (fun n hn hf => ?_) fun f c' pm ctv H2 s2 I2 xN xS T2 of2 fp hc0 hco => wpAny_bind (wpAny_standAt (wpAny_pure (wpAny_evalAll_nil ?_)))))
    · rcases hok n hn hf with k1 | k1
      · exact I1.ok.has _ (.inl k1)
      · exact I1.ok.has _ (.inr k1)
    · show wpAny _ _ (call (.builtin "sorted") us [(Str.ofString "key", .ref f)]) _ _ s2
      have x2 : Ext μ1 H1 μ1 H2 := ext_tabs xN xS
      have R2 : HRx X T μ1 H2 g1 := R1.tabs xN xS T2
      have hcm : c' ∉ μ1 := code_free I1 R1 hc0
      obtain ⟨u, hus, ru⟩ := vals1 r1
      subst hus
      have I3 := I2.pinned (fp := [f]) (fun b hb => by rw [List.mem_singleton.mp hb]; exact fp) (fun b hb => by rw [List.mem_singleton.mp hb]; exact ⟨_, of2, fun v z => nomatch z⟩)
      obtain ⟨zs, vs, q1, q2, q3⟩ := sorts_at I3 hc R2 ru (rx.ext x2) hx
      have KT := keyT_lam (T := T) (F := F) (σ := σ) (μ := μ1) (H := H2) (f := f) (c' := c') (i := i) (y := y) (env := env) (el := el) (params := params) (body := body) (scope := scope) (pm := pm) (ctv := ctv) (k := k) hN L hr hc (E1.ext x2) hco hcm (fun v => par1_bind hp1 _ _ _ _ _ _ _ _) (hbody f c')
      have so := sorted_ok hu I3 R2 q1 q2 q3 KT (fun p hp => by
        rw [List.mem_singleton.mp hp]
        exact List.mem_append_right _ (mem_pinsAt (by simp) of2)) e2 ev (post.tr (x1.trans x2))
      exact L2.thn so fun u s' ⟨w', H', I4, r4, q4⟩ => ⟨w', H', I4.unpinned, r4, q4⟩
  · cases ev
end
end PL
set_option autoImplicit false
set_option linter.all false
set_option maxRecDepth 20000
set_option maxHeartbeats 1000000
/-! PlMat: when an evaluator's term stands for a piece of syntax; then it tells what the piece does. -/
namespace PL
open PySem PySem.Spec PyProof.Rows L2
/-- what is known of the place where a piece stands -/
structure Sta where
  N : List Str
  sc : Scope
  cs : List Str
  C : List (Str × PV)
  M : List Str
  B : List Str
  lam : Bool := false
def Sta.lamS (A : Sta) (scope : Scope) : Sta := { A with sc := scope, cs := [], lam := false }
def Sta.blk (A : Sta) (scope : Scope) : Sta := { A with sc := relS scope A.sc, cs := A.N.filter fun x => scope.names.lookup x == some .cell, lam := false }
def nd (x : Str) : Bool := !(x == ("__debug__" : Str)) && !(x == ("__classdict__" : Str)) && !decide (x = ("__name__" : Str))
def visB (sc : Scope) (x : Str) : Bool := match sc.names.lookup x with
  | some .local => true
  | some .cell => true
  | some .free => true
  | _ => false
def locB (sc : Scope) (x : Str) : Bool := match sc.names.lookup x with
  | some .local => true
  | some .cell => true
  | _ => false
def glB (sc : Scope) (x : Str) : Bool := match sc.names.lookup x with
  | some .globalImplicit => true
  | _ => false
def varB (A : Sta) (i : Nat) (x : Str) : Bool := decide (A.N[i]? = some x) && visB A.sc x && nd x
def putB (A : Sta) (i : Nat) (x : Str) : Bool := decide (A.N[i]? = some x) && locB A.sc x && (A.cs.contains x || decide (A.sc.names.lookup x = some .local))
def gloB (A : Sta) (x : Str) : Bool := glB A.sc x && nd x
def frB (A : Sta) (x : Str) : Bool := gloB A x && A.B.contains x
def plain : Expr → Bool
  | .Starred _ _ => false
  | _ => true
def noSlice : Expr → Bool
  | .Slice _ _ _ _ => false
  | _ => true
def noComp : Expr → Bool
  | .ListComp _ _ _ _ => false
  | .SetComp _ _ _ _ => false
  | .DictComp _ _ _ _ _ => false
  | _ => true
def noSet : Expr → Bool
  | .Set _ _ _ => false
  | _ => true
def noSuper : Expr → Bool
  | .Call _ [] _ _ => false
  | _ => true
def isTup : Expr → Bool
  | .Tuple _ _ _ => true
  | _ => false
def okB (x : List Nat) : Bool := decide (x.length ≤ line) && x.all fun c => decide (c < 0x110000)
def litB (v : PV) (c : Const) : Bool := match v, c with
  | .non, .none => true
  | .bl a, .bool b => a == b
  | .int i, .int j => decide (i = j)
  | .str x, .str y => decide (y = tx x) && okB x
  | _, _ => false
def bltI : Bl → Option (Bool × String)
  | .len => some (false, "len")
  | .abs => some (false, "abs")
  | .ord => some (false, "ord")
  | .sum => some (false, "sum")
  | .min => some (false, "min")
  | .max => some (false, "max")
  | .all => some (false, "all")
  | .any => some (false, "any")
  | .int => some (true, "int")
  | .str => some (true, "str")
  | .tuple => some (true, "tuple")
  | .list => some (true, "list")
  | .repr => some (false, "repr")
  | .dict => some (true, "dict")
  | _ => none
def ownP (A : Sta) (own : List Nat) : List (Str × Nat) := own.map fun i => (A.N.getD i "", i)
def mG (A : Sta) : Tg → Expr → Bool
  | .name i, .Name x _ => putB A i x
  | .tup2 a b, .Tuple [a', b'] _ _ => plain a' && plain b' && mG A a a' && mG A b b'
  | .tup3 a b c, .Tuple [a', b', c'] _ _ => plain a' && plain b' && plain c' && mG A a a' && mG A b b' && mG A c c'
  | _, _ => false
mutual
/-- what can be a test -/
def tB : Ex → Bool
  | .not a => tB a
  | .and es => tBs es
  | .or es => tBs es
  | .ite _ _ _ => false
  | _ => true
def tBs : Exs → Bool
  | .nil => true
  | .cons a as => tB a && tBs as
end
def tBo : OEx → Bool
  | .none => true
  | .some a => tB a
mutual
def mE (A : Sta) : Ex → Expr → Bool
  | .var i, .Name x _ => varB A i x
  | .lit v, .Constant c _ _ => litB v c
  | .glob x v, .Name y _ => decide (x = y) && gloB A y && decide ((x, v) ∈ A.C)
  | .tup es, .Tuple es' _ _ => mEs A es es'
  | .lst es, .List es' _ => mEs A es es'
  | .dct0, .Dict [] [] _ => true
  | .bin o a b, .BinOp a' op b' _ => binM o op && mE A a a' && mE A b b'
  | .neg a, .UnaryOp .USub a' _ => mE A a a'
  | .not a, .UnaryOp .Not a' _ => mE A a a'
  | .and es, .BoolOp .And es' _ => mEs A es es'
  | .or es, .BoolOp .Or es' _ => mEs A es es'
  | .cmp o a b, .Compare a' [op] [b'] _ => cmM o op && mE A a a' && mE A b b' && !behindInMarks op b'
  | .chn o p a b c, .Compare a' [op, op'] [b', c'] _ => cmM o op && cmM p op' && mE A a a' && mE A b b' && mE A c c' && !lastMarks [op, op'] [b', c']
  | .ite c a b, .IfExp c' a' b' _ => tB c && mE A c c' && mE A a a' && mE A b b'
  | .call f es, .Call (.Name x _) es' [] _ => decide (A.M[f]? = some x) && gloB A x && mEs A es es'
  | .blt f es, .Call (.Name x _) es' [] _ => (match bltI f with
      | some (_, id) => decide (x = Str.ofString id)
      | none => false) && frB A x && mEs A es es' && !es'.isEmpty
  | .isi a t, .Call (.Name x _) [a', .Name y _] [] _ => decide (x = "isinstance") && frB A x && decide (y = Str.ofString (tyS t)) && frB A y && plain a' && mE A a a'
  | .mth .append o (.cons a .nil), .Call (.Attribute o' nm ap) [a'] [] cp => decide (nm = "append") && noSuper o' && (ap.endLine == cp.line) && plain a' && mE A o o' && mE A a a'
  | .mth .index o (.cons a .nil), .Call (.Attribute o' nm ap) [a'] [] cp => decide (nm = "index") && noSuper o' && (ap.endLine == cp.line) && plain a' && mE A o o' && mE A a a'
  | .idx a i, .Subscript a' i' _ => noSlice i' && mE A a a' && mE A i i'
  | .slc a lo hi, .Subscript a' (.Slice lo' hi' none _) _ => mE A a a' && mO A lo lo' && mO A hi hi'
  | .comp own t s c e, .ListComp e' [⟨tg, it, ifs, k⟩] scope _ => decide (k = 0) && blkC A.N A.sc scope (ownP A own) && mSrc A s tg it && mG (A.blk scope) t tg && mC (A.blk scope) c ifs && mE (A.blk scope) e e' && (slots t).all (own.contains ·)
  | .srt a f, .Call (.Name x _) [a'] [⟨some k, .Name fx _, _⟩] _ => decide (x = "sorted") && decide (k = "key") && frB A x && decide (A.M[f]? = some fx) && gloB A fx && plain a' && mE A a a'
  | .srtL a i el, .Call (.Name x _) [a'] [⟨some k, .Lambda params body scope _, _⟩] _ => A.lam && decide (x = "sorted") && decide (k = "key") && frB A x && plain a' && par1 params "one" && lamB1 A.N A.sc scope "one" i && mE A a a' && mE (A.lamS scope) el body
  | _, _ => false
def mEs (A : Sta) : Exs → List Expr → Bool
  | .nil, [] => true
  | .cons a as, e :: es => plain e && mE A a e && mEs A as es
  | _, _ => false
def mO (A : Sta) : OEx → Option Expr → Bool
  | .none, none => true
  | .some a, some e => mE A a e
  | _, _ => false
def mC (A : Sta) : OEx → List Expr → Bool
  | .none, [] => true
  | .some a, [e] => tB a && mE A a e
  | _, _ => false
def mSrc (A : Sta) : Src → Expr → Expr → Bool
  | .keys i, _, .Name x _ => varB A i x
  | .rng1 a, _, .Call (.Name x _) [a'] [] _ => decide (x = "range") && frB A x && plain a' && mE A a a'
  | .rng2 a b, _, .Call (.Name x _) [a', b'] [] _ => decide (x = "range") && frB A x && plain a' && plain b' && mE A a a' && mE A b b'
  | .rng3 a b c, _, .Call (.Name x _) [a', b', c'] [] _ => decide (x = "range") && frB A x && plain a' && plain b' && plain c' && mE A a a' && mE A b b' && mE A c c'
  | .enum a, tg, .Call (.Name x _) [a'] [] _ => isTup tg && decide (x = "enumerate") && frB A x && plain a' && mE A a a'
  | .zip a b, tg, .Call (.Name x _) [a', b'] [] _ => isTup tg && decide (x = "zip") && frB A x && plain a' && plain b' && mE A a a' && mE A b b'
  | .val a, _, e => noSet e && mE A a e
  | _, _, _ => false
end
/-- the place is as told -/
structure Gd (A : Sta) (X : Cx) (T : List (Addr × Str)) (F : Fun) (r : Nat) : Prop where
  N : X.N = A.N
  nd : A.N.Nodup
  sc : X.env.scope = A.sc
  fk : A.sc.kind = .function
  fn : ∀ x ∈ A.cs, X.fn x = true
  calm : X.calm = true
  gd : X.A.guards = some []
  rm : Room (r + 2) X.A
  xe : PassesOwn (model X.prog X.w) X.A X.env X.xe
  con : ∀ x v, (x, v) ∈ A.C → ∃ u y, X.mg x = some u ∧ RelV y u ∧ ∀ μ H, VR X.K μ H y v
  fns : ∀ (f : Nat) (x : Str), A.M[f]? = some x → ∃ a, X.mg x = some (.ref a) ∧ PySem.W.keepIn X.K (.ref a) = true ∧ FnG X.prog X.w X.K X.mg X.base T F r f a
  blt : ∀ x ∈ A.B, X.mg x = none
  lm : A.lam = true → Room (r + 5) X.A ∧ ∃ c P, X.env.code = .ref c ∧ LamX.TabB X.base X.mg c P ∧ (P, X.env.qual ++ "<lambda>") ∈ T ∧ ∀ p ∈ T, p.1 = P → p.2 = X.env.qual ++ "<lambda>"
section
variable {X : Cx} {A : Sta} {T : List (Addr × Str)} {F : Fun} {W r : Nat}
theorem Gd.un (g : Gd A X T F r) : X.A.units + 200 < cLine := by have := g.rm.un; omega
theorem Gd.blk (g : Gd A X T F r) (scope : Scope) (hk : scope.kind = .function) (s : Shared) (H : Hp) (C : Addr) (cl : List (Str × Addr)) (fp : List Addr) : Gd (A.blk scope) (X.blk s H scope (compEnvC scope cl C X.env) fp) T F r := by
  refine ⟨g.N, g.nd, ?_, hk, fun x hx => ?_, g.calm, g.gd, g.rm, PassesOwn.never, g.con, g.fns, g.blt, fun z => nomatch z⟩
  · show relS scope X.env.scope = relS scope A.sc
    rw [g.sc]
  · exact (List.mem_filter.mp hx).2
theorem nd_inv {x : Str} (h : nd x = true) : (x == ("__debug__" : Str)) = false ∧ (x == ("__classdict__" : Str)) = false ∧ x ≠ "__name__" := by
  unfold nd at h
  rw [Bool.and_eq_true, Bool.and_eq_true, Bool.not_eq_true', Bool.not_eq_true', Bool.not_eq_true', decide_eq_false_iff_not] at h
  exact ⟨h.1.1, h.1.2, h.2⟩
theorem vis_of (g : Gd A X T F r) {x : Str} (h : visB A.sc x = true) : Vis X.env.scope x := by
  unfold visB at h
  unfold Vis
  rw [g.sc]
  split at h
  · exact .inl (by assumption)
  · exact .inr (.inl (by assumption))
  · exact .inr (.inr (by assumption))
  · cases h
theorem loc_of (g : Gd A X T F r) {x : Str} (h : locB A.sc x = true) : L2.Loc X.env.scope x := by
  unfold locB at h
  unfold L2.Loc
  rw [g.sc]
  split at h
  · exact .inl (by assumption)
  · exact .inr (by assumption)
  · cases h
theorem glo_of (g : Gd A X T F r) {x : Str} (h : gloB A x = true) : Gl X x ∧ (x == ("__debug__" : Str)) = false ∧ x ≠ "__name__" := by
  unfold gloB at h
  rw [Bool.and_eq_true] at h
  obtain ⟨a, _, c⟩ := nd_inv h.2
  refine ⟨?_, a, c⟩
  have h := h.1
  unfold glB at h
  split at h
  · rename_i e
    show X.env.scope.names.lookup x = _
    rw [g.sc]
    exact e
  · cases h
theorem fr_of (g : Gd A X T F r) {x : Str} (h : frB A x = true) : Gl X x ∧ X.mg x = none ∧ (x == ("__debug__" : Str)) = false ∧ x ≠ "__name__" := by
  unfold frB at h
  rw [Bool.and_eq_true] at h
  obtain ⟨a, b, c⟩ := glo_of g h.1
  exact ⟨a, g.blt x (by simpa using h.2), b, c⟩
theorem var_of (g : Gd A X T F r) {i : Nat} {x : Str} (h : varB A i x = true) : X.N[i]? = some x ∧ Vis X.env.scope x ∧ (x == ("__debug__" : Str)) = false ∧ (x == ("__classdict__" : Str)) = false := by
  unfold varB at h
  rw [Bool.and_eq_true, Bool.and_eq_true, decide_eq_true_eq] at h
  obtain ⟨a, b, _⟩ := nd_inv h.2
  exact ⟨by rw [g.N]; exact h.1.1, vis_of g h.1.2, a, b⟩
theorem put_of (g : Gd A X T F r) {i : Nat} {x : Str} (h : putB A i x = true) : X.N[i]? = some x ∧ L2.Loc X.env.scope x ∧ (X.fn x = true ∨ X.env.scope.names.lookup x = some .local) := by
  unfold putB at h
  rw [Bool.and_eq_true, Bool.and_eq_true, decide_eq_true_eq, Bool.or_eq_true, decide_eq_true_eq] at h
  refine ⟨by rw [g.N]; exact h.1.1, loc_of g h.1.2, ?_⟩
  rcases h.2 with h | h
  · exact .inl (g.fn x (by simpa using h))
  · exact .inr (by rw [g.sc]; exact h)
theorem star_cons {e : Expr} (h : plain e = true) (es : List Expr) (env : PySem.Env) : starEach (e :: es) env = (false, eval e env) :: starEach es env := by
  cases e <;> first | rfl | (cases h)
theorem assign_cons {e : Expr} (h : plain e = true) (es : List Expr) (env : PySem.Env) : assignEach (e :: es) env = (false, assign e env) :: assignEach es env := by
  cases e <;> first | rfl | (cases h)
theorem star_plain : ∀ {es : List Expr} {as : Exs} (pos : Pos) (env : PySem.Env), mEs A as es = true → (backTo pos (starEach es env)).any (·.1) = false
  | [], _, _, _, _ => rfl
  | e :: es, .nil, _, _, h => by simp [mEs] at h
  | e :: es, .cons a as, pos, env, h => by
    rw [mEs, Bool.and_eq_true, Bool.and_eq_true] at h
    rw [star_cons h.1.1]
    show (false || (backTo pos (starEach es env)).any (·.1)) = false
    rw [star_plain pos env h.2]; rfl
theorem noSet_of {e : Expr} (h : noSet e = true) (env : PySem.Env) (v : Value) : foldedSetIterable e env v = pure v := by
  cases e <;> first | rfl | (cases h)
theorem noSuper_of {e : Expr} (h : noSuper e = true) (nm : Str) (env : PySem.Env) : attributeBase e nm env (eval e env) = eval e env := by
  cases e <;> try rfl
  rename_i f args kw pos
  cases args with
  | nil => cases h
  | cons a as => cases f <;> rfl
theorem noComp_of {e : Expr} (h : noComp e = true) (t : Option Expr) (l : Nat) (env : PySem.Env) : swapsWith e t l env = pure false := by
  cases e <;> first | rfl | (cases h)
theorem plainIx_of {e : Expr} (h : noSlice e = true) : PlainIx e := by
  intro o i
  cases e <;> first | rfl | (cases h)
theorem bang {b : Bool} (h : (!b) = true) : b = false := by simpa using h
theorem okB_ok {x : List Nat} (h : okB x = true) : okS x := by
  unfold okB at h
  rw [Bool.and_eq_true, decide_eq_true_eq, List.all_eq_true] at h
  exact ⟨by rw [← line_eq]; exact h.1, fun c hc => of_decide_eq_true (h.2 c hc)⟩
theorem lit_of {v : PV} {c : Const} (h : litB v c = true) (k : Nat) (pos : Pos) : ∃ x, PE X (.Constant c k pos) (tC x) ∧ ∀ μ H, VR X.K μ H x v := by
  unfold litB at h
  split at h
  · exact ⟨_, pe_non, fun _ _ => .non⟩
  · have := eq_of_beq h
    subst this
    exact ⟨_, pe_bl, fun _ _ => .bl _⟩
  · have := of_decide_eq_true h
    subst this
    exact ⟨_, pe_int, fun _ _ => .int _⟩
  · rw [Bool.and_eq_true, decide_eq_true_eq] at h
    obtain ⟨rfl, h⟩ := h
    exact ⟨_, pe_str, fun _ _ => .str _ (okB_ok h)⟩
  · cases h
theorem ownP_ix (A : Sta) (own : List Nat) : (ownP A own).map (·.2) = own := by
  unfold ownP
  rw [List.map_map]
  exact List.map_id' own
theorem chk1 {l : Nat} {h : Hv} {o : PL.PO} (e : h[l]? = some o) : chk [l] h h = true := by
  unfold chk
  rw [List.all_cons, e]
  simp [PO.beq_refl]
theorem items_at {h : Hv} {l : Nat} {xs : List PV} (e : items? h (.ref l) = some xs) : h[l]? = some (.lst xs) := by
  dsimp only [items?] at e
  split at e
  · cases e; assumption
  · cases e
theorem nk_of {s : Src} (hs : ∀ i, s ≠ .keys i) : ∀ env hp w hp', evSrc F s env hp = .ok (w, hp') → w.lk = none ∧ chk w.gd hp' hp' = true := by
  intro env hp w hp' e
  cases s with
  | keys i => exact absurd rfl (hs i)
  | val a =>
    unfold evSrc at e
    obtain ⟨v, g, e1, e⟩ := PL.thn_some e
    split at e
    · rename_i w' hw
      cases e
      unfold srcItems at hw
      split at hw
      · cases hw; exact ⟨rfl, rfl⟩
      · cases hw; exact ⟨rfl, rfl⟩
      · split at hw
        · rename_i l xs hx
          cases hw
          exact ⟨rfl, chk1 (items_at hx)⟩
        · cases hw
      · cases hw
    · cases e
  | rng1 a =>
    unfold evSrc at e
    obtain ⟨v, g, e1, e⟩ := PL.thn_some e
    split at e
    · split at e
      · cases e; exact ⟨rfl, rfl⟩
      · cases e
    · cases e
  | rng2 a b =>
    unfold evSrc at e
    obtain ⟨v, g, e1, e⟩ := PL.thn_some e
    obtain ⟨v2, g2, e2, e⟩ := PL.thn_some e
    split at e
    · split at e
      · cases e; exact ⟨rfl, rfl⟩
      · cases e
    · cases e
  | rng3 a b c =>
    unfold evSrc at e
    obtain ⟨v, g, e1, e⟩ := PL.thn_some e
    obtain ⟨v2, g2, e2, e⟩ := PL.thn_some e
    obtain ⟨v3, g3, e3, e⟩ := PL.thn_some e
    split at e
    · split at e
      · cases e; exact ⟨rfl, rfl⟩
      · cases e
    · cases e
  | enum a =>
    unfold evSrc at e
    obtain ⟨v, g, e1, e⟩ := PL.thn_some e
    split at e
    · split at e
      · rename_i l xs hx
        cases e
        exact ⟨rfl, chk1 (items_at hx)⟩
      · cases e
    · cases e
  | zip a b =>
    unfold evSrc at e
    obtain ⟨v, g, e1, e⟩ := PL.thn_some e
    obtain ⟨v2, g2, e2, e⟩ := PL.thn_some e
    split at e
    · split at e
      · rename_i l m xs ys hx hy
        cases e
        refine ⟨rfl, ?_⟩
        unfold chk
        rw [List.all_cons, List.all_cons, items_at hx, items_at hy]
        simp [PO.beq_refl]
      · cases e
    · cases e; exact ⟨rfl, rfl⟩
    · cases e
theorem blt_call (g : Gd A X T F r) {f : Bl} {b : Bool} {id : String} (h : bltI f = some (b, id)) : CallR X (if b then .type id else .builtin id) (rOs X.prog X.w X.K T (evBl f)) := by
  cases f <;> cases h
  · exact cD_len
  · exact cD_abs
  · exact cD_int
  · exact cD_str
  · exact cD_ord
  · exact cD_repr g.un g.gd
  · exact cD_sum g.calm
  · exact cD_min g.un g.calm
  · exact cD_max g.un g.calm
  · exact cD_all g.calm
  · exact cD_any g.calm
  · exact cD_tuple
  · exact cD_list
  · exact cD_dict g.un g.calm
theorem blt_boot {f : Bl} {b : Bool} {id : String} (h : bltI f = some (b, id)) : bootBuiltins (Str.ofString id) = some (if b then .type id else .builtin id) := by
  cases f <;> cases h <;> decide +kernel
theorem ty_boot (t : Ty) : bootBuiltins (Str.ofString (tyS t)) = some (.type (tyS t)) := by cases t <;> decide +kernel
theorem sG : ∀ {t : Tg} {e : Expr}, Gd A X T F r → mG A t e = true → PG X e (rT X T t)
  | .name i, e, g, h => by
    unfold mG at h
    split at h
    · rename_i i' x p z
      cases z
      obtain ⟨a, b, c⟩ := put_of g h
      exact nG_name (by rw [g.N]; exact g.nd) a b c
    · rename_i z; cases z
    · rename_i z; cases z
    · cases h
  | .tup2 a b, e, g, h => by
    unfold mG at h
    split at h
    · rename_i z; cases z
    · rename_i a' b' k p z
      cases z
      simp only [Bool.and_eq_true] at h
      obtain ⟨⟨⟨h1, h2⟩, h3⟩, h4⟩ := h
      exact nG_tup2 g.calm (sG g h3) (sG g h4) (by rw [assign_cons h1, assign_cons h2]; rfl) (by rw [assign_cons h2]; rfl)
    · rename_i z; cases z
    · cases h
  | .tup3 a b c, e, g, h => by
    unfold mG at h
    split at h
    · rename_i z; cases z
    · rename_i z; cases z
    · rename_i a' b' c' k p z
      cases z
      simp only [Bool.and_eq_true] at h
      obtain ⟨⟨⟨⟨⟨h1, h2⟩, h3⟩, h4⟩, h5⟩, h6⟩ := h
      exact nG_tup3 g.calm (sG g h4) (sG g h5) (sG g h6) (by rw [assign_cons h1, assign_cons h2, assign_cons h3]; rfl) (by rw [assign_cons h2, assign_cons h3]; rfl) (by rw [assign_cons h3]; rfl)
    · cases h
end
end PL
set_option autoImplicit false
set_option linter.all false
set_option maxRecDepth 20000
set_option maxHeartbeats 4000000
/-! PlMat2: the expressions, all at once. -/
namespace PL
open PySem PySem.Spec PyProof.Rows L2
section
variable (T : List (Addr × Str)) (F : Fun) (r : Nat)
def SE (n : Nat) : Prop := ∀ (e : Ex), sizeOf e < n → ∀ (A : Sta) (X : Cx) (ex : Expr), Gd A X T F r → mE A e ex = true → PE X ex (rE X T F e) ∧ (tB e = true → PT X ex (rB (rE X T F e)))
def SEs (n : Nat) : Prop := ∀ (es : Exs), sizeOf es < n → ∀ (A : Sta) (X : Cx) (xs : List Expr), Gd A X T F r → mEs A es xs = true →
  PA X xs (rEs X T F es) ∧ (∀ a as, es = .cons a as → ∀ pos, (PE X (.BoolOp .And xs pos) (rAnd X T F es) ∧ PE X (.BoolOp .Or xs pos) (rOr X T F es)) ∧ (tBs es = true → PW X (.BoolOp .And xs pos) (rB (rAnd X T F es)) ∧ PW X (.BoolOp .Or xs pos) (rB (rOr X T F es))))
def SO (n : Nat) : Prop := ∀ (o : OEx), sizeOf o < n → ∀ (A : Sta) (X : Cx), Gd A X T F r → (∀ oe : Option Expr, mO A o oe = true → L2.PO X oe (rO X T F o)) ∧ (∀ ifs : List Expr, mC A o ifs = true → PTs X ifs (rC X T F o))
def SSrc (n : Nat) : Prop := ∀ (s : Src), sizeOf s < n → ∀ (A : Sta) (X : Cx) (tg it : Expr), Gd A X T F r → mSrc A s tg it = true →
  ((∀ i, s ≠ .keys i) → PI X tg it (rSrc X T F s) ∧ ∀ v, foldedSetIterable it X.env v = pure v) ∧ (∀ i, s = .keys i → ∃ x p, it = .Name x p ∧ PI X tg it (rKeys X T i))
end
section
variable {T : List (Addr × Str)} {F : Fun} {r n : Nat}
theorem sO_step (h1 : SE T F r n) : SO T F r (n + 1) := by
  intro o ho A X g
  refine ⟨fun oe h => ?_, fun ifs h => ?_⟩
  · unfold mO at h
    split at h
    · exact nO_none
    · rename_i a e
      exact nO_some (h1 a (by have := OEx.some.sizeOf_spec a; omega) A X e g h).1
    · cases h
  · unfold mC at h
    split at h
    · exact nC_none
    · rename_i a e
      rw [Bool.and_eq_true] at h
      exact nC_some ((h1 a (by have := OEx.some.sizeOf_spec a; omega) A X e g h.2).2 h.1)
    · cases h
theorem sEs_step (h1 : SE T F r n) (h2 : SEs T F r n) : SEs T F r (n + 1) := by
  intro es hs A X xs g h
  unfold mEs at h
  split at h
  · exact ⟨nEs_nil, fun a as e => nomatch e⟩
  · rename_i a as e es
    simp only [Bool.and_eq_true] at h
    obtain ⟨⟨p, ha⟩, hr⟩ := h
    have sz := Exs.cons.sizeOf_spec a as
    have ia := h1 a (by omega) A X e g ha
    have ir := h2 as (by omega) A X es g hr
    refine ⟨nEs_cons ia.1 ir.1 (star_cons p _ _), fun a' as' e' pos => ?_⟩
    cases e'
    cases as with
    | nil =>
      cases es with
      | cons e es => simp [mEs] at hr
      | nil =>
        refine ⟨⟨nAnd_one ia.1, nOr_one ia.1⟩, fun tb => ?_⟩
        unfold tBs at tb
        rw [Bool.and_eq_true] at tb
        exact ⟨wAnd_one (ia.2 tb.1), wOr_one (ia.2 tb.1)⟩
    | cons b bs =>
      cases es with
      | nil => simp [mEs] at hr
      | cons e2 es =>
        obtain ⟨⟨q1, q2⟩, q3⟩ := ir.2 b bs rfl pos
        refine ⟨⟨nAnd_cons ia.1 q1, nOr_cons ia.1 q2⟩, fun tb => ?_⟩
        rw [tBs, Bool.and_eq_true] at tb
        obtain ⟨q4, q5⟩ := q3 tb.2
        exact ⟨wAnd_cons (ia.2 tb.1) q4, wOr_cons (ia.2 tb.1) q5⟩
  · cases h
theorem sSrc_step (h1 : SE T F r n) : SSrc T F r (n + 1) := by
  intro s hs A X tg it g h
  unfold mSrc at h
  split at h
  · rename_i i x p
    obtain ⟨a, b, c, d⟩ := var_of g h
    exact ⟨fun k => absurd rfl (k i), fun j e => by cases e; exact ⟨x, p, rfl, nI_keys a b c d⟩⟩
  · rename_i a x p a' pos
    simp only [Bool.and_eq_true, decide_eq_true_eq] at h
    obtain ⟨⟨⟨rfl, hf⟩, p1⟩, h⟩ := h
    obtain ⟨q1, q2, _⟩ := fr_of g hf
    have sz := Src.rng1.sizeOf_spec a
    exact ⟨fun _ => ⟨nI_rng1 q1 q2 (h1 a (by omega) A X a' g h).1 (star_cons p1 _ _), fun _ => rfl⟩, fun _ e => nomatch e⟩
  · rename_i a b x p a' b' pos
    simp only [Bool.and_eq_true, decide_eq_true_eq] at h
    obtain ⟨⟨⟨⟨⟨rfl, hf⟩, p1⟩, p2⟩, h⟩, h'⟩ := h
    obtain ⟨q1, q2, _⟩ := fr_of g hf
    have sz := Src.rng2.sizeOf_spec a b
    exact ⟨fun _ => ⟨nI_rng2 q1 q2 (h1 a (by omega) A X a' g h).1 (h1 b (by omega) A X b' g h').1 (by rw [star_cons p1, star_cons p2]; rfl) (by rw [star_cons p2]; rfl), fun _ => rfl⟩, fun _ e => nomatch e⟩
  · rename_i a b c x p a' b' c' pos
    simp only [Bool.and_eq_true, decide_eq_true_eq] at h
    obtain ⟨⟨⟨⟨⟨⟨⟨rfl, hf⟩, p1⟩, p2⟩, p3⟩, h⟩, h'⟩, h''⟩ := h
    obtain ⟨q1, q2, _⟩ := fr_of g hf
    have sz := Src.rng3.sizeOf_spec a b c
    exact ⟨fun _ => ⟨nI_rng3 q1 q2 (h1 a (by omega) A X a' g h).1 (h1 b (by omega) A X b' g h').1 (h1 c (by omega) A X c' g h'').1 (star_cons p1 _ _) (star_cons p2 _ _) (star_cons p3 _ _), fun _ => rfl⟩, fun _ e => nomatch e⟩
  · rename_i a x p a' pos
    simp only [Bool.and_eq_true, decide_eq_true_eq] at h
    obtain ⟨⟨⟨⟨ht, rfl⟩, hf⟩, p1⟩, h⟩ := h
    obtain ⟨q1, q2, _⟩ := fr_of g hf
    have sz := Src.enum.sizeOf_spec a
    refine ⟨fun _ => ⟨?_, fun _ => rfl⟩, fun _ e => nomatch e⟩
    cases tg <;> first | (cases ht; done) | skip
    exact nI_enum q1 q2 (h1 a (by omega) A X a' g h).1 (star_cons p1 _ _)
  · rename_i a b x p a' b' pos
    simp only [Bool.and_eq_true, decide_eq_true_eq] at h
    obtain ⟨⟨⟨⟨⟨⟨ht, rfl⟩, hf⟩, p1⟩, p2⟩, h⟩, h'⟩ := h
    obtain ⟨q1, q2, _⟩ := fr_of g hf
    have sz := Src.zip.sizeOf_spec a b
    refine ⟨fun _ => ⟨?_, fun _ => rfl⟩, fun _ e => nomatch e⟩
    cases tg <;> first | (cases ht; done) | skip
    exact nI_zip q1 q2 (h1 a (by omega) A X a' g h).1 (h1 b (by omega) A X b' g h').1 (star_cons p1 _ _) (star_cons p2 _ _)
  · rename_i a
    rw [Bool.and_eq_true] at h
    have sz := Src.val.sizeOf_spec a
    exact ⟨fun _ => ⟨nI_val (h1 a (by omega) A X it g h.2).1, noSet_of h.1 _⟩, fun _ e => nomatch e⟩
  · cases h
theorem sE_step (h1 : SE T F r n) (h2 : SEs T F r n) (h3 : SO T F r n) (h4 : SSrc T F r n) : SE T F r (n + 1) := by
  intro e he A X ex g h
  have pv : ∀ {e : Ex} {ex : Expr}, PE X ex (rE X T F e) → (∀ whole, isTrue ex X.env whole = (do let v ← whole; standAt ex.pos; holding [v] (truthy v))) → PE X ex (rE X T F e) ∧ (tB e = true → PT X ex (rB (rE X T F e))) := fun p q => ⟨p, fun _ => pt_val p q⟩
  unfold mE at h
  split at h
  · -- var
    obtain ⟨a, b, c, d⟩ := var_of g h
    exact pv (nE_var a b c d) fun _ => rfl
  · -- lit
    rename_i v c k pos
    obtain ⟨x, a, b⟩ := lit_of (X := X) h k pos
    exact pv (nE_lit a b) fun _ => rfl
  · -- glob
    rename_i x v y pos
    simp only [Bool.and_eq_true, decide_eq_true_eq] at h
    obtain ⟨⟨rfl, h⟩, hc⟩ := h
    obtain ⟨a, b, c⟩ := glo_of g h
    obtain ⟨u, y, q1, q2, q3⟩ := g.con _ _ hc
    exact pv (nE_glob (pe_glob a q1 q2 b) q3) fun _ => rfl
  · rename_i es es' k pos
    have sz := Ex.tup.sizeOf_spec es
    exact pv (nE_tup (h2 es (by omega) A X es' g h).1) fun _ => rfl
  · rename_i es es' pos
    have sz := Ex.lst.sizeOf_spec es
    exact pv (nE_lst (h2 es (by omega) A X es' g h).1) fun _ => rfl
  · exact pv nE_dct0 fun _ => rfl
  · -- bin
    rename_i o a b a' op b' pos
    simp only [Bool.and_eq_true] at h
    have sz := Ex.bin.sizeOf_spec o a b
    exact pv (nE_bin (h1 a (by omega) A X a' g h.1.2).1 (h1 b (by omega) A X b' g h.2).1 (oD_bin h.1.1)) fun _ => rfl
  · rename_i a a' pos
    have sz := Ex.neg.sizeOf_spec a
    exact pv (nE_neg (h1 a (by omega) A X a' g h).1) fun _ => rfl
  · rename_i a a' pos
    have sz := Ex.not.sizeOf_spec a
    have ia := h1 a (by omega) A X a' g h
    exact ⟨nE_not ia.1, fun t => nT_not (ia.2 (by rw [tB] at t; exact t))⟩
  · -- and
    rename_i es es' pos
    have sz := Ex.and.sizeOf_spec es
    have ie := (h2 es (by omega) A X es' g h).2
    cases es with
    | nil =>
      have z : ∀ {σ H Q}, rE X T F (.and .nil) σ H Q → False := fun h => by
        obtain ⟨μ, env, hp, v, hp', R, E, ev, post⟩ := h
        unfold evE evAnd at ev
        cases ev
      exact ⟨⟨fun pins s σ H Q I q => (z q).elim⟩, fun _ => ⟨fun pins s σ H Q I q => (z q).elim⟩⟩
    | cons a as =>
      obtain ⟨⟨q1, _⟩, q2⟩ := ie a as rfl pos
      have im : ∀ σ H Q, rE X T F (.and (.cons a as)) σ H Q → rAnd X T F (.cons a as) σ H Q := fun σ H Q h => by
        obtain ⟨μ, env, hp, v, hp', R, E, ev, post⟩ := h
        unfold evE at ev
        exact ⟨μ, env, hp, v, hp', R, E, ev, post⟩
      exact ⟨pe_imp q1 im, fun t => pt_imp (q2 (by rw [tB] at t; exact t)).1.pt fun σ H Q h => im σ H _ h⟩
  · -- or
    rename_i es es' pos
    have sz := Ex.or.sizeOf_spec es
    have ie := (h2 es (by omega) A X es' g h).2
    cases es with
    | nil =>
      have z : ∀ {σ H Q}, rE X T F (.or .nil) σ H Q → False := fun h => by
        obtain ⟨μ, env, hp, v, hp', R, E, ev, post⟩ := h
        unfold evE evOr at ev
        cases ev
      exact ⟨⟨fun pins s σ H Q I q => (z q).elim⟩, fun _ => ⟨fun pins s σ H Q I q => (z q).elim⟩⟩
    | cons a as =>
      obtain ⟨⟨_, q1⟩, q2⟩ := ie a as rfl pos
      have im : ∀ σ H Q, rE X T F (.or (.cons a as)) σ H Q → rOr X T F (.cons a as) σ H Q := fun σ H Q h => by
        obtain ⟨μ, env, hp, v, hp', R, E, ev, post⟩ := h
        unfold evE at ev
        exact ⟨μ, env, hp, v, hp', R, E, ev, post⟩
      exact ⟨pe_imp q1 im, fun t => pt_imp (q2 (by rw [tB] at t; exact t)).2.pt fun σ H Q h => im σ H _ h⟩
  · -- cmp
    rename_i o a b a' op b' pos
    simp only [Bool.and_eq_true] at h
    obtain ⟨⟨⟨m, ha⟩, hb⟩, hm⟩ := h
    have sz := Ex.cmp.sizeOf_spec o a b
    have ia := (h1 a (by omega) A X a' g ha).1
    have ib := (h1 b (by omega) A X b' g hb).1
    exact ⟨nE_cmp ia ib (oD_cmp g.un m) (bang hm), fun _ => nT_cmp ia ib (oD_cmp g.un m) (bang hm)⟩
  · -- chain
    rename_i o p a b c a' op op' b' c' pos
    simp only [Bool.and_eq_true] at h
    obtain ⟨⟨⟨⟨⟨m, m'⟩, ha⟩, hb⟩, hc⟩, hm⟩ := h
    have sz := Ex.chn.sizeOf_spec o p a b c
    have ia := (h1 a (by omega) A X a' g ha).1
    have ib := (h1 b (by omega) A X b' g hb).1
    have ic := (h1 c (by omega) A X c' g hc).1
    exact ⟨nE_chn ia ib ic (oD_cmp g.un m) (oD_cmp g.un m') (bang hm), fun _ => nT_chn ia ib ic (oD_cmp g.un m) (oD_cmp g.un m') (bang hm)⟩
  · -- ite
    rename_i c a b c' a' b' pos
    simp only [Bool.and_eq_true] at h
    obtain ⟨⟨⟨t, hc⟩, ha⟩, hb⟩ := h
    have sz := Ex.ite.sizeOf_spec c a b
    exact ⟨nE_ite ((h1 c (by omega) A X c' g hc).2 t) (h1 a (by omega) A X a' g ha).1 (h1 b (by omega) A X b' g hb).1, fun t => by rw [tB] at t; cases t⟩
  · -- call
    rename_i f es x p es' pos
    simp only [Bool.and_eq_true, decide_eq_true_eq] at h
    obtain ⟨⟨hm, hg⟩, he'⟩ := h
    obtain ⟨q1, q2, _⟩ := glo_of g hg
    obtain ⟨a, q3, q4, q5⟩ := g.fns f x hm
    have sz := Ex.call.sizeOf_spec f es
    have ie := (h2 es (by omega) A X es' g he').1
    refine pv ?_ fun _ => rfl
    cases es' with
    | nil =>
      cases es with
      | cons _ _ => simp [mEs] at he'
      | nil => exact nE_call0 q5 (g.rm.mono (by omega)) g.gd q1 q3 q4 q2
    | cons e' es' =>
      cases es with
      | nil => simp [mEs] at he'
      | cons b bs =>
        have he'' := he'
        rw [mEs, Bool.and_eq_true, Bool.and_eq_true] at he''
        exact nE_call q5 (g.rm.mono (by omega)) g.gd q1 q3 q4 ie q2 (star_cons he''.1.1 _ _) (star_plain pos _ he''.2)
  · -- built-ins
    rename_i f es x p es' pos
    simp only [Bool.and_eq_true] at h
    obtain ⟨⟨⟨hb, hf⟩, he'⟩, hne⟩ := h
    obtain ⟨q1, q2, q3, q4⟩ := fr_of g hf
    have sz := Ex.blt.sizeOf_spec f es
    have ie := (h2 es (by omega) A X es' g he').1
    refine pv ?_ fun _ => rfl
    cases es' with
    | nil => cases hne
    | cons e' es' =>
      cases es with
      | nil => simp [mEs] at he'
      | cons b bs =>
        have he'' := he'
        rw [mEs, Bool.and_eq_true, Bool.and_eq_true] at he''
        split at hb
        · rename_i bb id hi
          have hb := of_decide_eq_true hb
          subst hb
          have c1 := blt_call g hi
          have c2 := blt_boot hi
          cases bb
          · exact nE_blt c1 q1 q2 c2 ie q4 q3 (star_cons he''.1.1 _ _) (star_plain pos _ he''.2)
          · exact nE_bltT c1 q1 q2 c2 ie q4 q3 (star_cons he''.1.1 _ _) (star_plain pos _ he''.2)
        · cases hb
  · -- isinstance
    rename_i a t x p a' y p2 pos
    simp only [Bool.and_eq_true, decide_eq_true_eq] at h
    obtain ⟨⟨⟨⟨⟨rfl, hf⟩, rfl⟩, hf2⟩, p1⟩, ha⟩ := h
    obtain ⟨q1, q2, q3, q4⟩ := fr_of g hf
    obtain ⟨k1, k2, k3, k4⟩ := fr_of g hf2
    have sz := Ex.isi.sizeOf_spec a t
    exact pv (nE_isi q1 q2 k1 k2 (ty_boot t) k4 k3 (h1 a (by omega) A X a' g ha).1 (star_cons p1 _ _)) fun _ => rfl
  · -- append
    rename_i o a o' nm ap a' cp
    simp only [Bool.and_eq_true, decide_eq_true_eq] at h
    obtain ⟨⟨⟨⟨⟨rfl, ns⟩, hl⟩, p1⟩, ho⟩, ha⟩ := h
    have sz := Ex.mth.sizeOf_spec .append o (.cons a .nil)
    have sz2 := Exs.cons.sizeOf_spec a .nil
    exact pv (nE_append (h1 o (by omega) A X o' g ho).1 (h1 a (by omega) A X a' g ha).1 (noSuper_of ns _ _) hl (star_cons p1 _ _)) fun _ => rfl
  · rename_i o a o' nm ap a' cp
    simp only [Bool.and_eq_true, decide_eq_true_eq] at h
    obtain ⟨⟨⟨⟨⟨rfl, ns⟩, hl⟩, p1⟩, ho⟩, ha⟩ := h
    have sz := Ex.mth.sizeOf_spec .index o (.cons a .nil)
    have sz2 := Exs.cons.sizeOf_spec a .nil
    exact pv (nE_index g.calm (h1 o (by omega) A X o' g ho).1 (h1 a (by omega) A X a' g ha).1 (noSuper_of ns _ _) hl (star_cons p1 _ _)) fun _ => rfl
  · -- subscript
    rename_i a i a' i' pos
    simp only [Bool.and_eq_true] at h
    have sz := Ex.idx.sizeOf_spec a i
    exact pv (nE_idx (h1 a (by omega) A X a' g h.1.2).1 (h1 i (by omega) A X i' g h.2).1 (oD_idx g.un) (plainIx_of h.1.1)) fun _ => rfl
  · -- slice
    rename_i a lo hi a' lo' hi' p2 pos
    simp only [Bool.and_eq_true] at h
    have sz := Ex.slc.sizeOf_spec a lo hi
    exact pv (nE_slc (h1 a (by omega) A X a' g h.1.1).1 ((h3 lo (by omega) A X g).1 lo' h.1.2) ((h3 hi (by omega) A X g).1 hi' h.2) oD_slc) fun _ => rfl
  · -- comprehension
    rename_i own t s c e e' tg it ifs k scope pos
    simp only [Bool.and_eq_true, decide_eq_true_eq, List.all_eq_true] at h
    obtain ⟨⟨⟨⟨⟨⟨rfl, hb⟩, hs⟩, ht⟩, hc⟩, he'⟩, ho⟩ := h
    have sz := Ex.comp.sizeOf_spec own t s c e
    have ok : BlkOk X.N X.env.scope scope (ownP A own) := by rw [g.N, g.sc]; exact blkOk_by hb
    have gb := fun (s : Shared) (H : Hp) (C : Addr) (cl : List (Str × Addr)) (fp : List Addr) => g.blk scope ok.kind s H C cl fp
    have hN : X.N.Nodup := by rw [g.N]; exact g.nd
    have ho' : ∀ i ∈ slots t, i ∈ (ownP A own).map (·.2) := fun i hi => by rw [ownP_ix]; simpa using ho i hi
    have i1 := fun (s : Shared) (H : Hp) (C : Addr) (cl : List (Str × Addr)) (fp : List Addr) => sG (gb s H C cl fp) ht
    have i2 := fun (s : Shared) (H : Hp) (C : Addr) (cl : List (Str × Addr)) (fp : List Addr) => (h3 c (by omega) _ _ (gb s H C cl fp)).2 ifs hc
    have i3 := fun (s : Shared) (H : Hp) (C : Addr) (cl : List (Str × Addr)) (fp : List Addr) => (h1 e (by omega) _ _ e' (gb s H C cl fp) he').1
    have is := h4 s (by omega) A X tg it g hs
    refine pv ?_ fun _ => rfl
    by_cases hk : ∀ i, s ≠ .keys i
    · have := nE_comp (pos := pos) g.calm hN (is.1 hk).1 ok i1 i2 i3 (is.1 hk).2 ho' (nk_of hk)
      rw [ownP_ix] at this
      exact this
    · obtain ⟨i, hi⟩ := Classical.not_forall.mp hk
      have hi := Classical.not_not.mp hi
      subst hi
      obtain ⟨x, p, rfl, pi⟩ := is.2 i rfl
      have := nE_compK (pos := pos) g.calm hN pi ok i1 i2 i3 (fun _ => rfl) ho'
      rw [ownP_ix] at this
      exact this
  · -- sorted by a def
    rename_i a f x p a' k fx p2 kp pos
    simp only [Bool.and_eq_true, decide_eq_true_eq] at h
    obtain ⟨⟨⟨⟨⟨⟨rfl, rfl⟩, hf⟩, hm⟩, hg⟩, p1⟩, ha⟩ := h
    obtain ⟨q1, q2, q3, q4⟩ := fr_of g hf
    obtain ⟨k1, k2, _⟩ := glo_of g hg
    obtain ⟨b, k3, k4, k5⟩ := g.fns f fx hm
    have sz := Ex.srt.sizeOf_spec a f
    exact pv (nE_srt k5 g.rm g.gd g.calm g.un q1 q2 k1 k3 k2 (h1 a (by omega) A X a' g ha).1 (star_cons p1 _ _)) fun _ => rfl
  · -- sorted by a lambda
    rename_i a i el x p a' k params body scope lp kp pos
    simp only [Bool.and_eq_true, decide_eq_true_eq] at h
    obtain ⟨⟨⟨⟨⟨⟨⟨⟨hlam, rfl⟩, rfl⟩, hf⟩, p1⟩, hpar⟩, hL⟩, ha⟩, hb⟩ := h
    obtain ⟨q1, q2, q3, q4⟩ := fr_of g hf
    obtain ⟨hrm, c, P, hcode, hTB, hmT, huT⟩ := g.lm hlam
    have sz := Ex.srtL.sizeOf_spec a i el
    have L : LamS1 X.N X.env.scope scope "one" i := by rw [g.N, g.sc]; exact lam1_by hL
    have hN : X.N.Nodup := by rw [g.N]; exact g.nd
    refine pv (nE_srtL (k := r + 2) hN L hrm g.calm g.un L.free q1 q2 hpar hTB hcode hmT huT (h1 a (by omega) A X a' g ha).1 (star_cons p1 _ _) fun f c' Ar outer s H hgu hro => ?_) fun _ => rfl
    have g' : Gd (A.lamS scope) (LamX.lamCx X Ar outer s H C8.E0 scope f c').nox T F r :=
      ⟨g.N, g.nd, rfl, L.kind, fun x hx => absurd hx (by simp [Sta.lamS]), rfl, hgu.trans g.gd, hro, PassesOwn.never, g.con, g.fns, g.blt, fun z => nomatch z⟩
    exact (h1 el (by omega) _ _ body g' hb).1
  · cases h
theorem sAll : ∀ n, SE T F r n ∧ SEs T F r n ∧ SO T F r n ∧ SSrc T F r n
  | 0 => ⟨fun _ h => absurd h (Nat.not_lt_zero _), fun _ h => absurd h (Nat.not_lt_zero _), fun _ h => absurd h (Nat.not_lt_zero _), fun _ h => absurd h (Nat.not_lt_zero _)⟩
  | n + 1 => by
    obtain ⟨a, b, c, d⟩ := sAll n
    exact ⟨sE_step a b c d, sEs_step a b, sO_step a, sSrc_step a⟩
end
section
variable {X : Cx} {A : Sta} {T : List (Addr × Str)} {F : Fun} {W r : Nat}
theorem sE {e : Ex} {ex : Expr} (g : Gd A X T F r) (h : mE A e ex = true) : PE X ex (rE X T F e) := ((sAll (sizeOf e + 1)).1 e (Nat.lt_succ_self _) A X ex g h).1
theorem sT {e : Ex} {ex : Expr} (g : Gd A X T F r) (t : tB e = true) (h : mE A e ex = true) : PT X ex (rB (rE X T F e)) := ((sAll (sizeOf e + 1)).1 e (Nat.lt_succ_self _) A X ex g h).2 t
theorem sI {s : Src} {tg it : Expr} (g : Gd A X T F r) (h : mSrc A s tg it = true) : ((∀ i, s ≠ .keys i) → PI X tg it (rSrc X T F s) ∧ ∀ v, foldedSetIterable it X.env v = pure v) ∧ (∀ i, s = .keys i → ∃ x p, it = .Name x p ∧ PI X tg it (rKeys X T i)) :=
  (sAll (sizeOf s + 1)).2.2.2 s (Nat.lt_succ_self _) A X tg it g h
end
end PL
set_option autoImplicit false
set_option linter.all false
set_option maxRecDepth 20000
set_option maxHeartbeats 4000000
/-! PlMat3: the statements, all at once. -/
namespace PL
open PySem PySem.Spec PyProof.Rows L2
/-- is the list of a comprehension stored in the block's own way -/
def swB (A : Sta) (x : Str) (p : Pos) (e : Expr) : Bool := match e with
  | .ListComp _ _ s cp => decide (A.sc.names.lookup x = some .local) && (p.line == cp.line) && !(s.names.any fun (n, k) => n == x && (k == .local || k == .cell))
  | _ => false
/-- two names stored from the right -/
def parB (A : Sta) (x y : Str) (px py : Pos) (a b : Expr) : Bool :=
  decide (A.sc.names.lookup x = some .local) && decide (A.sc.names.lookup y = some .local) && (px.line == py.line) && !decide (x = y) && !([a, b].all (foldedForSure 8)) && !([a, b].all (constantsAlone 8))
/-- the row of targets is stored from the left -/
def leftB (tg e : Expr) : Bool := match tg, e with
  | .Tuple _ _ _, .Tuple vs _ _ => vs.all (foldedForSure 8) && !(vs.any fun | .Starred .. => true | _ => false)
  | .Tuple _ _ _, _ => true
  | _, _ => false
/-- one of two names is no plain local: the row is stored from the left -/
def leftC (A : Sta) (tg e : Expr) : Bool := match tg, e with
  | .Tuple [.Name x _, .Name y _] _ _, .Tuple [_, _] _ _ => !decide (A.sc.names.lookup x = some .local) || !decide (A.sc.names.lookup y = some .local)
  | _, _ => false
def isLc : Expr → Bool
  | .ListComp _ _ _ _ => true
  | _ => false
def lcKeys : Ex → Bool
  | .comp _ _ (.keys _) _ _ => false
  | .comp _ _ _ _ _ => true
  | _ => false
def mPar (A : Sta) : Tg → Ex → Expr → Expr → Bool
  | .tup2 (.name i) (.name j), .tup (.cons a (.cons b .nil)), .Tuple [.Name x px, .Name y py] _ _, .Tuple [a', b'] _ _ => decide (A.N[i]? = some x) && decide (A.N[j]? = some y) && parB A x y px py a' b' && plain a' && plain b' && mE A a a' && mE A b b'
  | _, _, _, _ => false
mutual
def mS (A : Sta) : PL.St → Stmt → Bool
  | .set i e, .Assign [.Name x p] e' _ => putB A i x && mE A e e' && (noComp e' || !swB A x p e' && isLc e' || swB A x p e' && lcKeys e)
  | .tset t e, .Assign [tg] e' _ => isTup tg && (((leftB tg e' || leftC A tg e') && noComp e' && mG A t tg && mE A e e') || mPar A t e tg e')
  | .sset o i e, .Assign [.Subscript o' i' _] e' _ => noSlice i' && mE A o o' && mE A i i' && mE A e e'
  | .aug i o e, .AugAssign (.Name x _) op e' _ => putB A i x && augM o op && mE A e e'
  | .expr e, .Expr e' _ => noComp e' && mE A e e'
  | .ite c a b, .If c' a' b' _ => tB c && mE A c c' && mSs A a a' && mSs A b b'
  | .loop t s b, .For tg it b' [] _ => mG A t tg && mSrc A s tg it && mSs A b b'
  | .whl c b, .While c' b' [] _ => tB c && mE A c c' && mSs A b b'
  | .ret e, .Return (some e') _ => mE A e e'
  | .retN, .Return none _ => true
  | .pass, .Pass _ => true
  | .brk, .Break _ => true
  | .never, _ => true
  | _, _ => false
def mSs (A : Sta) : Sts → List Stmt → Bool
  | .nil, [] => true
  | .cons s ss, x :: xs => mS A s x && mSs A ss xs
  | _, _ => false
end
section
variable {X : Cx} {A : Sta} {T : List (Addr × Str)} {F : Fun} {W r : Nat}
theorem blockF (g : Gd A X T F r) : X.env.blockKind = .function := by
  unfold Env.blockKind
  rw [g.sc, g.fk]; rfl
theorem sw_of (g : Gd A X T F r) (x : Str) (p : Pos) (e : Expr) (l : Nat) (h : noComp e = true ∨ isLc e = true) : swapsWith e (some (.Name x p)) l X.env = pure (swB A x p e) := by
  rcases h with h | h
  · rw [noComp_of h]
    cases e <;> first | rfl | (cases h)
  · cases e <;> first | (cases h; done) | skip
    rename_i elt gs s cp
    unfold swapsWith
    have hk : X.env.kindOf x = A.sc.names.lookup x := by show X.env.scope.names.lookup x = _; rw [g.sc]
    simp only [blockF g, hk, Expr.pos, swB]
    have e1 : ((some NameKind.local : Option NameKind) == some .local) = true := rfl
    have e2 : (A.sc.names.lookup x == some NameKind.local) = decide (A.sc.names.lookup x = some .local) := by
      cases A.sc.names.lookup x with
      | none => rfl
      | some k => cases k <;> rfl
    rw [e2]
    have e3 : (ScopeKind.function == ScopeKind.function) = true := rfl
    rw [e3, Bool.true_and]
theorem left_of {tg e : Expr} (h : leftB tg e = true) (env : PySem.Env) : swappedStores [tg] e env = pure none := by
  unfold leftB at h
  split at h
  · rename_i ts k p vs k2 p2
    rw [Bool.and_eq_true] at h
    unfold swappedStores
    simp only [h.1, if_true]
    split
    · rfl
    · split
      · rfl
      · split
        · rfl
        · rfl
  · rename_i h0
    unfold swappedStores
    cases e <;> first | rfl | (exact absurd rfl (h0 _ _ _))
  · cases h
theorem left_ofC (g : Gd A X T F r) {tg e : Expr} (h : leftC A tg e = true) : swappedStores [tg] e X.env = pure none := by
  unfold leftC at h
  split at h
  · rename_i x px y py k1 p1 a b k2 p2
    have kx : X.env.kindOf x = A.sc.names.lookup x := by show X.env.scope.names.lookup x = _; rw [g.sc]
    have ky : X.env.kindOf y = A.sc.names.lookup y := by show X.env.scope.names.lookup y = _; rw [g.sc]
    unfold swappedStores
    simp only [List.length_cons, List.length_nil, List.head?_cons, Option.map_some, Option.getD_some, Expr.pos, List.filterMap_cons, List.filterMap_nil, kx, ky]
    split
    · rfl
    · split
      · rfl
      · rw [if_pos]
        have ex : ((A.sc.names.lookup x == some NameKind.local) = true) ↔ A.sc.names.lookup x = some .local := by
          cases A.sc.names.lookup x with
          | none => exact ⟨(fun z => nomatch z), (fun z => nomatch z)⟩
          | some k => cases k <;> first | exact ⟨fun _ => rfl, fun _ => rfl⟩ | exact ⟨(fun z => nomatch z), (fun z => nomatch z)⟩
        have ey : ((A.sc.names.lookup y == some NameKind.local) = true) ↔ A.sc.names.lookup y = some .local := by
          cases A.sc.names.lookup y with
          | none => exact ⟨(fun z => nomatch z), (fun z => nomatch z)⟩
          | some k => cases k <;> first | exact ⟨fun _ => rfl, fun _ => rfl⟩ | exact ⟨(fun z => nomatch z), (fun z => nomatch z)⟩
        simp only [Bool.or_eq_true, Bool.not_eq_true', decide_eq_false_iff_not] at h
        rcases h with h | h
        · have : (A.sc.names.lookup x == some NameKind.local) = false := by rw [Bool.eq_false_iff]; exact fun z => h (ex.mp z)
          rw [this]
          cases (A.sc.names.lookup y == some NameKind.local) <;> cases (py.line == px.line) <;> rfl
        · have : (A.sc.names.lookup y == some NameKind.local) = false := by rw [Bool.eq_false_iff]; exact fun z => h (ey.mp z)
          rw [this]
          cases (A.sc.names.lookup x == some NameKind.local) <;> cases (px.line == px.line) <;> rfl
  · cases h
theorem par_of (g : Gd A X T F r) {x y : Str} {px py pt pt2 : Pos} {kt k2 : Nat} {a b : Expr} (h : parB A x y px py a b = true) (pa : plain a = true) (pb : plain b = true) : swappedStores [.Tuple [.Name x px, .Name y py] kt pt] (.Tuple [a, b] k2 pt2) X.env = pure (some [x, y]) := by
  unfold parB at h
  simp only [Bool.and_eq_true, decide_eq_true_eq, Bool.not_eq_true', decide_eq_false_iff_not] at h
  obtain ⟨⟨⟨⟨⟨hx, hy⟩, hl⟩, hne⟩, hf⟩, hc⟩ := h
  have kx : X.env.kindOf x = some .local := by show X.env.scope.names.lookup x = _; rw [g.sc]; exact hx
  have ky : X.env.kindOf y = some .local := by show X.env.scope.names.lookup y = _; rw [g.sc]; exact hy
  have hl' : (py.line == px.line) = true := by
    have := eq_of_beq hl
    rw [this]; exact beq_self_eq_true _
  have na : (match a with | .Starred .. => true | _ => false) = false := by cases a <;> first | rfl | (cases pa)
  have nb : (match b with | .Starred .. => true | _ => false) = false := by cases b <;> first | rfl | (cases pb)
  have hb := blockF g
  have e1 : (((X.env.kindOf x == some NameKind.local) && (px.line == px.line)) = true) := by rw [kx]; simp
  have e2 : (((X.env.kindOf y == some NameKind.local) && (py.line == px.line)) = true) := by rw [ky, hl']; rfl
  have f1 : (x == y) = false := by simpa using hne
  unfold swappedStores
  simp only [List.length_cons, List.length_nil, hb, List.any_cons, List.any_nil, na, nb, Bool.or_false, Bool.false_eq_true, if_false, List.head?_cons, Option.map_some, Option.getD_some, Expr.pos, List.filterMap_cons, List.filterMap_nil, e1, e2, if_true, hf, hc]
  have f2 : (y == x) = false := by simpa using fun e : y = x => hne e.symm
  rw [if_neg (by decide), if_neg, if_neg]
  · rw [List.eraseDups_cons, List.filter_cons, f2]
    simp [List.eraseDups_cons]
  · intro hh
    rw [Bool.or_eq_true] at hh
    rcases hh with hh | hh
    · cases a <;> first | (cases pa; done) | (cases hh; done)
    · cases b <;> first | (cases pb; done) | (cases hh; done)
end
section
variable {T : List (Addr × Str)} {F : Fun} {W r n : Nat}
def SS (T : List (Addr × Str)) (F : Fun) (W r n : Nat) : Prop := ∀ (s : PL.St), sizeOf s < n → ∀ (A : Sta) (X : Cx) (st : Stmt), Gd A X T F r → mS A s st = true → PS X st (rS X T F W s)
def SSs (T : List (Addr × Str)) (F : Fun) (W r n : Nat) : Prop := ∀ (s : Sts), sizeOf s < n → ∀ (A : Sta) (X : Cx) (st : List Stmt), Gd A X T F r → mSs A s st = true → PSs X st (rSs X T F W s)
theorem sSs_step (h1 : SS T F W r n) (h2 : SSs T F W r n) : SSs T F W r (n + 1) := by
  intro s hs A X st g h
  unfold mSs at h
  split at h
  · exact nSs_nil
  · rename_i s ss x xs
    rw [Bool.and_eq_true] at h
    have sz := Sts.cons.sizeOf_spec s ss
    exact nSs_cons (h1 s (by omega) A X x g h.1) (h2 ss (by omega) A X xs g h.2)
  · cases h
theorem sS_step (h1 : SS T F W r n) (h2 : SSs T F W r n) : SS T F W r (n + 1) := by
  intro s hs A X st g h
  have hN : X.N.Nodup := by rw [g.N]; exact g.nd
  unfold mS at h
  split at h
  · -- name = e
    rename_i i e x p e' pos
    simp only [Bool.and_eq_true, Bool.or_eq_true, Bool.not_eq_true'] at h
    obtain ⟨⟨hp, he⟩, hk⟩ := h
    obtain ⟨a, b, c⟩ := put_of g hp
    rcases hk with (hk | hk) | hk
    · exact nS_set hN a b (sE g he) (noComp_of hk _ _ _) c
    · exact nS_set hN a b (sE g he) (by rw [sw_of g x p e' _ (.inr hk.2), hk.1]) c
    · obtain ⟨hsw, hl⟩ := hk
      have he0 := he
      unfold mE at he
      split at he <;> first | (simp [lcKeys] at hl; done) | (cases he; done) | skip
      rename_i own t s c e e' tg it ifs k scope cp
      simp only [Bool.and_eq_true, decide_eq_true_eq, List.all_eq_true] at he
      obtain ⟨⟨⟨⟨⟨⟨rfl, hb⟩, hs⟩, ht⟩, hc⟩, he'⟩, ho⟩ := he
      have ok : BlkOk X.N X.env.scope scope (ownP A own) := by rw [g.N, g.sc]; exact blkOk_by hb
      have gb := fun (s : Shared) (H : Hp) (C : Addr) (cl : List (Str × Addr)) (fp : List Addr) => g.blk scope ok.kind s H C cl fp
      have ho' : ∀ i ∈ slots t, i ∈ (ownP A own).map (·.2) := fun i hi => by rw [ownP_ix]; simpa using ho i hi
      have i1 := fun (s : Shared) (H : Hp) (C : Addr) (cl : List (Str × Addr)) (fp : List Addr) => sG (gb s H C cl fp) ht
      have i2 := fun (s : Shared) (H : Hp) (C : Addr) (cl : List (Str × Addr)) (fp : List Addr) => ((sAll (sizeOf c + 1)).2.2.1 c (Nat.lt_succ_self _) _ _ (gb s H C cl fp)).2 ifs hc
      have i3 := fun (s : Shared) (H : Hp) (C : Addr) (cl : List (Str × Addr)) (fp : List Addr) => sE (gb s H C cl fp) he'
      have hsk : ∀ i, s ≠ .keys i := fun i z => by subst z; cases hl
      have is := (sI g hs).1 hsk
      have hxl : X.env.scope.names.lookup x = some .local := by
        unfold swB at hsw
        simp only [Bool.and_eq_true, decide_eq_true_eq] at hsw
        rw [g.sc]; exact hsw.1.1
      have := nS_setComp (W := W) (py := p) (pos := cp) (spos := pos) g.calm hN a hxl (by rw [sw_of g x p _ _ (.inr rfl), hsw]) is.1 ok i1 i2 i3 is.2 ho' (nk_of hsk)
      rw [ownP_ix] at this
      exact this
  · -- a row of targets
    rename_i t e tg e' pos
    simp only [Bool.and_eq_true, Bool.or_eq_true] at h
    obtain ⟨ht, hk⟩ := h
    rcases hk with hk | hk
    · obtain ⟨⟨⟨hl, hn⟩, hg⟩, he⟩ := hk
      have hw : swappedStores [tg] e' X.env = pure none := by
        rcases hl with hl | hl
        · exact left_of hl _
        · exact left_ofC g hl
      exact nS_tset (sE g he) (sG g hg) (noComp_of hn _ _ _) hw (by cases tg <;> first | rfl | (cases ht))
    · unfold mPar at hk
      split at hk
      · rename_i i j a b x px y py kt pt a' b' k2 pt2
        simp only [Bool.and_eq_true, decide_eq_true_eq] at hk
        obtain ⟨⟨⟨⟨⟨⟨hi, hj⟩, hpar⟩, p1⟩, p2⟩, ha⟩, hb⟩ := hk
        have hpar' := hpar
        unfold parB at hpar
        simp only [Bool.and_eq_true, decide_eq_true_eq, Bool.not_eq_true', decide_eq_false_iff_not] at hpar
        have hij : i ≠ j := fun z => by
          subst z
          rw [hi] at hj
          exact hpar.1.1.2 (Option.some.inj hj)
        exact nS_par g.calm hN (by rw [g.N]; exact hi) (by rw [g.N]; exact hj) hij (by rw [g.sc]; exact hpar.1.1.1.1.1) (by rw [g.sc]; exact hpar.1.1.1.1.2) (sE g ha) (sE g hb) (star_cons p1 _ _) (star_cons p2 _ _) (par_of g hpar' p1 p2) rfl
      · cases hk
  · -- o[i] = e
    rename_i o i e o' i' tp e' pos
    simp only [Bool.and_eq_true] at h
    obtain ⟨⟨⟨hn, ho⟩, hi⟩, he⟩ := h
    refine nS_sset g.un (sE g ho) (sE g hi) (sE g he) (fun v => ?_) ?_ ?_
    · cases i' <;> first | rfl | (cases hn)
    · cases e' <;> rfl
    · cases e' <;> rfl
  · rename_i i o e x p op e' pos
    simp only [Bool.and_eq_true] at h
    obtain ⟨a, b, c⟩ := put_of g h.1.1
    exact nS_aug hN a b (sE g h.2) h.1.2 c
  · rename_i e e' pos
    rw [Bool.and_eq_true] at h
    exact nS_expr (sE g h.2) (noComp_of h.1 _ _ _)
  · rename_i c a b c' a' b' pos
    simp only [Bool.and_eq_true] at h
    have sz := PL.St.ite.sizeOf_spec c a b
    exact nS_ite (sT g h.1.1.1 h.1.1.2) (h2 a (by omega) A X a' g h.1.2) (h2 b (by omega) A X b' g h.2)
  · -- for
    rename_i t s b tg it b' pos
    simp only [Bool.and_eq_true] at h
    have sz := PL.St.loop.sizeOf_spec t s b
    have ib := h2 b (by omega) A X b' g h.2
    have is := sI g h.1.2
    by_cases hk : ∀ i, s ≠ .keys i
    · exact nS_for g.xe g.calm (is.1 hk).1 (sG g h.1.1) ib (is.1 hk).2 (nk_of hk)
    · obtain ⟨i, hi⟩ := Classical.not_forall.mp hk
      have hi := Classical.not_not.mp hi
      subst hi
      obtain ⟨x, p, rfl, pi⟩ := is.2 i rfl
      exact nS_forK g.xe g.calm pi (sG g h.1.1) ib fun _ => rfl
  · rename_i c b c' b' pos
    simp only [Bool.and_eq_true] at h
    have sz := PL.St.whl.sizeOf_spec c b
    exact nS_whl g.xe (sT g h.1.1 h.1.2) (h2 b (by omega) A X b' g h.2)
  · exact nS_ret (sE g h)
  · exact nS_retN
  · exact nS_pass
  · exact nS_brk
  · exact nS_never
  · cases h
theorem sSall : ∀ n, SS T F W r n ∧ SSs T F W r n
  | 0 => ⟨fun _ h => absurd h (Nat.not_lt_zero _), fun _ h => absurd h (Nat.not_lt_zero _)⟩
  | n + 1 => by
    obtain ⟨a, b⟩ := sSall n
    exact ⟨sS_step a b, sSs_step a b⟩
theorem sB {X : Cx} {A : Sta} {s : Sts} {st : List Stmt} (g : Gd A X T F r) (h : mSs A s st = true) : PSs X st (rSs X T F W s) := (sSall (sizeOf s + 1)).2 s (Nat.lt_succ_self _) A X st g h
end
end PL
set_option autoImplicit false
set_option linter.all false
set_option maxRecDepth 20000
set_option maxHeartbeats 1000000
/-! PlRun: the defs keep what the evaluator tells of them. -/
namespace PL
open PySem PySem.Spec PyProof.Rows L2
/-- a def as it stands, and the evaluator's text of it -/
def FunAt (K : PySem.W.Frag) (mg : Str → Option Value) (base : Heap) (T : List (Addr × Str)) (C : List (Str × PV)) (M B : List Str) (d : Df) : Prop :=
  ∃ (a : Addr) (qual : Str) (params : Arguments) (body : List Stmt) (scope : Scope) (dV kV doc pm cdv ct oc : Value) (an od : Option Addr) (osl : Array (Option Value)) (lam : Bool),
    mg d.name = some (.ref a) ∧ PySem.W.keepIn K (.ref a) = true ∧ K.lookup a = some ⟨oc, od, .func (PySem.W.fnOf d.name qual params body scope dV kV doc pm an cdv ct), osl⟩ ∧ PySem.W.codeIn K cdv qual = true ∧
    FnScope d.nm (d.nm.take d.ar) scope ∧ (∀ us : List Value, us.length = d.ar → bindArgs (PySem.W.fnOf d.name qual params body scope dV kV doc pm an cdv ct) ⟨us, []⟩ = pure ((d.nm.take d.ar).zip us)) ∧
    d.ar ≤ d.nm.length ∧ (lam = true → ∃ c P, cdv = .ref c ∧ LamX.TabB base mg c P ∧ (P, (envOfC qual scope 0 a cdv).qual ++ "<lambda>") ∈ T ∧ ∀ p ∈ T, p.1 = P → p.2 = (envOfC qual scope 0 a cdv).qual ++ "<lambda>") ∧
    mSs ⟨d.nm, scope, d.nm, C, M, B, lam⟩ d.body body = true
theorem erl_start {K : PySem.W.Frag} {μ : List Addr} {H : Hp} {vs : List V} {us : List PV} {N : List Str} (r : VRs K μ H vs us) : ERL K μ H (us.map some ++ List.replicate (N.length - us.length) none) (L2.start N vs) := by
  have hl := r.len
  refine ⟨fun i v e => ?_, by unfold L2.start; simp [hl]⟩
  by_cases hi : i < us.length
  · rw [List.getElem?_append_left (by simpa using hi), List.getElem?_map] at e
    obtain ⟨w, hw, ew⟩ := Option.map_eq_some_iff.mp e
    cases ew
    obtain ⟨x, h1, h2⟩ := r.get' hw
    refine ⟨x, ?_, h2⟩
    unfold L2.start
    rw [List.getElem?_append_left (by rw [List.length_map, hl]; exact hi), List.getElem?_map, h1]
    rfl
  · rw [List.getElem?_append_right (by simpa using hi), List.getElem?_replicate] at e
    split at e <;> cases e
section
variable {P : Program} {w : World} {K : PySem.W.Frag} {mg : Str → Option Value} {base : Heap} {T : List (Addr × Str)} {C : List (Str × PV)} {M B : List Str} {D : List Df} {W : Nat}
theorem run_sound (hD : ∀ d ∈ D, FunAt K mg base T C M B d) (hM : M = D.map (·.name)) (hC : ∀ x v, (x, v) ∈ C → ∃ u y, mg x = some u ∧ RelV y u ∧ ∀ μ H, VR K μ H y v) (hB : ∀ x ∈ B, mg x = none) :
    ∀ (n f : Nat) (x : Str) (a : Addr), M[f]? = some x → mg x = some (.ref a) → FnG P w K mg base T (run D W n) (6 * n) f a
  | 0, f, x, a, _, _ => by
    intro A outer s H us vs Q hr hg e0 rv h
    obtain ⟨μ, hp, us', r, hp', R, rv', ev, post⟩ := h
    unfold run at ev
    cases ev
  | n + 1, f, x, a, hf, ha => by
    intro A outer s H us vs Q hr hg e0 rv h
    obtain ⟨μ, hp, as, v, hp', R, rvs, ev, post⟩ := h
    unfold run at ev
    split at ev
    · rename_i d hd
      split at ev
      · rename_i hl
        obtain ⟨o, h1, e1, ev⟩ := PL.thn_some ev
        have hx : d.name = x := by
          rw [hM, List.getElem?_map, hd] at hf
          exact Option.some.inj hf
        obtain ⟨a', qual, params, body, scope, dV, kV, doc, pm, cdv, ct, oc, an, od, osl, lam, q1, q2, q3, q4, q5, q6, q7, q9, q8⟩ := hD d (List.mem_of_getElem? hd)
        rw [hx, ha] at q1
        cases q1
        have hlv : vs.length = d.ar := by rw [rvs.len]; exact hl
        have hps : (d.nm.take d.ar).length = d.ar := by rw [List.length_take]; omega
        refine LamX.run_ofS (k := 6 * n + 5) (N := d.nm) (ps := d.nm.take d.ar) q3 q4 q5 (hr.mono (by omega)) e0 (.of_eq (q6 us (by rw [← rv.length]; exact hlv))) rv (by rw [hlv, hps]) fun hr' => ?_
        have g : Gd ⟨d.nm, scope, d.nm, C, M, B, lam⟩ (cxOf C8.CX0 P w K mg base d.nm qual scope a cdv A outer s H C8.E0).nox T (run D W n) (6 * n) := by
          refine ⟨rfl, q5.nd, rfl, q5.kind, fun _ _ => rfl, rfl, hg, hr'.mono (by omega), PassesOwn.never, hC, fun f' x' hf' => ?_, hB, fun hl => ⟨hr', q9 hl⟩⟩
          have hd' : f' < D.length := by
            have hf' : M[f']? = some x' := hf'
            have := (List.getElem?_eq_some_iff.mp hf').1
            rw [hM, List.length_map] at this
            exact this
          have hn : (D[f']).name = x' := by
            have hf' : M[f']? = some x' := hf'
            rw [hM, List.getElem?_map, List.getElem?_eq_getElem hd'] at hf'
            exact Option.some.inj hf'
          obtain ⟨a2, _, _, _, _, _, _, _, _, _, _, _, _, _, _, _, k1, k2, _⟩ := hD D[f'] (List.getElem_mem hd')
          rw [hn] at k1
          exact ⟨a2, k1, k2, run_sound hD hM hC hB n f' x' a2 hf' k1⟩
        refine ⟨_, (sB (W := W) g q8).nox, μ, _, hp, o, h1, R, erl_start rvs, e1, ?_⟩
        cases o with
        | next e =>
          cases ev
          intro μ' σ' H' x1 R1 _
          obtain ⟨μ2, x2, R2, r2⟩ := gcR_ok R x1 R1 (VR.non (K := K) (μ := μ') (H := H'))
          exact post μ2 _ H' x2 R2 r2
        | brk e => cases ev
        | ret u =>
          cases ev
          intro μ' y H' x1 R1 r1
          obtain ⟨μ2, x2, R2, r2⟩ := gcR_ok R x1 R1 r1
          exact post μ2 _ H' x2 R2 r2
      · cases ev
    · cases ev
end
end PL
set_option autoImplicit false
set_option linter.all false
set_option maxRecDepth 100000
set_option maxHeartbeats 2000000
/-! PlEnd: the end of a law whose def keeps its promise where the law is called. -/
namespace PL
open PySem PySem.Spec PyProof.Rows L2
/-- the script's object -/
def scrO (vs : List Value) : Obj := { cls := .type "list", data := .seq vs.toArray }
/-- what is tracked at first: the tables, and the script if the object does not know it -/
def first (K : PySem.W.Frag) (ts : List Addr) (a : Addr) (vs : List Value) (ns : List Int) : Hp := fun b =>
  if b ∈ ts then some (.tbl #[]) else if b = a ∧ K.lookup a = none then some (.frz (scrO vs) (.lst (ns.map V.int))) else none
section
variable {K : PySem.W.Frag} {ts : List Addr} {a : Addr} {vs : List Value} {ns : List Int}
theorem first_tab {b : Addr} (h : b ∈ ts) : first K ts a vs ns b = some (.tbl #[]) := if_pos h
theorem first_cases {b : Addr} {u : HO} (h : first K ts a vs ns b = some u) : (b ∈ ts ∧ u = .tbl #[]) ∨ (b = a ∧ b ∉ ts ∧ K.lookup a = none ∧ u = .frz (scrO vs) (.lst (ns.map V.int))) := by
  unfold first at h
  split at h
  · rename_i q; exact .inl ⟨q, (Option.some.inj h).symm⟩
  · rename_i q
    split at h
    · rename_i z; exact .inr ⟨z.1, q, z.2, (Option.some.inj h).symm⟩
    · cases h
end
section
variable {P : Program} {w : World} {K : PySem.W.Frag} {mg mb : Str → Option Value} {fa a : Addr} {cs : List (Addr × Addr)} {s : Shared} {vs : List Value} {ns : List Int}
theorem end_call (inK : K.In s.heap) (glo : s.heap.Ns mainGlobals mg) (blt : s.heap.Ns builtinsNs mb) (boot : ∀ x : Str, x ≠ "__name__" → mb x = bootBuiltins x) (nolim : s.heap.NoLimit) (nogen : s.gens = #[])
    (tabs : ∀ p ∈ cs, s.heap.get? p.2 = some { cls := .none, data := .fields #[] }) (outK : ∀ p ∈ cs, K.lookup p.2 = none) (code : ∀ p ∈ cs, PySem.W.CodeHd s.heap p.1 p.2)
    (bmod : ∃ (m : Addr) (o : Obj), mg "__builtins__" = some (.ref m) ∧ m ≠ builtinsNs ∧ s.heap.get? m = some o ∧ o.cls = .type "module" ∧ o.dict = some builtinsNs ∧ o.data = .plain)
    (scr : s.heap.get? a = some (scrO vs)) (nums : IntsAre vs ns) (few : ns.length ≤ sizeLine)
    (body : ∀ (base : Heap) (H : Hp), K.In base → base.Ns mainGlobals mg → (∀ p ∈ cs, LamX.TabB base mg p.1 p.2) → (∀ p ∈ cs, H p.2 = some (.tbl #[])) → RL K H a (ns.map V.int) → Env0 P w K mg base callerA [] s H →
      codeAny (model P w) callerA (.call (.ref fa) ⟨[.ref a], []⟩) (CR C8.CX0 [] P w H s (fun v _ => v = .bl true) C8.E0) s) :
    codeAny (model P w) callerA (.call (.ref fa) ⟨[.ref a], []⟩) (fun r s' => r = .ok (.ret (.bool true)) ∧ OldK s.heap s'.heap ∧ s'.os = s.os ∧ AllBare s'.gens) s := by
  have vals := vals_ints nums
  have len := nums.length
  obtain ⟨ts, ets⟩ : ∃ ts, ts = cs.map (·.2) := ⟨_, rfl⟩
  have mem : ∀ p ∈ cs, p.2 ∈ ts := fun p hp => by rw [ets]; exact List.mem_map_of_mem hp
  have tab : ∀ b ∈ ts, ∃ p ∈ cs, p.2 = b := fun b hb => by rw [ets] at hb; exact List.mem_map.mp hb
  have emp : ∀ b ∈ ts, s.heap.get? b = some { cls := .none, data := .fields #[] } := fun b hb => by
    obtain ⟨p, hp, rfl⟩ := tab b hb
    exact tabs p hp
  have aOut : a ∉ ts := fun z => by
    have := emp a z
    rw [scr] at this
    cases congrArg Obj.data (Option.some.inj this)
  obtain ⟨H, eH⟩ : ∃ H, H = first K ts a vs ns := ⟨_, rfl⟩
  have cas : ∀ {b : Addr} {u : HO}, H b = some u → (b ∈ ts ∧ u = .tbl #[]) ∨ (b = a ∧ b ∉ ts ∧ K.lookup a = none ∧ u = .frz (scrO vs) (.lst (ns.map V.int))) := fun h => first_cases (by rw [← eH]; exact h)
  -- neither a row of values nor an empty table: not tracked
  have free : ∀ {b : Addr} {o : Obj}, s.heap.get? b = some o → (∀ xs n, o.data ≠ .seq xs n) → o.data ≠ .fields #[] → H b = none := by
    intro b o e h1 h2
    cases q : H b with
    | none => rfl
    | some u =>
      rcases cas q with ⟨hb, _⟩ | ⟨rfl, _⟩
      · rw [emp b hb] at e
        cases e
        exact (h2 rfl).elim
      · rw [scr] at e
        cases e
        exact (h1 _ _ rfl).elim
  have dictFree : ∀ {b : Addr} {o : Obj} {es : Array DictEntry} {n : Nat}, s.heap.get? b = some o → o.data = .dict es n → H b = none := by
    intro b o es n e d
    refine free e (fun xs m z => ?_) fun z => ?_ <;> rw [d] at z <;> cases z
  obtain ⟨base, eb⟩ : ∃ base, base = hidT s.heap H := ⟨_, rfl⟩
  have into : ∀ {b : Addr} {o : Obj}, s.heap.get? b = some o → H b = none → base.get? b = some o := fun e n => by rw [eb]; exact hidT_get e n
  have names : ∀ {b : Addr} {m : Str → Option Value}, s.heap.Ns b m → base.Ns b m := by
    rintro b m ⟨o, es, n, e, d, r⟩
    exact ⟨o, es, n, into e (dictFree e d), d, r⟩
  have kIn : K.In base := by
    intro b o e
    refine into (inK b o e) ?_
    cases q : H b with
    | none => rfl
    | some u =>
      rcases cas q with ⟨hb, _⟩ | ⟨rfl, _, z, _⟩
      · obtain ⟨p, hp, rfl⟩ := tab b hb
        rw [outK p hp] at e
        cases e
      · rw [z] at e
        cases e
  have md : L2.Mod K mg base := by
    refine ⟨kIn, names glo, ⟨mb, names blt, boot⟩, ?_⟩
    obtain ⟨m, h1, h2⟩ := nolim
    exact ⟨m, names h1, h2⟩
  have tb : ∀ p ∈ cs, LamX.TabB base mg p.1 p.2 := by
    intro p hp
    have et := tabs p hp
    refine ⟨?_, ?_, fun z => ?_⟩
    · obtain ⟨o, us, fi, tf, fl, tg, inF, tx', tt, k1, k2, k3, k4, k5, k6, k7, k8, k9, k10⟩ := code p hp
      refine ⟨o, us, fi, tf, fl, tg, inF, tx', tt, into k1 (free k1 (fun xs n z => ?_) fun z => ?_), k2, k3, k4, k5, k6, k7, k8, k9, k10⟩
      · rw [k3] at z; cases z
      · rw [k3] at z
        cases z
        simp at k4
    · obtain ⟨m, o, h1, h2, h3, h4, h5, h6⟩ := bmod
      refine ⟨m, o, h1, h2, fun z => ?_, fun z => ?_, into h3 (free h3 (fun xs n z => ?_) fun z => ?_), h4, h5, h6⟩
      · obtain ⟨o2, es, n, e, d, _⟩ := glo
        rw [z, e] at h3
        cases h3
        rw [d] at h6
        cases h6
      · rw [z, et] at h3
        cases h3
        cases h6
      · rw [h6] at z; cases z
      · rw [h6] at z; cases z
    · obtain ⟨o2, es, n, e, d, _⟩ := glo
      rw [z, et] at e
      cases e
      cases d
  have okH : HOk P w H s.heap := by
    intro b u e
    rcases cas e with ⟨hb, rfl⟩ | ⟨rfl, _, _, rfl⟩
    · exact emp b hb
    · exact ⟨scr, by rw [List.length_map]; exact few, vs, _, vals, scr⟩
  have e0 : Env0 P w K mg base callerA [] s H := by
    refine ⟨rfl, md, fun b o e => ?_, ?_, trivial, fun b hb => absurd (show b ∈ ([] : List Addr) from hb) (by simp), okH, .of_eq nogen⟩
    · rw [eb] at e; exact of_hidT e
    · rw [eb]; exact Nat.le_of_eq (hidT_size _ _)
  have rl : RL K H a (ns.map V.int) := by
    cases q : K.lookup a with
    | none =>
      refine .inl ⟨scrO vs, ?_⟩
      rw [eH]
      unfold first
      rw [if_neg aOut, if_pos ⟨rfl, q⟩]
    | some o =>
      have := inK a o q
      rw [scr] at this
      cases this
      exact .inr ⟨_, vs.toArray, 0, q, rfl, rfl, rfl, by rw [List.size_toArray, len]; exact few, by simpa using vals⟩
  have ht : ∀ p ∈ cs, H p.2 = some (.tbl #[]) := fun p hp => by rw [eH]; exact first_tab (mem p hp)
  refine codeAny_mono (body base H kIn (names glo) tb ht rl e0) fun r s' h => ?_
  cases r with
  | error e => exact False.elim h
  | ok fl =>
    cases fl with
    | next => exact False.elim h
    | brk => exact False.elim h
    | cont => exact False.elim h
    | ret u =>
      obtain ⟨v, H', os, bare, un, ok', rv, q⟩ := h
      have q : v = .bl true := q
      subst q
      have ru : u = Value.bool true := rv
      subst ru
      have stay : ∀ b o, b ∉ ts → s.heap.get? b = some o → s'.heap.get? b = some o := by
        intro b o nb e
        cases z : H b with
        | none => exact un.keep b o e z (by intro z; exact absurd (show b ∈ ([] : List Addr) from z) (by simp)) (by simp)
        | some u =>
          rcases cas z with ⟨hb, _⟩ | ⟨rfl, _, _, rfl⟩
          · exact absurd hb nb
          · have f2 := un.frzs b _ _ z
            obtain ⟨g1, _⟩ := ok' b _ f2
            rw [scr] at e
            cases e
            exact g1
      have more : ∀ b ∈ ts, ∃ xs : Array Value, s'.heap.get? b = some { cls := .none, data := .fields xs } := by
        intro b hb
        obtain ⟨p, hp, rfl⟩ := tab b hb
        obtain ⟨xs, z⟩ := un.tbls p.2 #[] (ht p hp)
        exact ⟨_, ok' p.2 _ z⟩
      refine ⟨rfl, ⟨fun b o e => ?_, fun b o e => ?_⟩, os, bare⟩
      · by_cases hb : b ∈ ts
        · obtain ⟨xs, z⟩ := more b hb
          obtain ⟨p, hp, rfl⟩ := tab b hb
          rw [tabs p hp] at e
          cases e
          exact .inr (.inl ⟨((code p hp).tab (tabs p hp)).isCodeTable, rfl, #[], xs, rfl, by rw [Array.empty_append]; exact z⟩)
        · exact .inl (stay b o hb e)
      · by_cases hb : b ∈ ts
        · obtain ⟨xs, z⟩ := more b hb
          exact ⟨_, z⟩
        · exact ⟨o, stay b o hb e⟩
end
/-! ### the walk's end -/
theorem vrs_ints {K : PySem.W.Frag} {μ : List Addr} {H : Hp} : ∀ ns : List Int, VRs K μ H (ns.map V.int) (ns.map PV.int)
  | [] => .nil
  | n :: ns => .cons (.int n) (vrs_ints ns)
/-- what is known at the head's heap: the law's def keeps what the evaluator tells, and that is: true -/
def LawTold (P : Program) (w : World) (k n : Nat) (mg : Str → Option Value) (fa : Addr) (h : Heap) : Prop :=
  ∃ (K : PySem.W.Frag) (cs : List (Addr × Addr)) (T : List (Addr × Str)) (Fn : Fun) (f : Nat), K.In h ∧ (∀ p ∈ cs, h.get? p.2 = some { cls := .none, data := .fields #[] }) ∧ (∀ p ∈ cs, K.lookup p.2 = none) ∧ (∀ p ∈ cs, PySem.W.CodeHd h p.1 p.2) ∧
    (∀ base : Heap, K.In base → base.Ns mainGlobals mg → (∀ p ∈ cs, LamX.TabB base mg p.1 p.2) → FnG P w K mg base T Fn k f fa) ∧ (∀ H : Hp, (∀ p ∈ cs, H p.2 = some (.tbl #[])) → LamX.Tabs T H) ∧
    ∀ ns : List Int, ns.length ≤ n → ∃ hp', Fn f [.fl (ns.map .int)] [] = .ok (.bl true, hp')
theorem walk_told {l : PySem.W.OpenLaw} {n k : Nat} {q : Program} {loose : List Str} {XP : (Str → Option Value) → Heap → Prop} {YP : World → Heap → Prop} {d : DefRec} (most : l.most = some n) (small : n ≤ sizeLine) (nodef : d.params.defaults = []) (room : Room k callerA)
    (told : ∀ (w : World) (mg : Str → Option Value) (fa : Addr) (h : Heap), YP w h → h.Ns mainGlobals mg → mg d.name = some (.ref fa) → LawTold l.prog w k n mg fa h) :
    PySem.W.WalkO q loose XP YP l.row.toRowW d [] (fun f vs => PySem.call f vs) := by
  refine Att.attach_callB most nodef fun w _ s mg mb fa _ _ _ _ a vs ns G Y _ _ _ isLaw isScript nums few _ nogen => ?_
  obtain ⟨K, cs, T, Fn, f, inK, tabs, outK, code, keeps, hT, ev⟩ := told w mg fa _ Y G.T.g isLaw
  refine end_call inK G.T.g G.T.b G.T.builtins G.T.nolimit nogen tabs outK code G.T.bmain isScript nums (Nat.le_trans few small) fun base H kb gb tb ht rl e0 => ?_
  obtain ⟨hp', e⟩ := ev ns few
  refine keeps base kb gb tb callerA [] s H [.ref a] [.ref a] _ room rfl e0 (.cons rfl .nil) ⟨[], [], [.fl (ns.map .int)], .bl true, hp', ⟨fun l o z => by simp at z, by simp, rfl, hT H ht⟩, .cons (.fl rl (vrs_ints ns)) .nil, e, ?_⟩
  intro μ' x H' _ _ r
  cases r
  rfl
end PL
set_option autoImplicit false
set_option linter.all false
set_option maxRecDepth 100000
set_option maxHeartbeats 2000000
/-! PlFacts: what the head's facts tell of each def. -/
namespace PL
open PySem PySem.Spec PyProof.Rows L2
def scopeB (N Pn : List Str) (sc : Scope) : Bool := decide (sc.kind = .function) && !sc.isCoroutine && !sc.isGenerator && decide N.Nodup && decide (N.take Pn.length = Pn) && (Pn.all fun x => decide (sc.names.lookup x = some .local) || decide (sc.names.lookup x = some .cell)) && sc.names.all fun y => !decide (y.2 = .free)
theorem scope_of {N Pn : List Str} {sc : Scope} (h : scopeB N Pn sc = true) : FnScope N Pn sc := by
  unfold scopeB at h
  simp only [Bool.and_eq_true, Bool.or_eq_true, Bool.not_eq_true', decide_eq_true_eq, decide_eq_false_iff_not, List.all_eq_true] at h
  obtain ⟨⟨⟨⟨⟨⟨h1, h2⟩, h3⟩, h4⟩, h5⟩, h6⟩, h7⟩ := h
  exact ⟨h1, h2, h3, h4, h5, h6, fun y hy => h7 y hy⟩
/-- the name of a def's lambda -/
def lamQ (x : Str) : Str := (envOfC x default 0 0 .none).qual ++ "<lambda>"
/-- all that is looked at in a def -/
def defB (C : List (Str × PV)) (M B : List Str) (d : Df) (dk : He.DefD) (lam : Bool) : Bool :=
  decide (d.ar ≤ d.nm.length) && scopeB d.nm (d.nm.take d.ar) dk.scope && mSs ⟨d.nm, dk.scope, d.nm, C, M, B, lam⟩ d.body dk.body
section
variable {fa : List He.Fa} {fn : List He.DefD} {K : PySem.W.Frag} {h base : Heap} {mg : Str → Option Value} {T : List (Addr × Str)} {C : List (Str × PV)} {M B : List Str}
theorem funAt_of (X : K.In h) (G : h.Ns mainGlobals mg) (c : He.SaysD fa fn K) {d : Df} {params : Arguments} {body : List Stmt} {scope : Scope} (i j : Nat) (hi : fn[i]? = some ⟨(d.name, none), d.name, d.name, params, body, scope, [], []⟩) (hj : fa[j]? = some (.glo d.name)) (lam : Bool)
    (ok : defB C M B d ⟨(d.name, none), d.name, d.name, params, body, scope, [], []⟩ lam = true)
    (bnd : ∀ (kV doc pm cdv ct : Value) (an : Option Addr) (us : List Value), us.length = d.ar → bindArgs (PySem.W.fnOf d.name d.name params body scope .none kV doc pm an cdv ct) ⟨us, []⟩ = pure ((d.nm.take d.ar).zip us))
    (lm : lam = true → LamX.TabB base mg (He.cT K (d.name, none)).1 (He.cT K (d.name, none)).2 ∧ ((He.cT K (d.name, none)).2, lamQ d.name) ∈ T ∧ ∀ p ∈ T, p.1 = (He.cT K (d.name, none)).2 → p.2 = lamQ d.name) : FunAt K mg base T C M B d := by
  obtain ⟨fd, F⟩ := c.def_ i hi
  obtain ⟨⟨oc, od, dV, kV, doc, pm, an, cdv, ct, osl, rfl, lk, cd, dfl, _⟩, kp⟩ := F
  have e0 : dV = .none := by
    rcases dfl with ⟨_, e⟩ | ⟨n, _⟩
    · exact e
    · exact absurd rfl n
  subst e0
  unfold defB at ok
  simp only [Bool.and_eq_true, decide_eq_true_eq] at ok
  obtain ⟨⟨o1, o2⟩, o3⟩ := ok
  have g := He.glo_ok X G (c.fact j hj)
  refine ⟨He.fAd K (d.name, none), d.name, params, body, scope, .none, kV, doc, pm, cdv, ct, oc, an, od, osl, lam, g, kp, lk, cd, scope_of o2, fun us hl => bnd _ _ _ _ _ _ us hl, o1, fun hl => ?_, o3⟩
  obtain ⟨c0, e⟩ := He.codeIn_ref cd
  obtain ⟨t1, t2, t3⟩ := lm hl
  have e1 : He.codeOf K (d.name, none) = c0 := He.codeOf_eq lk e
  refine ⟨c0, (He.cT K (d.name, none)).2, e, ?_, t2, t3⟩
  have : (He.cT K (d.name, none)).1 = c0 := e1
  rw [← this]
  exact t1
theorem con_int (X : K.In h) (G : h.Ns mainGlobals mg) (c : He.SaysD fa fn K) {x : Str} {i : Int} (j : Nat) (hj : fa[j]? = some (.int x i)) : ∃ u y, mg x = some u ∧ RelV y u ∧ ∀ μ H, VR K μ H y (.int i) := by
  obtain ⟨t, e⟩ := He.int_ok X G (c.fact j hj)
  exact ⟨_, .int i, e, ⟨t, rfl⟩, fun _ _ => .int i⟩
theorem con_str (X : K.In h) (G : h.Ns mainGlobals mg) (c : He.SaysD fa fn K) {x : Str} {z : List Nat} (j : Nat) (hj : fa[j]? = some (.str x (tx z))) (ok : okB z = true) : ∃ u y, mg x = some u ∧ RelV y u ∧ ∀ μ H, VR K μ H y (.str z) := by
  obtain ⟨t, e⟩ := He.str_ok X G (c.fact j hj)
  exact ⟨_, .str (tx z), e, ⟨t, rfl⟩, fun _ _ => .str z (okB_ok ok)⟩
theorem free_of (X : K.In h) (G : h.Ns mainGlobals mg) (c : He.SaysD fa fn K) {x : Str} (j : Nat) (hj : fa[j]? = some (.free x)) : mg x = none := He.free_ok X G (c.fact j hj)
end
/-- the tables of the defs that make lambdas -/
def tabsT (K : PySem.W.Frag) (tf : List He.Defn) : List (Addr × Str) := tf.map fun p => ((He.cT K p).2, lamQ p.1)
theorem tabs_uniq {K : PySem.W.Frag} {tf : List He.Defn} (nd : (tf.map fun p => (He.cT K p).2).Nodup) {x : Str} (hx : (x, none) ∈ tf) : ((He.cT K (x, none)).2, lamQ x) ∈ tabsT K tf ∧ ∀ p ∈ tabsT K tf, p.1 = (He.cT K (x, none)).2 → p.2 = lamQ x := by
  refine ⟨List.mem_map.mpr ⟨_, hx, rfl⟩, fun p hp e => ?_⟩
  obtain ⟨q, hq, rfl⟩ := List.mem_map.mp hp
  have : ∀ tf : List He.Defn, (tf.map fun p => (He.cT K p).2).Nodup → ∀ a ∈ tf, ∀ b ∈ tf, (He.cT K a).2 = (He.cT K b).2 → a = b := by
    intro tf
    induction tf with
    | nil => intro _ a ha; cases ha
    | cons c cs ih =>
      intro nd a ha b hb e
      rw [List.map_cons, List.nodup_cons] at nd
      rcases List.mem_cons.mp ha with e1 | ha' <;> rcases List.mem_cons.mp hb with e2 | hb'
      · rw [e1, e2]
      · rw [e1] at e
        exact (nd.1 (List.mem_map.mpr ⟨b, hb', e.symm⟩)).elim
      · rw [e2] at e
        exact (nd.1 (List.mem_map.mpr ⟨a, ha', e⟩)).elim
      · exact ih nd.2 a ha' b hb' e
  have := this tf nd q hq _ hx e
  rw [this]
theorem tabs_nil {K : PySem.W.Frag} {tf : List He.Defn} {H : Hp} (h : ∀ p ∈ tf.map (He.cT K), H p.2 = some (.tbl #[])) : LamX.Tabs (tabsT K tf) H := by
  intro p hp
  obtain ⟨q, hq, rfl⟩ := List.mem_map.mp hp
  exact .nil (h _ (List.mem_map.mpr ⟨q, hq, rfl⟩))
end PL
set_option autoImplicit false
set_option linter.all false
/-! PlPure: how the evaluator is reckoned with. -/
namespace PL
open PySem
/-! ### the parts of the evaluator, as rules for simp -/
/-- what comes next: out of simp's sight -/
class Next (α β : Type) where
  f : α → Hv → Except Er β
def thx {α β : Type} (r : R α) [k : Next α β] : Except Er β := thn r k.f
local macro_rules | `(thq $r $f) => `(@thx _ _ $r ⟨$f⟩)
@[simp ↓] theorem thx_ok {α β : Type} (a : α) (h : Hv) (f : α → Hv → Except Er β) : thq (.ok (a, h)) f = f a h := rfl
@[simp ↓] theorem thn_stk {α β : Type} (f : α → Hv → Except Er β) : thq (stk : R α) f = stk := rfl
@[simp ↓] theorem thn_ite {α β : Type} (c : Prop) [Decidable c] (a b : R α) (f : α → Hv → Except Er β) : thq (if c then a else b) f = if c then thq a f else thq b f := by split <;> rfl
/-- which way -/
def iteV {α : Type} (x : PV) (a b : Except Er α) : Except Er α := match x with
  | .bl true => a
  | .bl false => b
  | _ => stk
@[simp ↓] theorem iteV_t {α : Type} (a b : Except Er α) : iteV (.bl true) a b = a := rfl
@[simp ↓] theorem iteV_f {α : Type} (a b : Except Er α) : iteV (.bl false) a b = b := rfl
@[simp ↓] theorem iteV_b {α : Type} (c : Bool) (a b : Except Er α) : iteV (.bl c) a b = if c = true then a else b := by cases c <;> rfl
def notR (x : PV) (h : Hv) : R PV := match x with
  | .bl b => .ok (.bl (!b), h)
  | _ => stk
@[simp] theorem notR_b (b : Bool) (h : Hv) : notR (.bl b) h = .ok (.bl (!b), h) := rfl
/-- what is picked in a comprehension -/
def pick (F : Fun) (c : OEx) (el : Ex) (e : Env) (g : Hv) : R (Option PV) := match c with
  | .none => thq (evE F el e g) fun y g2 => .ok (some y, g2)
  | .some c => thq (evE F c e g) fun x g1 => iteV x (thq (evE F el e g1) fun y g2 => .ok (some y, g2)) (.ok (none, g1))
section
variable (F : Fun) (e : Env) (h : Hv)
@[simp] theorem evE_lit (v : PV) : evE F (.lit v) e h = .ok (v, h) := by unfold evE; rfl
@[simp] theorem evE_glob (x : Str) (v : PV) : evE F (.glob x v) e h = .ok (v, h) := by unfold evE; rfl
@[simp] theorem evE_var (i : Nat) : evE F (.var i) e h = (match e[i]? with
    | some (some v) => .ok (v, h)
    | _ => stk) := by unfold evE; rfl
@[simp] theorem evE_tup (es : Exs) : evE F (.tup es) e h = thq (evEs F es e h) fun vs h1 => if vs.length ≤ line then .ok (.tup vs, h1) else stk := by unfold evE; rfl
@[simp] theorem evE_lst (es : Exs) : evE F (.lst es) e h = thq (evEs F es e h) fun vs h1 => if vs.length ≤ line then alloc (.lst vs) h1 else stk := by unfold evE; rfl
@[simp] theorem evE_dct0 : evE F .dct0 e h = alloc (.dct []) h := by unfold evE; rfl
@[simp] theorem evE_bin (o : Op2) (a b : Ex) : evE F (.bin o a b) e h = thq (evE F a e h) fun x h1 => thq (evE F b e h1) fun y h2 => evBin o x y h2 := by
  conv => lhs; unfold evE
  try rfl
def negV (x : PV) (h : Hv) : R PV := match x with
  | .int i => .ok (.int (-i), h)
  | _ => stk
@[simp] theorem negV_i (i : Int) : negV (.int i) h = .ok (.int (-i), h) := rfl
@[simp] theorem evE_neg (a : Ex) : evE F (.neg a) e h = thq (evE F a e h) fun x h1 => negV x h1 := by
  conv => lhs; unfold evE
  try rfl
@[simp] theorem evE_not (a : Ex) : evE F (.not a) e h = thq (evE F a e h) fun x h1 => notR x h1 := by
  conv => lhs; unfold evE
  try rfl
@[simp] theorem evE_and (es : Exs) : evE F (.and es) e h = evAnd F es e h := by conv => lhs; unfold evE
@[simp] theorem evE_or (es : Exs) : evE F (.or es) e h = evOr F es e h := by conv => lhs; unfold evE
@[simp] theorem evAnd_one (a : Ex) : evAnd F (.cons a .nil) e h = evE F a e h := by conv => lhs; unfold evAnd
@[simp] theorem evAnd_cons (a b : Ex) (bs : Exs) : evAnd F (.cons a (.cons b bs)) e h = thq (evE F a e h) fun x h1 => iteV x (evAnd F (.cons b bs) e h1) (.ok (.bl false, h1)) := by
  conv => lhs; unfold evAnd
  try rfl
@[simp] theorem evOr_one (a : Ex) : evOr F (.cons a .nil) e h = evE F a e h := by conv => lhs; unfold evOr
@[simp] theorem evOr_cons (a b : Ex) (bs : Exs) : evOr F (.cons a (.cons b bs)) e h = thq (evE F a e h) fun x h1 => iteV x (.ok (.bl true, h1)) (evOr F (.cons b bs) e h1) := by
  conv => lhs; unfold evOr
  show thn _ _ = thn _ _
  congr 1
  funext x h1
  cases x <;> first | rfl | skip
  rename_i b
  cases b <;> rfl
@[simp] theorem evE_cmp (o : Cm) (a b : Ex) : evE F (.cmp o a b) e h = thq (evE F a e h) fun x h1 => thq (evE F b e h1) fun y h2 => retB (evCm o x y h2) h2 := by
  conv => lhs; unfold evE
  try rfl
def chnV (o : Option Bool) (a : R PV) (h : Hv) : R PV := match o with
  | some true => a
  | some false => .ok (.bl false, h)
  | none => stk
@[simp ↓] theorem chnV_t (a : R PV) : chnV (some true) a h = a := rfl
@[simp ↓] theorem chnV_f (a : R PV) : chnV (some false) a h = .ok (.bl false, h) := rfl
@[simp ↓] theorem chnV_b (b : Bool) (a : R PV) : chnV (some b) a h = if b = true then a else .ok (.bl false, h) := by cases b <;> rfl
@[simp] theorem evE_chn (o p : Cm) (a b c : Ex) : evE F (.chn o p a b c) e h = thq (evE F a e h) fun x h1 => thq (evE F b e h1) fun y h2 => chnV (evCm o x y h2) (thq (evE F c e h2) fun z h3 => retB (evCm p y z h3) h3) h2 := by
  conv => lhs; unfold evE
  try rfl
@[simp] theorem evE_ite (c a b : Ex) : evE F (.ite c a b) e h = thq (evE F c e h) fun x h1 => iteV x (evE F a e h1) (evE F b e h1) := by
  conv => lhs; unfold evE
  try rfl
@[simp] theorem evE_call (f : Nat) (es : Exs) : evE F (.call f es) e h = thq (evEs F es e h) fun vs h1 => F f vs h1 := by
  conv => lhs; unfold evE
  try rfl
@[simp] theorem evE_blt (f : Bl) (es : Exs) : evE F (.blt f es) e h = thq (evEs F es e h) fun vs h1 => evBl f vs h1 := by
  conv => lhs; unfold evE
  try rfl
@[simp] theorem evE_isi (a : Ex) (t : Ty) : evE F (.isi a t) e h = thq (evE F a e h) fun x h1 => retB (hasTy h1 x t) h1 := by
  conv => lhs; unfold evE
  try rfl
@[simp] theorem evE_mth (m : Mt) (o : Ex) (es : Exs) : evE F (.mth m o es) e h = thq (evE F o e h) fun x h1 => if mtOn x h1 then thq (evEs F es e h1) fun vs h2 => evMt m x vs h2 else stk := by
  conv => lhs; unfold evE
  try rfl
@[simp] theorem evE_idx (a i : Ex) : evE F (.idx a i) e h = thq (evE F a e h) fun x h1 => thq (evE F i e h1) fun y h2 => evIdx x y h2 := by
  conv => lhs; unfold evE
  try rfl
@[simp] theorem evE_slc (a : Ex) (lo hi : OEx) : evE F (.slc a lo hi) e h = thq (evE F a e h) fun x h1 => thq (evO F lo e h1) fun l h2 => thq (evO F hi e h2) fun u h3 => evSlc x l u h3 := by
  conv => lhs; unfold evE
  try rfl
@[simp] theorem evO_none : evO F .none e h = .ok (none, h) := by unfold evO; rfl
@[simp] theorem evO_some (a : Ex) : evO F (.some a) e h = thq (evE F a e h) fun x h1 => .ok (some x, h1) := by
  conv => lhs; unfold evO
  try rfl
@[simp] theorem evEs_nil : evEs F .nil e h = .ok ([], h) := by unfold evEs; rfl
@[simp] theorem evEs_cons (a : Ex) (as : Exs) : evEs F (.cons a as) e h = thq (evE F a e h) fun x h1 => thq (evEs F as e h1) fun xs h2 => .ok (x :: xs, h2) := by
  conv => lhs; unfold evEs
  try rfl
/-- behind a walk -/
def endW (w : Walk) (h : Hv) (ys : List PV) : R PV := match unlk w h with
  | some h3 => if ys.length ≤ line then alloc (.lst ys) h3 else stk
  | none => stk
@[simp] theorem endW_none (xs : List PV) (gd : List Nat) (ys : List PV) : endW ⟨xs, gd, none⟩ h ys = if ys.length ≤ line then alloc (.lst ys) h else stk := rfl
def elC (F : Fun) (own : List Nat) (t : Tg) (c : OEx) (el : Ex) (e : Env) (v : PV) (g : Hv) : R (Option PV) := match bind t v (wipeE e own) with
  | some e1 => pick F c el e1 g
  | none => stk
@[simp] theorem evE_comp (own : List Nat) (t : Tg) (s : Src) (c : OEx) (el : Ex) : evE F (.comp own t s c el) e h = thq (evSrc F s e h) fun w h1 =>
      thq (mapC (elC F own t c el e) (chk w.gd h1) w.xs h1) fun ys h2 => endW w h2 ys := by
  conv => lhs; unfold evE
  try rfl
  show thn _ _ = thn _ _
  congr 1
  funext w h1
  refine congrArg (fun q => thq (mapC q (chk w.gd h1) w.xs h1) fun ys h2 => endW w h2 ys) ?_
  funext v g
  unfold elC
  cases bind t v (wipeE e own) with
  | none => rfl
  | some e1 =>
    unfold pick
    cases c with
    | none => simp only [evC]; rfl
    | some c =>
      simp only [evC]
      cases evE F c e1 g with
      | error z => rfl
      | ok r =>
        obtain ⟨x, g1⟩ := r
        cases x <;> first | rfl | skip
        rename_i b
        cases b <;> rfl
def walkV (o : Option Walk) (h : Hv) : R Walk := match o with
  | some w => .ok (w, h)
  | none => stk
@[simp] theorem walkV_some (w : Walk) : walkV (some w) h = .ok (w, h) := rfl
@[simp] theorem evSrc_val (a : Ex) : evSrc F (.val a) e h = thq (evE F a e h) fun x h1 => walkV (srcItems h1 x) h1 := by
  conv => lhs; unfold evSrc
  try rfl
@[simp] theorem evSrc_keys (i : Nat) : evSrc F (.keys i) e h = (match e[i]? with
    | some (some (.ref l)) => match h[l]? with
      | some (.dct kvs) => .ok (⟨kvs.map (·.1), [l], some (l, kvs)⟩, upd h l (.lkd kvs))
      | _ => stk
    | _ => stk) := by unfold evSrc; rfl
def rng1V (x : PV) (h : Hv) : R Walk := match x with
  | .int i => if small i then .ok (⟨rngL 0 1 i.toNat, [], none⟩, h) else stk
  | _ => stk
@[simp] theorem rng1V_i (i : Int) : rng1V (.int i) h = if small i then .ok (⟨rngL 0 1 i.toNat, [], none⟩, h) else stk := rfl
@[simp] theorem evSrc_rng1 (a : Ex) : evSrc F (.rng1 a) e h = thq (evE F a e h) fun x h1 => rng1V x h1 := by
  conv => lhs; unfold evSrc
  try rfl
def rng2V (x y : PV) (h : Hv) : R Walk := match x, y with
  | .int i, .int j => if small i && small j then .ok (⟨rngL i 1 (j - i).toNat, [], none⟩, h) else stk
  | _, _ => stk
@[simp] theorem rng2V_i (i j : Int) : rng2V (.int i) (.int j) h = if small i && small j then .ok (⟨rngL i 1 (j - i).toNat, [], none⟩, h) else stk := rfl
@[simp] theorem evSrc_rng2 (a b : Ex) : evSrc F (.rng2 a b) e h = thq (evE F a e h) fun x h1 => thq (evE F b e h1) fun y h2 => rng2V x y h2 := by
  conv => lhs; unfold evSrc
  try rfl
def rng3V (x y z : PV) (h : Hv) : R Walk := match x, y, z with
  | .int i, .int j, .int k => if small i && small j && decide (k = -1) then .ok (⟨rngL i k (i - j).toNat, [], none⟩, h) else stk
  | _, _, _ => stk
@[simp] theorem rng3V_i (i j k : Int) : rng3V (.int i) (.int j) (.int k) h = if small i && small j && decide (k = -1) then .ok (⟨rngL i k (i - j).toNat, [], none⟩, h) else stk := rfl
@[simp] theorem evSrc_rng3 (a b c : Ex) : evSrc F (.rng3 a b c) e h = thq (evE F a e h) fun x h1 => thq (evE F b e h1) fun y h2 => thq (evE F c e h2) fun z h3 => rng3V x y z h3 := by
  conv => lhs; unfold evSrc
  try rfl
def enumV (x : PV) (h : Hv) : R Walk := match x with
  | .ref l => match items? h (.ref l) with
    | some xs => .ok (⟨xs.zipIdx.map fun p => .tup [.int p.2, p.1], [l], none⟩, h)
    | none => stk
  | _ => stk
@[simp] theorem evSrc_enum (a : Ex) : evSrc F (.enum a) e h = thq (evE F a e h) fun x h1 => enumV x h1 := by
  conv => lhs; unfold evSrc
  try rfl
def zipV (x y : PV) (h : Hv) : R Walk := match x, y with
  | .ref l, .ref m => match items? h (.ref l), items? h (.ref m) with
    | some xs, some ys => .ok (⟨(xs.zip ys).map fun p => .tup [p.1, p.2], [l, m], none⟩, h)
    | _, _ => stk
  | .tup xs, .tup ys => .ok (⟨(xs.zip ys).map fun p => .tup [p.1, p.2], [], none⟩, h)
  | _, _ => stk
@[simp] theorem evSrc_zip (a b : Ex) : evSrc F (.zip a b) e h = thq (evE F a e h) fun x h1 => thq (evE F b e h1) fun y h2 => zipV x y h2 := by
  conv => lhs; unfold evSrc
  try rfl
def srtV (o : Option (List PV)) (g : PV → Hv → R PV) (h : Hv) : R PV := match o with
  | some xs => thq (keysG g xs h) fun ks h2 => sortBy xs ks h2
  | none => stk
@[simp] theorem srtV_some (xs : List PV) (g : PV → Hv → R PV) : srtV (some xs) g h = thq (keysG g xs h) fun ks h2 => sortBy xs ks h2 := rfl
@[simp] theorem evE_srt (a : Ex) (f : Nat) : evE F (.srt a f) e h = thq (evE F a e h) fun x h1 => srtV (sorts h1 x) (fun x g => F f [x] g) h1 := by
  conv => lhs; unfold evE
  try rfl
@[simp] theorem evE_srtL (a el : Ex) (i : Nat) : evE F (.srtL a i el) e h = thq (evE F a e h) fun x h1 => srtV (sorts h1 x) (fun v g => thq (evE F el (e.set i (some v)) g) fun y g2 => .ok (gcR y g g2)) h1 := by
  conv => lhs; unfold evE
  try rfl
/-! ### statements -/
variable (W : Nat)
/-- and on -/
def seqV (o : Out) (k : Env → R Out) (h : Hv) : R Out := match o with
  | .next e => k e
  | o => .ok (o, h)
@[simp ↓] theorem seqV_next (k : Env → R Out) : seqV (.next e) k h = k e := rfl
@[simp ↓] theorem seqV_ret (v : PV) (k : Env → R Out) : seqV (.ret v) k h = .ok (.ret v, h) := rfl
@[simp ↓] theorem seqV_brk (k : Env → R Out) : seqV (.brk e) k h = .ok (.brk e, h) := rfl
@[simp] theorem evSs_nil : evSs F W .nil e h = .ok (.next e, h) := by unfold evSs; rfl
@[simp] theorem evSs_cons (s : PL.St) (ss : Sts) : evSs F W (.cons s ss) e h = thq (evS F W s e h) fun o h1 => seqV o (fun e1 => evSs F W ss e1 h1) h1 := by
  conv => lhs; unfold evSs
  try rfl
@[simp] theorem evS_set (i : Nat) (a : Ex) : evS F W (.set i a) e h = thq (evE F a e h) fun x h1 => .ok (.next (e.set i (some x)), h1) := by
  conv => lhs; unfold evS
  try rfl
def nextV (o : Option Env) (h : Hv) : R Out := match o with
  | some e1 => .ok (.next e1, h)
  | none => stk
@[simp] theorem nextV_some : nextV (some e) h = .ok (.next e, h) := rfl
@[simp] theorem evS_tset (t : Tg) (a : Ex) : evS F W (.tset t a) e h = thq (evE F a e h) fun x h1 => nextV (bind t x e) h1 := by
  conv => lhs; unfold evS
  try rfl
def storeV (o : Option Hv) (e : Env) : R Out := match o with
  | some h => .ok (.next e, h)
  | none => stk
@[simp] theorem storeV_some : storeV (some h) e = .ok (.next e, h) := rfl
@[simp] theorem evS_sset (o i a : Ex) : evS F W (.sset o i a) e h = thq (evE F a e h) fun v h1 => thq (evE F o e h1) fun x h2 => thq (evE F i e h2) fun y h3 => storeV (evSt x y v h3) e := by
  conv => lhs; unfold evS
  try rfl
@[simp] theorem evS_aug (i : Nat) (o : Op2) (a : Ex) : evS F W (.aug i o a) e h = (match e[i]? with
    | some (some x) => thq (evE F a e h) fun y h1 => thq (evAug o x y h1) fun z h2 => .ok (.next (e.set i (some z)), h2)
    | _ => stk) := by
  conv => lhs; unfold evS
  try rfl
@[simp] theorem evS_expr (a : Ex) : evS F W (.expr a) e h = thq (evE F a e h) fun _ h1 => .ok (.next e, h1) := by
  conv => lhs; unfold evS
  try rfl
@[simp] theorem evS_ite (c : Ex) (a b : Sts) : evS F W (.ite c a b) e h = thq (evE F c e h) fun x h1 => iteV x (evSs F W a e h1) (evSs F W b e h1) := by
  conv => lhs; unfold evS
  try rfl
def stepF (F : Fun) (W : Nat) (t : Tg) (b : Sts) (v : PV) (e : Env) (g : Hv) : R Out := match bind t v e with
  | some e2 => evSs F W b e2 g
  | none => stk
/-- behind a loop -/
def endL (w : Walk) (o : Out) (h : Hv) : R Out := match unlk w h with
  | some h3 => .ok (o, h3)
  | none => stk
@[simp] theorem endL_none (xs : List PV) (gd : List Nat) (o : Out) : endL ⟨xs, gd, none⟩ o h = .ok (o, h) := rfl
@[simp] theorem evS_loop (t : Tg) (s : Src) (b : Sts) : evS F W (.loop t s b) e h = thq (evSrc F s e h) fun w h1 => thq (forC (stepF F W t b) (chk w.gd h1) w.xs e h1) fun o h2 => endL w o h2 := by
  conv => lhs; unfold evS
  try rfl
@[simp] theorem evS_whl (c : Ex) (b : Sts) : evS F W (.whl c b) e h = whlC (evE F c) (evSs F W b) W e h := by
  conv => lhs; unfold evS
  try rfl
@[simp] theorem evS_ret (a : Ex) : evS F W (.ret a) e h = thq (evE F a e h) fun x h1 => .ok (.ret x, h1) := by
  conv => lhs; unfold evS
  try rfl
@[simp] theorem evS_retN : evS F W .retN e h = .ok (.ret .non, h) := by unfold evS; rfl
@[simp] theorem evS_pass : evS F W .pass e h = .ok (.next e, h) := by unfold evS; rfl
@[simp] theorem evS_brk : evS F W .brk e h = .ok (.brk e, h) := by unfold evS; rfl
@[simp] theorem evS_never : evS F W .never e h = stk := by unfold evS; rfl
end
/-! ### what is thrown away -/
@[simp] theorem beq_same (o : PL.PO) : PO.beq o o = true := PO.beq_refl o
@[simp] theorem clean_app (n : Nat) : ∀ (h g : Hv), clean n h (h ++ g) = true
  | [], _ => by cases ‹Hv› <;> rfl
  | o :: h, g => by
    show ((PO.beq o o || PO.rb n o) && clean n h (h ++ g)) = true
    rw [PO.beq_refl, clean_app n h g]; rfl
@[simp] theorem clean_refl (n : Nat) (h : Hv) : clean n h h = true := by
  have := clean_app n h []
  rwa [List.append_nil] at this
mutual
theorem rb_pure (n : Nat) : ∀ v : PV, v.pure = true → v.rb n = true
  | .non, _ => rfl
  | .bl _, _ => rfl
  | .int _, _ => rfl
  | .str _, _ => rfl
  | .tup xs, h => by rw [PV.rb]; rw [PV.pure] at h; exact rbs_pure n xs h
  | .ref _, h => by simp [PV.pure] at h
  | .fl _, h => by simp [PV.pure] at h
theorem rbs_pure (n : Nat) : ∀ xs : List PV, PV.pures xs = true → PV.rbs n xs = true
  | [], _ => rfl
  | x :: xs, h => by
    rw [PV.pures, Bool.and_eq_true] at h
    rw [PV.rbs, rb_pure n x h.1, rbs_pure n xs h.2]; rfl
end
theorem take_app (h g : Hv) : (h ++ g).take h.length = h := by simp
@[simp] theorem gcR_app {v : PV} (hv : v.pure = true) (h g : Hv) : gcR v h (h ++ g) = (v, h) := by
  cases v <;> first | (simp [PV.pure] at hv; done) | (unfold gcR; simp [clean_app, rb_pure _ _ hv, take_app])
@[simp] theorem gcR_same {v : PV} (hv : v.pure = true) (h : Hv) : gcR v h h = (v, h) := by
  have := gcR_app hv h []
  rwa [List.append_nil] at this
theorem gcR_new {h g : Hv} {k : Nat} {xs : List PV} (e : g[k]? = some (.lst xs)) (hx : PV.pures xs = true) : gcR (.ref (h.length + k)) h (h ++ g) = (.ref h.length, h ++ [.lst xs]) := by
  unfold gcR
  dsimp only
  rw [if_neg (by omega), List.getElem?_append_right (by omega), Nat.add_sub_cancel_left, e]
  simp [PO.rb, rbs_pure _ _ hx, clean_app]
theorem gcR_new0 {h g : Hv} {xs : List PV} (hx : PV.pures xs = true) : gcR (.ref h.length) h (h ++ .lst xs :: g) = (.ref h.length, h ++ [.lst xs]) := gcR_new (k := 0) rfl hx
theorem gcE_app {e : Env} (he : e.all (fun o => match o with | some v => v.pure | none => true) = true) (h g : Hv) : gcE e h (h ++ g) = h := by
  unfold gcE
  rw [if_pos]
  · simp
  · rw [clean_app, Bool.and_true]
    rw [List.all_eq_true] at he ⊢
    intro o ho
    have := he o ho
    cases o with
    | none => rfl
    | some v => exact rb_pure _ _ this
/-! ### places in the heap -/
@[simp] theorem get_app0 (h g : Hv) : (h ++ g)[h.length]? = g[0]? := by rw [List.getElem?_append_right (Nat.le_refl _), Nat.sub_self]
@[simp] theorem get_appk (h g : Hv) (k : Nat) : (h ++ g)[h.length + k]? = g[k]? := by rw [List.getElem?_append_right (by omega), Nat.add_sub_cancel_left]
theorem get_low {h : Hv} {l : Nat} {o : PL.PO} (e : h[l]? = some o) (g : Hv) : (h ++ g)[l]? = some o := by
  rw [List.getElem?_append_left (List.getElem?_eq_some_iff.mp e).1]; exact e
@[simp] theorem items_tup (h : Hv) (xs : List PV) : items? h (.tup xs) = some xs := rfl
theorem items_by {h : Hv} {l : Nat} {xs : List PV} (e : h[l]? = some (.lst xs)) : items? h (.ref l) = some xs := by simp only [items?, e]
theorem items_new (h g : Hv) (xs : List PV) : items? (h ++ .lst xs :: g) (.ref h.length) = some xs := items_by (by simp)
/-! ### calls -/
def fin (h : Hv) (o : Out) (h1 : Hv) : R PV := match o with
  | .ret v => .ok (gcR v h h1)
  | .next _ => .ok (gcR .non h h1)
  | .brk _ => stk
@[simp] theorem fin_ret (h h1 : Hv) (v : PV) : fin h (.ret v) h1 = .ok (gcR v h h1) := rfl
@[simp] theorem fin_next (h h1 : Hv) (e : Env) : fin h (.next e) h1 = .ok (gcR .non h h1) := rfl
theorem run_eq {D : List Df} {W n f : Nat} {vs : List PV} {h : Hv} (d : Df) (hd : D[f]? = some d) (hl : vs.length = d.ar) :
    run D W (n + 1) f vs h = thq (evSs (run D W n) W d.body (vs.map some ++ List.replicate (d.nm.length - vs.length) none) h) (fin h) := by
  conv => lhs; unfold run
  rw [hd]
  dsimp only
  rw [if_pos hl]
  congr 1
/-! ### walks -/
/-- each of some things, by what it stands for -/
def mapCm {α : Type} (f : α → Hv → R (Option PV)) (ok : Hv → Bool) : List α → Hv → R (List PV)
  | [], h => .ok ([], h)
  | x :: xs, h => thn (f x h) fun o h1 => match o with
    | some y => let g := gcR y h h1; if ok g.2 then thn (mapCm f ok xs g.2) fun ys h3 => .ok (g.1 :: ys, h3) else stk
    | none => let g := gcE [] h h1; if ok g then mapCm f ok xs g else stk
@[simp] theorem mapC_map {α : Type} (f : PV → Hv → R (Option PV)) (ok : Hv → Bool) (e : α → PV) : ∀ (xs : List α) (h : Hv), mapC f ok (xs.map e) h = mapCm (fun x => f (e x)) ok xs h
  | [], h => rfl
  | x :: xs, h => by
    unfold List.map mapC mapCm
    congr 1
    funext o h1
    cases o with
    | none => simp only [mapC_map f ok e xs]
    | some y => simp only [mapC_map f ok e xs]
theorem gcE_nil (h g : Hv) : gcE [] h (h ++ g) = h := gcE_app rfl h g
/-- a plain one: each gives a value or nothing, and leaves no more than what is thrown away -/
theorem mapCm_opt {α : Type} {ok : Hv → Bool} {h : Hv} {f : α → Hv → R (Option PV)} {r : α → Option PV} : ∀ {xs : List α}, ok h = true → (∀ x ∈ xs, ∃ g, f x h = .ok (r x, h ++ g)) → (∀ x ∈ xs, ∀ v, r x = some v → v.pure = true) →
    mapCm f ok xs h = .ok (xs.filterMap r, h)
  | [], _, _, _ => rfl
  | x :: xs, hk, hf, hp => by
    obtain ⟨g, e⟩ := hf x List.mem_cons_self
    have ih := mapCm_opt (f := f) (r := r) (xs := xs) hk (fun y hy => hf y (List.mem_cons_of_mem _ hy)) (fun y hy => hp y (List.mem_cons_of_mem _ hy))
    unfold mapCm
    rw [e]
    cases er : r x with
    | none => simp [gcE_nil, hk, ih, er]
    | some v =>
      have := hp x List.mem_cons_self v er
      simp [gcR_app this, hk, ih, er]
@[simp] theorem mapCm_all {α : Type} {ok : Hv → Bool} {h : Hv} {r : α → PV} {j : α → Hv → Hv} {xs : List α} (hk : ok h = true) (hp : ∀ x ∈ xs, (r x).pure = true) :
    mapCm (fun x g => .ok (some (r x), g ++ j x g)) ok xs h = .ok (xs.map r, h) := by
  rw [mapCm_opt (r := fun x => some (r x)) hk (fun x _ => ⟨_, rfl⟩) (fun x hx v e => by cases e; exact hp x hx)]
  simp
@[simp] theorem mapCm_all0 {α : Type} {ok : Hv → Bool} {h : Hv} {r : α → PV} {xs : List α} (hk : ok h = true) (hp : ∀ x ∈ xs, (r x).pure = true) :
    mapCm (fun x g => .ok (some (r x), g)) ok xs h = .ok (xs.map r, h) := by
  rw [mapCm_opt (r := fun x => some (r x)) hk (fun x _ => ⟨[], by simp⟩) (fun x hx v e => by cases e; exact hp x hx)]
  simp
theorem mapCm_fil {α : Type} {ok : Hv → Bool} {h : Hv} {p : α → Bool} {r : α → PV} {j j' : α → Hv → Hv} {xs : List α} (hk : ok h = true) (hp : ∀ x ∈ xs, p x = true → (r x).pure = true) :
    mapCm (fun x g => if p x = true then .ok (some (r x), g ++ j x g) else .ok (none, g ++ j' x g)) ok xs h = .ok ((xs.filter p).map r, h) := by
  rw [mapCm_opt (r := fun x => if p x then some (r x) else none) hk (fun x _ => by cases h : p x <;> simp) (fun x hx v e => by
    cases h : p x <;> simp [h] at e
    subst e; exact hp x hx h)]
  congr 2
  induction xs with
  | nil => rfl
  | cons x xs ih => cases h : p x <;> simp [h, ih (fun y hy => hp y (List.mem_cons_of_mem _ hy))]
theorem mapCm_fil0 {α : Type} {ok : Hv → Bool} {h : Hv} {p : α → Bool} {r : α → PV} {xs : List α} (hk : ok h = true) (hp : ∀ x ∈ xs, p x = true → (r x).pure = true) :
    mapCm (fun x g => if p x = true then .ok (some (r x), g) else .ok (none, g)) ok xs h = .ok ((xs.filter p).map r, h) := by
  have := mapCm_fil (ok := ok) (h := h) (p := p) (r := r) (j := fun _ _ => []) (j' := fun _ _ => []) (xs := xs) hk hp
  simpa using this
/-! ### operators at hand -/
@[simp] theorem retB_some (b : Bool) (h : Hv) : retB (some b) h = .ok (.bl b, h) := rfl
@[simp] theorem okv_eq (v : PV) (h : Hv) : okv v h = .ok (v, h) := rfl
@[simp] theorem alloc_eq (o : PL.PO) (h : Hv) : alloc o h = .ok (.ref h.length, h ++ [o]) := rfl
section
variable (h : Hv)
@[simp] theorem cm_eq (a b : PV) : evCm .eq a b h = eqP h a b := rfl
@[simp] theorem cm_ne (a b : PV) : evCm .ne a b h = (eqP h a b).map (!·) := rfl
@[simp] theorem cm_in (a b : PV) : evCm .isin a b h = evIn a b h := rfl
@[simp] theorem cm_notin (a b : PV) : evCm .notin a b h = (evIn a b h).map (!·) := rfl
@[simp] theorem cm_is (a b : PV) : evCm .is a b h = evIs a b := rfl
@[simp] theorem cm_isnot (a b : PV) : evCm .isnot a b h = (evIs a b).map (!·) := rfl
@[simp] theorem cm_lt_i (i j : Int) : evCm .lt (.int i) (.int j) h = some (decide (i < j)) := by simp [evCm, ordOk, ltv]
@[simp] theorem cm_gt_i (i j : Int) : evCm .gt (.int i) (.int j) h = some (decide (j < i)) := by simp [evCm, ordOk, ltv]
@[simp] theorem cm_le_i (i j : Int) : evCm .le (.int i) (.int j) h = some (decide (i ≤ j)) := by simp [evCm, ordOk, ltv, ← decide_not]
@[simp] theorem cm_ge_i (i j : Int) : evCm .ge (.int i) (.int j) h = some (decide (j ≤ i)) := by simp [evCm, ordOk, ltv, ← decide_not]
@[simp] theorem cm_lt_s (i j : List Nat) : evCm .lt (.str i) (.str j) h = some (decide (i < j)) := by simp [evCm, ordOk, ltv]
@[simp] theorem cm_gt_s (i j : List Nat) : evCm .gt (.str i) (.str j) h = some (decide (j < i)) := by simp [evCm, ordOk, ltv]
@[simp] theorem cm_le_s (i j : List Nat) : evCm .le (.str i) (.str j) h = some (!decide (j < i)) := by simp [evCm, ordOk, ltv]
@[simp] theorem cm_ge_s (i j : List Nat) : evCm .ge (.str i) (.str j) h = some (!decide (i < j)) := by simp [evCm, ordOk, ltv]
@[simp] theorem is_non (a : PV) : evIs a .non = some (a == .non) := by cases a <;> rfl
@[simp] theorem is_bl (a b : Bool) : evIs (.bl a) (.bl b) = some (a == b) := rfl
@[simp] theorem ty_non (t : Ty) : hasTy h .non t = some false := by cases t <;> rfl
@[simp] theorem ty_bl_int (b : Bool) : hasTy h (.bl b) .int = some true := rfl
@[simp] theorem ty_bl_bool (b : Bool) : hasTy h (.bl b) .bool = some true := rfl
@[simp] theorem ty_bl_str (b : Bool) : hasTy h (.bl b) .str = some false := rfl
@[simp] theorem ty_bl_tup (b : Bool) : hasTy h (.bl b) .tuple = some false := rfl
@[simp] theorem ty_i_int (i : Int) : hasTy h (.int i) .int = some true := rfl
@[simp] theorem ty_i_bool (i : Int) : hasTy h (.int i) .bool = some false := rfl
@[simp] theorem ty_i_str (i : Int) : hasTy h (.int i) .str = some false := rfl
@[simp] theorem ty_i_tup (i : Int) : hasTy h (.int i) .tuple = some false := rfl
@[simp] theorem ty_s_int (x : List Nat) : hasTy h (.str x) .int = some false := rfl
@[simp] theorem ty_s_bool (x : List Nat) : hasTy h (.str x) .bool = some false := rfl
@[simp] theorem ty_s_str (x : List Nat) : hasTy h (.str x) .str = some true := rfl
@[simp] theorem ty_s_tup (x : List Nat) : hasTy h (.str x) .tuple = some false := rfl
@[simp] theorem ty_t_int (x : List PV) : hasTy h (.tup x) .int = some false := rfl
@[simp] theorem ty_t_bool (x : List PV) : hasTy h (.tup x) .bool = some false := rfl
@[simp] theorem ty_t_str (x : List PV) : hasTy h (.tup x) .str = some false := rfl
@[simp] theorem ty_t_tup (x : List PV) : hasTy h (.tup x) .tuple = some true := rfl
theorem ty_ref {l : Nat} {xs : List PV} (e : h[l]? = some (.lst xs)) (t : Ty) : hasTy h (.ref l) t = some (decide (t = .list)) := by cases t <;> simp [hasTy, e]
@[simp] theorem bl_one (f : Bl) (v : PV) : evBl f [v] h = evBl1 f v h := rfl
@[simp] theorem bl_two (f : Bl) (v u : PV) : evBl f [v, u] h = evBl2 f v u h := rfl
@[simp] theorem len_s (x : List Nat) : evBl1 .len (.str x) h = .ok (.int x.length, h) := rfl
@[simp] theorem len_t (x : List PV) : evBl1 .len (.tup x) h = .ok (.int x.length, h) := rfl
theorem len_l {l : Nat} {xs : List PV} (e : h[l]? = some (.lst xs)) : evBl1 .len (.ref l) h = .ok (.int xs.length, h) := by simp [evBl1, e]
@[simp] theorem ord_one (c : Nat) : evBl1 .ord (.str [c]) h = .ok (.int c, h) := rfl
@[simp] theorem tuple_t (x : List PV) : evBl1 .tuple (.tup x) h = .ok (.tup x, h) := rfl
theorem tuple_l {l : Nat} {xs : List PV} (e : h[l]? = some (.lst xs)) : evBl1 .tuple (.ref l) h = .ok (.tup xs, h) := by simp [evBl1, e]
theorem mapM_some {α β : Type} (f : α → Option β) (g : α → β) : ∀ (xs : List α), (∀ x ∈ xs, f x = some (g x)) → xs.mapM f = some (xs.map g)
  | [], _ => by simp
  | x :: xs, h => by
    rw [List.mapM_cons, h x List.mem_cons_self, mapM_some f g xs fun y hy => h y (List.mem_cons_of_mem _ hy)]
    rfl
@[simp] theorem bools_map {α : Type} (p : α → Bool) (xs : List α) : bools? (xs.map fun x => .bl (p x)) = some (xs.map p) := by
  unfold bools?
  refine (mapM_some _ (fun v : PV => match v with | .bl b => b | _ => false) (xs.map fun x => .bl (p x)) (by
    intro v hv
    obtain ⟨x, _, rfl⟩ := List.mem_map.mp hv
    rfl)).trans ?_
  rw [List.map_map]
  rfl
@[simp] theorem bools_map' (xs : List Bool) : bools? (xs.map .bl) = some xs := by
  have := bools_map id xs
  rwa [List.map_id] at this
@[simp] theorem ints_map {α : Type} (p : α → Int) (xs : List α) : ints? (xs.map fun x => .int (p x)) = some (xs.map p) := by
  unfold ints?
  refine (mapM_some _ (fun v : PV => match v with | .int b => b | _ => 0) (xs.map fun x => .int (p x)) (by
    intro v hv
    obtain ⟨x, _, rfl⟩ := List.mem_map.mp hv
    rfl)).trans ?_
  rw [List.map_map]
  rfl
@[simp] theorem ints_map' (xs : List Int) : ints? (xs.map .int) = some xs := by
  have := ints_map id xs
  rwa [List.map_id] at this
def lstV (o : Option PL.PO) : Option (List PV) := match o with
  | some (.lst xs) => some xs
  | _ => none
@[simp] theorem lstV_l (xs : List PV) : lstV (some (.lst xs)) = some xs := by simp only [lstV]
@[simp] theorem items_get (l : Nat) : items? h (.ref l) = lstV h[l]? := rfl
def getB (o : Option (List Bool)) (f : List Bool → Bool) (h : Hv) : R PV := match o with
  | some bs => okv (.bl (f bs)) h
  | none => stk
@[simp] theorem getB_some (bs : List Bool) (f : List Bool → Bool) : getB (some bs) f h = .ok (.bl (f bs), h) := rfl
def getI (o : Option (List PV)) (f : List PV → R PV) : R PV := match o with
  | some xs => f xs
  | none => stk
@[simp] theorem getI_some (bs : List PV) (f : List PV → R PV) : getI (some bs) f = f bs := rfl
def sumV (o : Option (List Int)) (h : Hv) : R PV := match o with
  | some ns => okv (.int ns.sum) h
  | none => stk
@[simp] theorem sumV_some (ns : List Int) : sumV (some ns) h = .ok (.int ns.sum, h) := rfl
@[simp] theorem all_l (l : Nat) : evBl1 .all (.ref l) h = getI (items? h (.ref l)) fun xs => getB (bools? xs) (·.all id) h := rfl
@[simp] theorem any_l (l : Nat) : evBl1 .any (.ref l) h = getI (items? h (.ref l)) fun xs => getB (bools? xs) (·.any id) h := rfl
@[simp] theorem sum_l (l : Nat) : evBl1 .sum (.ref l) h = getI (items? h (.ref l)) fun xs => sumV (ints? xs) h := rfl
end
/-! ### what is pure -/
@[simp] theorem pure_non : PV.pure .non = true := by simp only [PV.pure]
@[simp] theorem pure_bl (b : Bool) : PV.pure (.bl b) = true := by simp only [PV.pure]
@[simp] theorem pure_int (b : Int) : PV.pure (.int b) = true := by simp only [PV.pure]
@[simp] theorem pure_str (b : List Nat) : PV.pure (.str b) = true := by simp only [PV.pure]
@[simp] theorem pure_tup (b : List PV) : PV.pure (.tup b) = PV.pures b := by rw [PV.pure]
@[simp] theorem pure_ref (b : Nat) : PV.pure (.ref b) = false := by simp only [PV.pure]
@[simp] theorem pure_fl (b : List PV) : PV.pure (.fl b) = false := by simp [PV.pure]
@[simp] theorem pures_nil : PV.pures [] = true := by simp only [PV.pures]
@[simp] theorem pures_cons (x : PV) (xs : List PV) : PV.pures (x :: xs) = (x.pure && PV.pures xs) := by rw [PV.pures]
theorem pures_all : ∀ xs : List PV, PV.pures xs = xs.all PV.pure
  | [] => rfl
  | x :: xs => by rw [pures_cons, pures_all xs]; rfl
theorem pures_by {xs : List PV} (h : ∀ x ∈ xs, x.pure = true) : PV.pures xs = true := by
  rw [pures_all, List.all_eq_true]; exact h
@[simp] theorem pures_map {α : Type} (e : α → PV) (xs : List α) : PV.pures (xs.map e) = xs.all fun x => (e x).pure := by rw [pures_all, List.all_map]; rfl
@[simp] theorem pures_append (xs ys : List PV) : PV.pures (xs ++ ys) = (PV.pures xs && PV.pures ys) := by simp [pures_all]
/-! ### what can be compared -/
@[simp] theorem depth_tup (xs : List PV) : depth (.tup xs) = depths xs + 1 := by rw [depth]
@[simp] theorem depth_non : depth .non = 0 := by simp only [depth]
@[simp] theorem depth_bl (b : Bool) : depth (.bl b) = 0 := by simp only [depth]
@[simp] theorem depth_int (b : Int) : depth (.int b) = 0 := by simp only [depth]
@[simp] theorem depth_str (b : List Nat) : depth (.str b) = 0 := by simp only [depth]
@[simp] theorem depths_nil : depths [] = 0 := by simp only [depths]
@[simp] theorem depths_cons (x : PV) (xs : List PV) : depths (x :: xs) = max (depth x) (depths xs) := by rw [depths]
theorem depths_by {k : Nat} : ∀ {xs : List PV}, (∀ x ∈ xs, depth x ≤ k) → depths xs ≤ k
  | [], _ => by simp
  | x :: xs, h => by
    rw [depths_cons]
    have := h x List.mem_cons_self
    have := depths_by (xs := xs) fun y hy => h y (List.mem_cons_of_mem _ hy)
    omega
theorem depths_map {α : Type} {k : Nat} {e : α → PV} {xs : List α} (h : ∀ x ∈ xs, depth (e x) ≤ k) : depths (xs.map e) ≤ k := depths_by fun v hv => by
  obtain ⟨x, hx, rfl⟩ := List.mem_map.mp hv
  exact h x hx
@[simp] theorem beq_pv (a b : PV) : (a == b) = decide (a = b) := by
  cases h : (a == b)
  · symm; rw [decide_eq_false_iff_not]; intro e; subst e; rw [beq_self_eq_true] at h; cases h
  · symm; rw [decide_eq_true_iff]; exact eq_of_beq h
/-- a value that is no list: alone, not too deep -/
def PV.fl0 (v : PV) : Prop := PV.fit v = true
theorem fit_of {v : PV} (h : v.pure = true) (d : depth v ≤ 60) : PV.fit v = true := by simp [PV.fit, h, d]
theorem fits_of {xs : List PV} (h : PV.pures xs = true) (d : depths xs ≤ 60) : PV.fits xs = true := by simp [PV.fits, h, d]
@[simp] theorem fit_non : PV.fit .non = true := by simp [PV.fit]
@[simp] theorem fit_bl (b : Bool) : PV.fit (.bl b) = true := by simp [PV.fit]
@[simp] theorem fit_i (b : Int) : PV.fit (.int b) = true := by simp [PV.fit]
@[simp] theorem fit_s (b : List Nat) : PV.fit (.str b) = true := by simp [PV.fit]
@[simp] theorem eqP_ii (h : Hv) (i j : Int) : eqP h (.int i) (.int j) = some (decide (i = j)) := by simp [eqP, eqv]
@[simp] theorem eqP_ss (h : Hv) (i j : List Nat) : eqP h (.str i) (.str j) = some (decide (i = j)) := by simp [eqP, eqv]
@[simp] theorem eqP_bb (h : Hv) (i j : Bool) : eqP h (.bl i) (.bl j) = some (i == j) := by simp [eqP, eqv]
theorem eqP_tt (h : Hv) (xs ys : List PV) (hx : PV.fit (.tup xs) = true) (hy : PV.fit (.tup ys) = true) : eqP h (.tup xs) (.tup ys) = some (eqvs xs ys) := by simp [eqP, hx, hy, eqv]
theorem eqP_rr {h : Hv} {l m : Nat} {xs ys : List PV} (e : h[l]? = some (.lst xs)) (e2 : h[m]? = some (.lst ys)) (hx : PV.fits xs = true) (hy : PV.fits ys = true) : eqP h (.ref l) (.ref m) = some (eqvs xs ys) := by simp [eqP, e, e2, hx, hy]
@[simp] theorem eqvs_nil : eqvs [] [] = true := by simp only [eqvs]
@[simp] theorem eqvs_cons (x : PV) (xs : List PV) : eqvs [] (x :: xs) = false := by simp only [eqvs]
@[simp] theorem eqvs_cons' (x : PV) (xs : List PV) : eqvs (x :: xs) [] = false := by simp only [eqvs]
@[simp] theorem eqvs_cc (x y : PV) (xs ys : List PV) : eqvs (x :: xs) (y :: ys) = (eqv x y && eqvs xs ys) := by rw [eqvs]
@[simp] theorem eqv_tt (xs ys : List PV) : eqv (.tup xs) (.tup ys) = eqvs xs ys := by rw [eqv]
@[simp] theorem eqv_ii (x y : Int) : eqv (.int x) (.int y) = decide (x = y) := by simp only [eqv]
@[simp] theorem eqv_ss (x y : List Nat) : eqv (.str x) (.str y) = decide (x = y) := by simp only [eqv]
/-- things that are told apart by what stands for them -/
theorem eqvs_map {α : Type} [DecidableEq α] {e : α → PV} (he : ∀ a b, eqv (e a) (e b) = decide (a = b)) : ∀ xs ys : List α, eqvs (xs.map e) (ys.map e) = decide (xs = ys)
  | [], [] => by simp
  | [], y :: ys => by simp
  | x :: xs, [] => by simp
  | x :: xs, y :: ys => by
    simp [he, eqvs_map he xs ys]
@[simp] theorem eqvs_strs (xs ys : List (List Nat)) : eqvs (xs.map .str) (ys.map .str) = decide (xs = ys) := eqvs_map (fun a b => by simp) xs ys
@[simp] theorem eqvs_nil_r (xs : List PV) : eqvs xs [] = decide (xs = []) := by cases xs <;> simp
@[simp] theorem eqvs_nil_l (xs : List PV) : eqvs [] xs = decide (xs = []) := by cases xs <;> simp
/-! ### places -/
theorem ix_lt {n k : Nat} (h : k < n) : ix n (k : Int) = some k := by unfold ix; simp; omega
@[simp] theorem ix_zero (n : Nat) : ix (n + 1) 0 = some 0 := by simp [ix]
@[simp] theorem idx_t0 (h : Hv) (x : PV) (xs : List PV) : evIdx (.tup (x :: xs)) (.int 0) h = .ok (x, h) := by simp [evIdx, dict?, ix, items?]
theorem idx_tup {h : Hv} {xs : List PV} {k : Nat} {v : PV} (e : xs[k]? = some v) : evIdx (.tup xs) (.int k) h = .ok (v, h) := by
  have := (List.getElem?_eq_some_iff.mp e).1
  simp [evIdx, dict?, items?, ix_lt this, e]
@[simp] theorem idx_t1 (h : Hv) (x y : PV) (xs : List PV) : evIdx (.tup (x :: y :: xs)) (.int 1) h = .ok (y, h) := idx_tup (k := 1) rfl
@[simp] theorem idx_t2 (h : Hv) (x y z : PV) (xs : List PV) : evIdx (.tup (x :: y :: z :: xs)) (.int 2) h = .ok (z, h) := idx_tup (k := 2) rfl
theorem idx_str {h : Hv} {xs : List Nat} {k : Nat} {v : Nat} (e : xs[k]? = some v) : evIdx (.str xs) (.int k) h = .ok (.str [v], h) := by
  have := (List.getElem?_eq_some_iff.mp e).1
  simp [evIdx, dict?, ix_lt this, e]
theorem idx_lst {h : Hv} {l : Nat} {xs : List PV} {k : Nat} {v : PV} (el : h[l]? = some (.lst xs)) (e : xs[k]? = some v) : evIdx (.ref l) (.int k) h = .ok (v, h) := by
  have := (List.getElem?_eq_some_iff.mp e).1
  simp [evIdx, dict?, items?, el, ix_lt this, e]
@[simp] theorem sx_none (n d : Nat) : sx n d none = d := rfl
@[simp] theorem sx_nat (n d k : Nat) : sx n d (some (k : Int)) = min k n := by simp [sx]
@[simp] theorem bound_none : bound? none = some none := rfl
@[simp] theorem bound_int (i : Int) : bound? (some (.int i)) = some (some i) := rfl
@[simp] theorem cutL_to {α : Type} (xs : List α) (k : Nat) : cutL xs none (some (k : Int)) = xs.take k := by
  unfold cutL
  simp only [sx_none, sx_nat, List.drop_zero, Nat.sub_zero]
  rw [List.take_eq_take_iff]; omega
@[simp] theorem cutL_from {α : Type} (xs : List α) (k : Nat) : cutL xs (some (k : Int)) none = xs.drop k := by
  unfold cutL
  simp only [sx_none, sx_nat]
  rw [List.take_of_length_le (by simp), List.drop_eq_drop_iff]; omega
@[simp high] theorem cutL_map {α β : Type} (f : α → β) (xs : List α) (lo hi : Option Int) : cutL (xs.map f) lo hi = (cutL xs lo hi).map f := by
  unfold cutL
  rw [List.map_take, List.map_drop, List.length_map]
section
variable (h : Hv) (xs : List PV) (x : List Nat) (i j : Int)
@[simp] theorem slc_t1 : evSlc (.tup xs) none (some (.int i)) h = .ok (.tup (cutL xs none (some i)), h) := rfl
@[simp] theorem slc_t2 : evSlc (.tup xs) (some (.int i)) none h = .ok (.tup (cutL xs (some i) none), h) := rfl
@[simp] theorem slc_t3 : evSlc (.tup xs) (some (.int i)) (some (.int j)) h = .ok (.tup (cutL xs (some i) (some j)), h) := rfl
@[simp] theorem slc_s1 : evSlc (.str x) none (some (.int i)) h = .ok (.str (cutL x none (some i)), h) := rfl
@[simp] theorem slc_s2 : evSlc (.str x) (some (.int i)) none h = .ok (.str (cutL x (some i) none), h) := rfl
@[simp] theorem slc_s3 : evSlc (.str x) (some (.int i)) (some (.int j)) h = .ok (.str (cutL x (some i) (some j)), h) := rfl
def slcL (xs : List PV) (lo hi : Option PV) (h : Hv) : R PV := match bound? lo, bound? hi with
  | some l, some u => alloc (.lst (cutL xs l u)) h
  | _, _ => stk
theorem slc_l {l : Nat} (e : h[l]? = some (.lst xs)) (lo hi : Option PV) : evSlc (.ref l) lo hi h = slcL xs lo hi h := by
  unfold evSlc slcL
  cases bound? lo <;> cases bound? hi <;> simp [e]
end
@[simp] theorem sing_lt (a b : Nat) : ([a] : List Nat) < [b] ↔ a < b := by simp [List.cons_lt_cons_iff]
@[simp] theorem sing_le (a b : Nat) : ([a] : List Nat) ≤ [b] ↔ a ≤ b := by
  rw [← List.not_lt, sing_lt]; omega
@[simp] theorem ite_okb (c : Prop) [Decidable c] (a b : Bool) (h : Hv) : (if c then (Except.ok (PV.bl a, h) : R PV) else .ok (.bl b, h)) = .ok (.bl (if c then a else b), h) := by split <;> rfl
@[simp] theorem le_line {n : Nat} (h : n ≤ 1000000) : n ≤ line := by unfold line; omega
@[simp] theorem src_t (h : Hv) (xs : List PV) : srcItems h (.tup xs) = some ⟨xs, [], none⟩ := rfl
@[simp] theorem src_s (h : Hv) (x : List Nat) : srcItems h (.str x) = some ⟨x.map fun c => .str [c], [], none⟩ := rfl
theorem src_l {h : Hv} {l : Nat} {xs : List PV} (e : h[l]? = some (.lst xs)) : srcItems h (.ref l) = some ⟨xs, [l], none⟩ := by simp [srcItems, e]
@[simp] theorem chk_nil (h h' : Hv) : chk [] h h' = true := by simp only [chk, List.all_nil]
theorem chk_one {h : Hv} {l : Nat} {o : PL.PO} (e : h[l]? = some o) : chk [l] h h = true := chk1' e
  where chk1' {h : Hv} {l : Nat} {o : PL.PO} (e : h[l]? = some o) : chk [l] h h = true := by simp [chk, e]
@[simp] theorem wipe_nil (e : Env) : wipeE e [] = e := rfl
@[simp] theorem wipe_cons (e : Env) (v : Nat) (vs : List Nat) : wipeE e (v :: vs) = (wipeE e vs).set v none := rfl
@[simp] theorem bind_name (i : Nat) (v : PV) (e : Env) : bind (.name i) v e = some (e.set i (some v)) := rfl
def andB (o : Option Env) (t : Tg) (v : PV) : Option Env := match o with
  | some e => bind t v e
  | none => none
@[simp] theorem andB_some (e : Env) (t : Tg) (v : PV) : andB (some e) t v = bind t v e := rfl
@[simp] theorem bind_2 (a b : Tg) (x y : PV) (e : Env) : bind (.tup2 a b) (.tup [x, y]) e = andB (bind a x e) b y := by
  rw [bind]; rfl
@[simp] theorem bind_3 (a b c : Tg) (x y z : PV) (e : Env) : bind (.tup3 a b c) (.tup [x, y, z]) e = andB (andB (bind a x e) b y) c z := by
  rw [bind]
  cases bind a x e with
  | none => rfl
  | some e1 => rfl
def elV (o : Option Env) (F : Fun) (c : OEx) (el : Ex) (g : Hv) : R (Option PV) := match o with
  | some e1 => pick F c el e1 g
  | none => stk
@[simp] theorem elV_some (e : Env) (F : Fun) (c : OEx) (el : Ex) (g : Hv) : elV (some e) F c el g = pick F c el e g := rfl
@[simp] theorem elC_eq (F : Fun) (own : List Nat) (t : Tg) (c : OEx) (el : Ex) (e : Env) (v : PV) : elC F own t c el e v = fun g => elV (bind t v (wipeE e own)) F c el g := rfl
@[simp] theorem pick_none (F : Fun) (el : Ex) (e : Env) (g : Hv) : pick F .none el e g = thq (evE F el e g) fun y g2 => .ok (some y, g2) := rfl
@[simp] theorem pick_some (F : Fun) (c el : Ex) (e : Env) (g : Hv) : pick F (.some c) el e g = thq (evE F c e g) fun x g1 => iteV x (thq (evE F el e g1) fun y g2 => .ok (some y, g2)) (.ok (none, g1)) := rfl
section
variable (n k : Nat)
@[simp] theorem cle : ((n : Int) ≤ (no_index (OfNat.ofNat k) : Int)) ↔ n ≤ OfNat.ofNat k := Int.ofNat_le
@[simp] theorem clt : ((n : Int) < (no_index (OfNat.ofNat k) : Int)) ↔ n < OfNat.ofNat k := Int.ofNat_lt
@[simp] theorem cge : ((no_index (OfNat.ofNat k) : Int) ≤ (n : Int)) ↔ OfNat.ofNat k ≤ n := Int.ofNat_le
@[simp] theorem cgt : ((no_index (OfNat.ofNat k) : Int) < (n : Int)) ↔ OfNat.ofNat k < n := Int.ofNat_lt
@[simp] theorem ceq : ((n : Int) = (no_index (OfNat.ofNat k) : Int)) ↔ n = OfNat.ofNat k := Int.ofNat_inj
end
def same? (o p : Option PL.PO) : Bool := match o, p with
  | some o, some p => PO.beq p o
  | _, _ => false
@[simp] theorem same_some (o p : PL.PO) : same? (some o) (some p) = PO.beq p o := by simp only [same?]
@[simp] theorem chk_cons (l : Nat) (ls : List Nat) (h h' : Hv) : chk (l :: ls) h h' = (same? h[l]? h'[l]? && chk ls h h') := by
  unfold chk same?
  rw [List.all_cons]
  try rfl
@[simp] theorem in_s (c : Nat) (y : List Nat) (h : Hv) : evIn (.str [c]) (.str y) h = some (y.contains c) := by simp [evIn, dict?]
/-- how many turns a loop may take -/
def WW : Nat := 100000
theorem ww_big : 10000 < WW := by decide
def whlV (c : Env → Hv → R PV) (f : Env → Hv → R Out) (k : Nat) (e : Env) (h : Hv) (v : PV) (h1 : Hv) : R Out := match v with
  | .bl true => thq (f e h1) fun o h2 => match o with
      | .next e1 => whlC c f k e1 (gcE e1 h h2)
      | .brk e1 => .ok (.next e1, h2)
      | .ret v => .ok (.ret v, h2)
  | .bl false => .ok (.next e, gcE e h h1)
  | _ => stk
theorem whlC_succ (c : Env → Hv → R PV) (f : Env → Hv → R Out) (k : Nat) (e : Env) (h : Hv) : whlC c f (k + 1) e h = thq (c e h) (whlV c f k e h) := by
  conv => lhs; unfold whlC
  rfl
theorem whlC_end {c : Env → Hv → R PV} {f : Env → Hv → R Out} {k : Nat} {e : Env} {h h1 : Hv} (e1 : c e h = .ok (.bl false, h1)) : whlC c f (k + 1) e h = .ok (.next e, gcE e h h1) := by
  rw [whlC_succ, e1]; rfl
theorem whlC_next {c : Env → Hv → R PV} {f : Env → Hv → R Out} {k : Nat} {e e2 : Env} {h h1 h2 : Hv} (e1 : c e h = .ok (.bl true, h1)) (e3 : f e h1 = .ok (.next e2, h2)) : whlC c f (k + 1) e h = whlC c f k e2 (gcE e2 h h2) := by
  rw [whlC_succ, e1]
  show thq (f e h1) _ = _
  rw [e3]; rfl
theorem whlC_ret {c : Env → Hv → R PV} {f : Env → Hv → R Out} {k : Nat} {e : Env} {v : PV} {h h1 h2 : Hv} (e1 : c e h = .ok (.bl true, h1)) (e3 : f e h1 = .ok (.ret v, h2)) : whlC c f (k + 1) e h = .ok (.ret v, h2) := by
  rw [whlC_succ, e1]
  show thq (f e h1) _ = _
  rw [e3]; rfl
theorem gcE_same {e : Env} (he : e.all (fun o => match o with | some v => v.pure | none => true) = true) (h : Hv) : gcE e h h = h := by
  have := gcE_app he h []
  rwa [List.append_nil] at this
/-- no lists in it -/
def envP (e : Env) : Bool := e.all fun o => match o with | some v => v.pure | none => true
@[simp] theorem envP_nil : envP [] = true := by simp only [envP, List.all_nil]
@[simp] theorem envP_some (v : PV) (e : Env) : envP (some v :: e) = (v.pure && envP e) := by simp only [envP, List.all_cons]
@[simp] theorem envP_none (e : Env) : envP (none :: e) = envP e := by simp [envP, List.all_cons]
@[simp] theorem gcE_app' {e : Env} (he : envP e = true) (h g : Hv) : gcE e h (h ++ g) = h := gcE_app he h g
@[simp] theorem gcE_same' {e : Env} (he : envP e = true) (h : Hv) : gcE e h h = h := gcE_same he h
section
variable (h : Hv)
@[simp] theorem add_ii (i j : Int) : evBin .add (.int i) (.int j) h = .ok (.int (i + j), h) := rfl
@[simp] theorem sub_ii (i j : Int) : evBin .sub (.int i) (.int j) h = .ok (.int (i - j), h) := rfl
@[simp] theorem add_ss (x y : List Nat) : evBin .add (.str x) (.str y) h = if x.length + y.length ≤ line then .ok (.str (x ++ y), h) else stk := rfl
@[simp] theorem add_tt (x y : List PV) : evBin .add (.tup x) (.tup y) h = if x.length + y.length ≤ line then .ok (.tup (x ++ y), h) else stk := rfl
def catV (o p : Option PL.PO) (h : Hv) : R PV := match o, p with
  | some (.lst x), some (.lst y) => if x.length + y.length ≤ line then alloc (.lst (x ++ y)) h else stk
  | _, _ => stk
@[simp] theorem catV_some (x y : List PV) : catV (some (.lst x)) (some (.lst y)) h = if x.length + y.length ≤ line then alloc (.lst (x ++ y)) h else stk := rfl
@[simp] theorem add_ll (l m : Nat) : evBin .add (.ref l) (.ref m) h = catV h[l]? h[m]? h := rfl
@[simp] theorem mul_ii (i j : Int) : evBin .mul (.int i) (.int j) h = if mulOk i j then .ok (.int (i * j), h) else stk := rfl
theorem mulOk_r {i j : Int} (h : -(2 ^ 64) < j) (h2 : j < 2 ^ 64) : mulOk i j = true := by unfold mulOk; exact decide_eq_true (.inr ⟨h, h2⟩)
theorem mulOk_l {i j : Int} (h : -(2 ^ 64) < i) (h2 : i < 2 ^ 64) : mulOk i j = true := by unfold mulOk; exact decide_eq_true (.inl ⟨h, h2⟩)
@[simp] theorem fdiv_ii (i j : Int) : evBin .fdiv (.int i) (.int j) h = if j ≠ 0 ∧ j.natAbs < 1073741824 then .ok (.int (i.fdiv j), h) else stk := rfl
@[simp] theorem mod_ii (i j : Int) : evBin .mod (.int i) (.int j) h = if j ≠ 0 then .ok (.int (i.fmod j), h) else stk := rfl
@[simp] theorem pow_ii (i j : Int) : evBin .pow (.int i) (.int j) h = if 0 ≤ j ∧ j ≤ 1000 ∧ i.natAbs < 2 ^ 64 then .ok (.int (i ^ j.toNat), h) else stk := rfl
@[simp] theorem mul_si (x : List Nat) (j : Int) : evBin .mul (.str x) (.int j) h = if x.length * j.toNat ≤ line && decide (j < 2 ^ 62) && decide (-(2 ^ 62) < j) then .ok (.str (repN j.toNat x), h) else stk := rfl
@[simp] theorem aug_ii (i j : Int) : evAug .add (.int i) (.int j) h = .ok (.int (i + j), h) := rfl
@[simp] theorem aug_tt (x y : List PV) : evAug .add (.tup x) (.tup y) h = if x.length + y.length ≤ line then .ok (.tup (x ++ y), h) else stk := rfl
@[simp] theorem aug_ss (x y : List Nat) : evAug .add (.str x) (.str y) h = if x.length + y.length ≤ line then .ok (.str (x ++ y), h) else stk := rfl
def augV (l : Nat) (o p : Option PL.PO) (h : Hv) : R PV := match o, p with
  | some (.lst x), some (.lst y) => if x.length + y.length ≤ line then .ok (.ref l, upd h l (.lst (x ++ y))) else stk
  | _, _ => stk
@[simp] theorem augV_some (l : Nat) (x y : List PV) : augV l (some (.lst x)) (some (.lst y)) h = if x.length + y.length ≤ line then .ok (.ref l, upd h l (.lst (x ++ y))) else stk := rfl
@[simp] theorem aug_ll (l m : Nat) : evAug .add (.ref l) (.ref m) h = augV l h[l]? h[m]? h := rfl
@[simp] theorem abs_i (i : Int) : evBl1 .abs (.int i) h = .ok (.int (if i < 0 then -i else i), h) := rfl
@[simp] theorem int_i (i : Int) : evBl1 .int (.int i) h = .ok (.int i, h) := rfl
@[simp] theorem int_b (b : Bool) : evBl1 .int (.bl b) h = .ok (.int (b2 b), h) := rfl
@[simp] theorem int_s (x : List Nat) : evBl1 .int (.str x) h = if 0 < x.length ∧ x.length ≤ 640 ∧ x.all isDig then .ok (.int (digVal x), h) else stk := rfl
@[simp] theorem str_i (i : Int) : evBl1 .str (.int i) h = if i.natAbs.log2 < 1920 then .ok (.str (numText i), h) else stk := rfl
@[simp] theorem repr_v (v : PV) : evBl1 .repr v h = if reprOk v then .ok (.str (shownT v), h) else stk := by cases v <;> rfl
def lenV (o : Option PL.PO) (h : Hv) : R PV := match o with
  | some (.lst x) => okv (.int x.length) h
  | some (.dct x) => okv (.int x.length) h
  | some (.lkd x) => okv (.int x.length) h
  | none => stk
@[simp] theorem lenV_l (x : List PV) : lenV (some (.lst x)) h = .ok (.int x.length, h) := rfl
@[simp] theorem lenV_d (x : List (PV × PV)) : lenV (some (.dct x)) h = .ok (.int x.length, h) := rfl
@[simp] theorem len_r (l : Nat) : evBl1 .len (.ref l) h = lenV h[l]? h := rfl
def tupV (o : Option PL.PO) (h : Hv) : R PV := match o with
  | some (.lst x) => okv (.tup x) h
  | _ => stk
@[simp] theorem tupV_l (x : List PV) : tupV (some (.lst x)) h = .ok (.tup x, h) := rfl
@[simp] theorem tuple_r (l : Nat) : evBl1 .tuple (.ref l) h = tupV h[l]? h := rfl
def listV (o : Option PL.PO) (h : Hv) : R PV := match o with
  | some (.lst x) => alloc (.lst x) h
  | _ => stk
@[simp] theorem listV_l (x : List PV) : listV (some (.lst x)) h = .ok (.ref h.length, h ++ [.lst x]) := rfl
@[simp] theorem list_r (l : Nat) : evBl1 .list (.ref l) h = listV h[l]? h := rfl
@[simp] theorem list_t (x : List PV) : evBl1 .list (.tup x) h = .ok (.ref h.length, h ++ [.lst x]) := rfl
def leastV (h : Hv) : List PV → R PV
  | x :: xs => if ordAll x xs then okv (least ltv x xs) h else stk
  | [] => stk
def mostV (h : Hv) : List PV → R PV
  | x :: xs => if ordAll x xs then okv (most ltv x xs) h else stk
  | [] => stk
@[simp] theorem min_r (l : Nat) : evBl1 .min (.ref l) h = getI (items? h (.ref l)) (leastV h) := by
  unfold evBl1 getI
  dsimp only
  cases items? h (.ref l) with
  | none => rfl
  | some xs => cases xs <;> rfl
@[simp] theorem max_r (l : Nat) : evBl1 .max (.ref l) h = getI (items? h (.ref l)) (mostV h) := by
  unfold evBl1 getI
  dsimp only
  cases items? h (.ref l) with
  | none => rfl
  | some xs => cases xs <;> rfl
@[simp] theorem max_ii (i j : Int) : evBl2 .max (.int i) (.int j) h = .ok (.int (if j > i then j else i), h) := rfl
@[simp] theorem min_ii (i j : Int) : evBl2 .min (.int i) (.int j) h = .ok (.int (if j < i then j else i), h) := rfl
@[simp] theorem mt_one (m : Mt) (o v : PV) : evMt m o [v] h = evMt1 m o v h := rfl
def appV (l : Nat) (o : Option PL.PO) (v : PV) (h : Hv) : R PV := match o with
  | some (.lst xs) => if xs.length < line then okv .non (upd h l (.lst (xs ++ [v]))) else stk
  | _ => stk
@[simp] theorem appV_l (l : Nat) (xs : List PV) (v : PV) : appV l (some (.lst xs)) v h = if xs.length < line then .ok (.non, upd h l (.lst (xs ++ [v]))) else stk := rfl
@[simp] theorem append_r (l : Nat) (v : PV) : evMt1 .append (.ref l) v h = appV l h[l]? v h := rfl
def isL (o : Option PL.PO) : Bool := match o with
  | some (.lst _) => true
  | _ => false
@[simp] theorem isL_l (xs : List PV) : isL (some (.lst xs)) = true := by simp only [isL]
@[simp] theorem mtOn_s (x : List Nat) : mtOn (.str x) h = true := by simp only [mtOn]
@[simp] theorem mtOn_r (l : Nat) : mtOn (.ref l) h = isL h[l]? := rfl
theorem index_s {x : List Nat} {c i : Nat} (e : x.findIdx? (· == c) = some i) : evMt1 .index (.str x) (.str [c]) h = .ok (.int i, h) := by simp [evMt1, e]
theorem upd_new (h g : Hv) (o p : PL.PO) : upd (h ++ o :: g) h.length p = h ++ p :: g := by simp [upd]
end
@[simp low] theorem mapC_id (f : PV → Hv → R (Option PV)) (ok : Hv → Bool) (xs : List PV) (h : Hv) : mapC f ok xs h = mapCm (fun x g => f x g) ok xs h := by
  have := mapC_map f ok id xs h
  rw [List.map_id] at this
  exact this
@[simp] theorem idx_s0 (h : Hv) (c : Nat) (x : List Nat) : evIdx (.str (c :: x)) (.int 0) h = .ok (.str [c], h) := idx_str (k := 0) rfl
theorem pures_memb {xs : List PV} (h : PV.pures xs = true) : ∀ x ∈ xs, x.pure = true := by
  rw [pures_all, List.all_eq_true] at h
  exact h
@[simp] theorem mapCm_map {α β : Type} (f : β → Hv → R (Option PV)) (ok : Hv → Bool) (e : α → β) : ∀ (xs : List α) (h : Hv), mapCm f ok (xs.map e) h = mapCm (fun x g => f (e x) g) ok xs h
  | [], h => rfl
  | x :: xs, h => by
    unfold List.map mapCm
    congr 1
    funext o h1
    cases o with
    | none => simp only [mapCm_map f ok e xs]
    | some y => simp only [mapCm_map f ok e xs]
/-- values alone -/
structure PureV where
  v : PV
  ok : v.pure = true
@[simp] theorem pure_val (y : PureV) : y.v.pure = true := y.ok
theorem pures_lift {xs : List PV} (h : PV.pures xs = true) : ∃ ys : List PureV, xs = ys.map PureV.v := by
  induction xs with
  | nil => exact ⟨[], rfl⟩
  | cons x xs ih =>
    rw [pures_cons, Bool.and_eq_true] at h
    obtain ⟨ys, e⟩ := ih h.2
    subst e
    exact ⟨⟨x, h.1⟩ :: ys, rfl⟩
/-! ### lists that stay -/
def gcV (k : Nat) (o : Option PL.PO) (h g : Hv) : PV × Hv := match o with
  | some (.lst xs) => if PV.pures xs then (.ref h.length, h ++ [.lst xs]) else gcR (.ref (h.length + k)) h (h ++ g)
  | _ => gcR (.ref (h.length + k)) h (h ++ g)
@[simp] theorem gcV_l (k : Nat) (xs : List PV) (h g : Hv) (hx : PV.pures xs = true) : gcV k (some (.lst xs)) h g = (.ref h.length, h ++ [.lst xs]) := by simp [gcV, hx]
@[simp] theorem gcR_k (h g : Hv) (k : Nat) : gcR (.ref (h.length + k)) h (h ++ g) = gcV k g[k]? h g := by
  unfold gcV
  split
  · split
    · rename_i xs e hx
      exact gcR_new e hx
    · rfl
  · rfl
@[simp] theorem gcR_z (h g : Hv) : gcR (.ref h.length) h (h ++ g) = gcV 0 g[0]? h g := gcR_k h g 0
def envR (n : Nat) (e : Env) : Bool := e.all fun o => match o with | some v => v.rb n | none => true
@[simp] theorem envR_nil (n : Nat) : envR n [] = true := by simp only [envR, List.all_nil]
@[simp] theorem envR_some (n : Nat) (v : PV) (e : Env) : envR n (some v :: e) = (v.rb n && envR n e) := by simp only [envR, List.all_cons]
@[simp] theorem envR_none (n : Nat) (e : Env) : envR n (none :: e) = envR n e := by simp [envR, List.all_cons]
@[simp] theorem rb_ref (n l : Nat) : PV.rb n (.ref l) = decide (l < n) := by simp only [PV.rb]
@[simp] theorem rb_pure' (n : Nat) (v : PV) (h : v.pure = true) : v.rb n = true := rb_pure n v h
@[simp] theorem rb_tup (n : Nat) (xs : List PV) : PV.rb n (.tup xs) = PV.rbs n xs := by rw [PV.rb]
@[simp] theorem rbs_nil (n : Nat) : PV.rbs n [] = true := by simp only [PV.rbs]
@[simp] theorem rbs_cons (n : Nat) (x : PV) (xs : List PV) : PV.rbs n (x :: xs) = (x.rb n && PV.rbs n xs) := by rw [PV.rbs]
theorem rbs_all (n : Nat) : ∀ xs : List PV, PV.rbs n xs = xs.all fun x => x.rb n
  | [] => by simp
  | x :: xs => by simp [rbs_all n xs]
@[simp] theorem rbs_map {α : Type} (n : Nat) (e : α → PV) (xs : List α) : PV.rbs n (xs.map e) = xs.all fun x => (e x).rb n := by rw [rbs_all, List.all_map]; rfl
@[simp] theorem rbs_append (n : Nat) (xs ys : List PV) : PV.rbs n (xs ++ ys) = (PV.rbs n xs && PV.rbs n ys) := by simp [rbs_all]
@[simp] theorem rb_lst (n : Nat) (xs : List PV) : PO.rb n (.lst xs) = PV.rbs n xs := by simp only [PO.rb]
@[simp] theorem rb_dct (n : Nat) (kvs : List (PV × PV)) : PO.rb n (.dct kvs) = kvs.all fun p => p.1.rb n && p.2.rb n := by simp only [PO.rb]
theorem clean_cong (n : Nat) (a b : Hv) (h : clean n a b = true) : ∀ h0 : Hv, clean n (h0 ++ a) (h0 ++ b) = true
  | [] => h
  | o :: h0 => by
    show ((PO.beq o o || PO.rb n o) && clean n (h0 ++ a) (h0 ++ b)) = true
    rw [PO.beq_refl, clean_cong n a b h h0]; rfl
theorem gcE_gen {env : Env} {h h' : Hv} (he : envR h.length env = true) (hc : clean h.length h h' = true) : gcE env h h' = h'.take h.length := by
  unfold gcE
  exact if_pos (by rw [Bool.and_eq_true]; exact ⟨he, hc⟩)
@[simp] theorem gcE_one {env : Env} {h0 g : Hv} {o o' : PL.PO} (he : envR (h0.length + 1) env = true) (ho : PO.rb (h0.length + 1) o' = true) : gcE env (h0 ++ [o]) (h0 ++ o' :: g) = h0 ++ [o'] := by
  have e1 : h0 ++ o' :: g = (h0 ++ [o']) ++ g := by simp
  have e2 : (h0 ++ [o]).length = (h0 ++ [o']).length := by simp
  have e3 : (h0 ++ [o]).length = h0.length + 1 := by simp
  rw [gcE_gen (by rw [e3]; exact he), e2, e1, List.take_left]
  rw [e3]
  refine clean_cong _ _ _ ?_ h0
  simp [clean, ho]
@[simp] theorem upd_0 (h g : Hv) (o p : PL.PO) : upd (h ++ o :: g) h.length p = h ++ p :: g := upd_new h g o p
@[simp] theorem upd_k (h g : Hv) (k : Nat) (p : PL.PO) : upd (h ++ g) (h.length + k) p = h ++ upd g k p := by
  simp [upd, List.set_append]
/-- a loop, by what is so ahead of the rest -/
theorem forC_inv {α : Type} {f : PV → Env → Hv → R Out} {ok : Hv → Bool} {e : α → PV} (I : List α → Env → Hv → Prop)
    (step : ∀ x rest env h, I (x :: rest) env h → ∃ env' h', f (e x) env h = .ok (.next env', h') ∧ ok h' = true ∧ I rest env' (gcE env' h h')) :
    ∀ xs env h, I xs env h → ∃ env' h', forC f ok (xs.map e) env h = .ok (.next env', h') ∧ I [] env' h'
  | [], env, h, i => ⟨env, h, rfl, i⟩
  | x :: xs, env, h, i => by
    obtain ⟨env1, h1, e1, k1, i1⟩ := step x xs env h i
    obtain ⟨env2, h2, e2, i2⟩ := forC_inv I step xs env1 _ i1
    refine ⟨env2, h2, ?_, i2⟩
    unfold List.map forC
    rw [e1]
    show (if ok h1 = true then _ else _) = _
    rw [if_pos k1]
    exact e2
/-- a loop that may end early -/
theorem forC_out {α : Type} {f : PV → Env → Hv → R Out} {ok : Hv → Bool} {e : α → PV} (I : List α → Env → Hv → Prop) (Q : Out → Hv → Prop)
    (step : ∀ x rest env h, I (x :: rest) env h → ∃ o h', f (e x) env h = .ok (o, h') ∧ ((∃ env', o = .next env' ∧ ok h' = true ∧ I rest env' (gcE env' h h')) ∨ (∃ v, o = .ret v ∧ Q (.ret v) h') ∨ (∃ env', o = .brk env' ∧ Q (.next env') h'))) (fin : ∀ env h, I [] env h → Q (.next env) h) :
    ∀ xs env h, I xs env h → ∃ o h', forC f ok (xs.map e) env h = .ok (o, h') ∧ Q o h'
  | [], env, h, i => ⟨.next env, h, rfl, fin env h i⟩
  | x :: xs, env, h, i => by
    obtain ⟨o, h1, e1, k1⟩ := step x xs env h i
    unfold List.map forC
    rw [e1]
    rcases k1 with ⟨env1, rfl, k1, i1⟩ | ⟨v, rfl, q⟩ | ⟨env1, rfl, q⟩
    · obtain ⟨o2, h2, e2, i2⟩ := forC_out I Q step fin xs env1 _ i1
      refine ⟨o2, h2, ?_, i2⟩
      show (if ok h1 = true then _ else _) = _
      rw [if_pos k1]
      exact e2
    · exact ⟨_, _, rfl, q⟩
    · exact ⟨_, _, rfl, q⟩
def stepV (o : Option Env) (F : Fun) (W : Nat) (b : Sts) (g : Hv) : R Out := match o with
  | some e2 => evSs F W b e2 g
  | none => stk
@[simp] theorem stepF_eq (F : Fun) (W : Nat) (t : Tg) (b : Sts) (v : PV) (e : Env) (g : Hv) : stepF F W t b v e g = stepV (bind t v e) F W b g := rfl
@[simp] theorem stepV_some (e : Env) (F : Fun) (W : Nat) (b : Sts) (g : Hv) : stepV (some e) F W b g = evSs F W b e g := rfl
@[simp] theorem cutL_fromL {α : Type} (xs : List α) (k : Nat) : cutL xs (some (no_index (OfNat.ofNat k))) none = xs.drop (OfNat.ofNat k) := cutL_from xs k
@[simp] theorem cutL_toL {α : Type} (xs : List α) (k : Nat) : cutL xs none (some (no_index (OfNat.ofNat k))) = xs.take (OfNat.ofNat k) := cutL_to xs k
def srcV (l : Nat) (o : Option PL.PO) : Option Walk := match o with
  | some (.lst xs) => some ⟨xs, [l], none⟩
  | _ => none
@[simp] theorem srcV_l (l : Nat) (xs : List PV) : srcV l (some (.lst xs)) = some ⟨xs, [l], none⟩ := by simp only [srcV]
@[simp] theorem src_r (h : Hv) (l : Nat) : srcItems h (.ref l) = srcV l h[l]? := by
  unfold srcItems srcV items?
  dsimp only
  cases h[l]? with
  | none => rfl
  | some o => cases o <;> rfl
@[simp] theorem chk_any (h : Hv) : chk [] h = fun _ => true := by
  funext h'
  simp only [chk, List.all_nil]
@[simp] theorem pures_flatten (xs : List (List PV)) : PV.pures xs.flatten = xs.all PV.pures := by
  induction xs with
  | nil => simp
  | cons x xs ih => simp [ih]
@[simp] theorem rbs_flatten (n : Nat) (xs : List (List PV)) : PV.rbs n xs.flatten = xs.all (PV.rbs n) := by
  induction xs with
  | nil => simp
  | cons x xs ih => simp [ih]
/-! ### rows side by side, rows in order -/
def zipW (gd : List Nat) (o p : Option (List PV)) (h : Hv) : R Walk := match o, p with
  | some xs, some ys => .ok (⟨(xs.zip ys).map fun p => .tup [p.1, p.2], gd, none⟩, h)
  | _, _ => stk
@[simp] theorem zipW_some (gd : List Nat) (xs ys : List PV) (h : Hv) : zipW gd (some xs) (some ys) h = .ok (⟨(xs.zip ys).map fun p => .tup [p.1, p.2], gd, none⟩, h) := rfl
@[simp] theorem zip_rr (l m : Nat) (h : Hv) : zipV (.ref l) (.ref m) h = zipW [l, m] (items? h (.ref l)) (items? h (.ref m)) h := rfl
@[simp] theorem zip_tt (xs ys : List PV) (h : Hv) : zipV (.tup xs) (.tup ys) h = .ok (⟨(xs.zip ys).map fun p => .tup [p.1, p.2], [], none⟩, h) := rfl
def enumW (gd : List Nat) (o : Option (List PV)) (h : Hv) : R Walk := match o with
  | some xs => .ok (⟨xs.zipIdx.map fun p => .tup [.int p.2, p.1], gd, none⟩, h)
  | none => stk
@[simp] theorem enumW_some (gd : List Nat) (xs : List PV) (h : Hv) : enumW gd (some xs) h = .ok (⟨xs.zipIdx.map fun p => .tup [.int p.2, p.1], gd, none⟩, h) := rfl
@[simp] theorem enum_r (l : Nat) (h : Hv) : enumV (.ref l) h = enumW [l] (items? h (.ref l)) h := rfl
@[simp] theorem zip_tail {α β : Type} (f : α → β) (s : List α) : (s.map f).zip (s.map f).tail = (s.zip s.tail).map fun q => (f q.1, f q.2) := by
  rw [← List.map_tail, List.zip_map]
  rfl
def keysM {α : Type} (f : α → Hv → R PV) : List α → Hv → R (List PV)
  | [], h => .ok ([], h)
  | x :: xs, h => thn (f x h) fun k h1 => thn (keysM f xs h1) fun ks h2 => .ok (k :: ks, h2)
@[simp] theorem keysG_map {α : Type} (g : PV → Hv → R PV) (e : α → PV) : ∀ (xs : List α) (h : Hv), keysG g (xs.map e) h = keysM (fun x g1 => g (e x) g1) xs h
  | [], h => rfl
  | x :: xs, h => by
    unfold List.map keysG keysM
    congr 1
    funext k h1
    simp only [keysG_map g e xs]
@[simp] theorem keysM_all {α : Type} (k : α → PV) : ∀ (xs : List α) (h : Hv), keysM (fun x g => .ok (k x, g)) xs h = .ok (xs.map k, h)
  | [], h => rfl
  | x :: xs, h => by
    unfold keysM
    rw [thn_ok, keysM_all k xs, thn_ok]; rfl
/-- in the order of keys -/
def srt {α : Type} (k : α → PV) (xs : List α) : List α := xs.mergeSort fun a b => !ltv (k b) (k a)
theorem sortBy_map {α : Type} (k e : α → PV) (xs : List α) (h : Hv) (hk : keysOk (xs.map k) = true) (hl : xs.length ≤ line) : sortBy (xs.map e) (xs.map k) h = .ok (.ref h.length, h ++ [.lst ((srt k xs).map e)]) := by
  unfold sortBy
  rw [hk, List.length_map, decide_eq_true hl]
  simp only [Bool.and_self, if_true, alloc_eq]
  have e1 : (xs.map k).zip (xs.map e) = xs.map fun x => (k x, e x) := by rw [List.zip_map, List.zip_eq_zipWith]; simp [List.zipWith_self]
  rw [e1, ← List.map_mergeSort (r := fun a b => !ltv (k b) (k a)) (fun _ _ _ _ => rfl), List.map_map]
  rfl
theorem keysOk_of {α : Type} (k : α → PV) (xs : List α) (h1 : ∀ a, keyOk (k a) = true) (h2 : ∀ a b, alk (k a) (k b) = true) : keysOk (xs.map k) = true := by
  unfold keysOk
  simp [h1, h2]
def sortsV (o : Option PL.PO) : Option (List PV) := match o with
  | some (.lst xs) => some xs
  | some (.dct kvs) => if kvs.all fun p => tupK p.1 then some (kvs.map (·.1)) else none
  | some (.lkd kvs) => if kvs.all fun p => tupK p.1 then some (kvs.map (·.1)) else none
  | none => none
@[simp] theorem sortsV_l (xs : List PV) : sortsV (some (.lst xs)) = some xs := by simp only [sortsV]
@[simp] theorem sortsV_d (kvs : List (PV × PV)) : sortsV (some (.dct kvs)) = if kvs.all fun p => tupK p.1 then some (kvs.map (·.1)) else none := by simp only [sortsV]
@[simp] theorem sorts_r (h : Hv) (l : Nat) : sorts h (.ref l) = sortsV h[l]? := by
  unfold sorts sortsV dict? items?
  dsimp only
  cases h[l]? with
  | none => rfl
  | some o => cases o <;> rfl
@[simp] theorem sorts_t (h : Hv) (xs : List PV) : sorts h (.tup xs) = some xs := rfl
@[simp] theorem alk_tt (xs ys : List PV) : alk (.tup xs) (.tup ys) = alks xs ys := by rw [alk]
@[simp] theorem alk_ii (x y : Int) : alk (.int x) (.int y) = true := by simp only [alk]
@[simp] theorem alk_ss (x y : List Nat) : alk (.str x) (.str y) = true := by simp only [alk]
@[simp] theorem alks_nil (ys : List PV) : alks [] ys = true := by cases ys <;> simp only [alks]
@[simp] theorem alks_nil' (ys : List PV) : alks ys [] = true := by cases ys <;> simp only [alks]
@[simp] theorem alks_cons (x y : PV) (xs ys : List PV) : alks (x :: xs) (y :: ys) = (alk x y && alks xs ys) := by rw [alks]
theorem alks_map {α β : Type} (e : α → PV) (f : β → PV) (h : ∀ a b, alk (e a) (f b) = true) : ∀ (xs : List α) (ys : List β), alks (xs.map e) (ys.map f) = true
  | [], ys => by simp
  | x :: xs, [] => by simp
  | x :: xs, y :: ys => by simp [h, alks_map e f h xs ys]
theorem cm_lt_t (h : Hv) (xs ys : List PV) (h1 : PV.fit (.tup xs) = true) (h2 : PV.fit (.tup ys) = true) (h3 : alk (.tup xs) (.tup ys) = true) : evCm .lt (.tup xs) (.tup ys) h = some (ltv (.tup xs) (.tup ys)) := by
  simp only [evCm, ordOk, h1, h2, h3, Bool.and_self, if_true]
def slcW (o : Option PL.PO) (l u : Option (Option Int)) (h : Hv) : R PV := match l, u, o with
  | some l, some u, some (.lst x) => alloc (.lst (cutL x l u)) h
  | _, _, _ => stk
@[simp] theorem slcW_l (x : List PV) (l u : Option Int) (h : Hv) : slcW (some (.lst x)) (some l) (some u) h = .ok (.ref h.length, h ++ [.lst (cutL x l u)]) := rfl
@[simp] theorem slc_r (h : Hv) (l : Nat) (lo hi : Option PV) : evSlc (.ref l) lo hi h = slcW h[l]? (bound? lo) (bound? hi) h := by
  unfold evSlc slcW
  cases bound? lo <;> cases bound? hi <;> dsimp only <;> (cases h[l]? with | none => rfl | some o => cases o <;> rfl)
section
variable {α : Type} {ok : Hv → Bool} {h : Hv} {P : α → Prop} [∀ x, Decidable (P x)] {r : α → PV} {j j' : α → Hv → Hv} {xs : List α}
@[simp] theorem mapCm_if (hk : ok h = true) (hp : ∀ x ∈ xs, (r x).pure = true) :
    mapCm (fun x g => if P x then .ok (some (r x), g ++ j x g) else .ok (none, g ++ j' x g)) ok xs h = .ok ((xs.filter fun x => decide (P x)).map r, h) := by
  have := mapCm_fil (ok := ok) (h := h) (p := fun x => decide (P x)) (r := r) (j := j) (j' := j') (xs := xs) hk fun x hx _ => hp x hx
  simpa only [decide_eq_true_eq] using this
@[simp] theorem mapCm_if0 (hk : ok h = true) (hp : ∀ x ∈ xs, (r x).pure = true) :
    mapCm (fun x g => if P x then .ok (some (r x), g) else .ok (none, g)) ok xs h = .ok ((xs.filter fun x => decide (P x)).map r, h) := by
  have := mapCm_if (ok := ok) (h := h) (P := P) (r := r) (j := fun _ _ => []) (j' := fun _ _ => []) (xs := xs) hk hp
  simpa only [List.append_nil] using this
@[simp] theorem mapCm_ifn (hk : ok h = true) (hp : ∀ x ∈ xs, (r x).pure = true) :
    mapCm (fun x g => if P x then .ok (none, g ++ j' x g) else .ok (some (r x), g ++ j x g)) ok xs h = .ok ((xs.filter fun x => !decide (P x)).map r, h) := by
  have e : (fun (x : α) (g : Hv) => if P x then (.ok (none, g ++ j' x g) : R (Option PV)) else .ok (some (r x), g ++ j x g)) = fun x g => if ¬ P x then .ok (some (r x), g ++ j x g) else .ok (none, g ++ j' x g) := by
    funext x g
    by_cases h : P x <;> simp [h]
  rw [e, mapCm_if hk hp]
  simp
@[simp] theorem mapCm_ifn0 (hk : ok h = true) (hp : ∀ x ∈ xs, (r x).pure = true) :
    mapCm (fun x g => if P x then .ok (none, g) else .ok (some (r x), g)) ok xs h = .ok ((xs.filter fun x => !decide (P x)).map r, h) := by
  have := mapCm_ifn (ok := ok) (h := h) (P := P) (r := r) (j := fun _ _ => []) (j' := fun _ _ => []) (xs := xs) hk hp
  simpa only [List.append_nil] using this
@[simp] theorem mapCm_ifl (hk : ok h = true) (hp : ∀ x ∈ xs, (r x).pure = true) :
    mapCm (fun x g => if P x then .ok (some (r x), g ++ j x g) else .ok (none, g)) ok xs h = .ok ((xs.filter fun x => decide (P x)).map r, h) := by
  have := mapCm_if (ok := ok) (h := h) (P := P) (r := r) (j := j) (j' := fun _ _ => []) (xs := xs) hk hp
  simpa only [List.append_nil] using this
end
@[simp] theorem keysG_nil (g : PV → Hv → R PV) (h : Hv) : keysG g [] h = .ok ([], h) := rfl
@[simp] theorem keysG_cons (g : PV → Hv → R PV) (x : PV) (xs : List PV) (h : Hv) : keysG g (x :: xs) h = thq (g x h) fun k h1 => thq (keysG g xs h1) fun ks h2 => .ok (k :: ks, h2) := rfl
theorem thn_assoc {α β γ : Type} (r : R α) (f : α → Hv → R β) (g : β → Hv → R γ) : thn (thn r f) g = thn r fun a h => thn (f a h) g := by
  cases r with
  | error e => rfl
  | ok a => rfl
theorem keysG_step (g : PV → Hv → R PV) (x : PV) (xs : List PV) (h : Hv) : keysG g (x :: xs) h = thn (g x h) fun k h1 => thn (keysG g xs h1) fun ks h2 => .ok (k :: ks, h2) := rfl
theorem keysG_app (g : PV → Hv → R PV) : ∀ (xs ys : List PV) (h : Hv), keysG g (xs ++ ys) h = thn (keysG g xs h) fun ks h1 => thn (keysG g ys h1) fun ls h2 => .ok (ks ++ ls, h2)
  | [], ys, h => by
    show keysG g ys h = thn (.ok ([], h)) _
    rw [thn_ok]
    cases keysG g ys h <;> rfl
  | x :: xs, ys, h => by
    rw [List.cons_append, keysG_step, keysG_step, thn_assoc]
    congr 1
    funext k h1
    rw [keysG_app g xs ys, thn_assoc, thn_assoc]
    congr 1
    funext ks h2
    rw [thn_ok, thn_assoc]
    congr 1
@[simp] theorem keysG_append (g : PV → Hv → R PV) (xs ys : List PV) (h : Hv) : keysG g (xs ++ ys) h = thq (keysG g xs h) fun ks h1 => thq (keysG g ys h1) fun ls h2 => .ok (ks ++ ls, h2) := keysG_app g xs ys h
/-! ### dicts -/
def stW (l : Nat) (o : Option PL.PO) (y v : PV) (h : Hv) : Option Hv := match o with
  | some (.lst xs) => match y with
    | .int j => match ix xs.length j with
      | some k => some (upd h l (.lst (xs.set k v)))
      | none => none
    | _ => none
  | some (.dct kvs) => if kindOk kvs y && decide (kvs.length < line) then some (upd h l (.dct (putAt y v kvs))) else none
  | _ => none
@[simp] theorem evSt_r (l : Nat) (y v : PV) (h : Hv) : evSt (.ref l) y v h = stW l h[l]? y v h := by
  unfold evSt stW
  dsimp only
  all_goals
    cases h[l]? with
    | none => rfl
    | some o => cases o <;> rfl
@[simp] theorem stW_d (l : Nat) (kvs : List (PV × PV)) (y v : PV) (h : Hv) : stW l (some (.dct kvs)) y v h = if kindOk kvs y && decide (kvs.length < line) then some (upd h l (.dct (putAt y v kvs))) else none := rfl
/-- keys, each once -/
def addKey {α : Type} [DecidableEq α] (ks : List α) (a : α) : List α := if a ∈ ks then ks else ks ++ [a]
theorem putAt_keys {α : Type} [DecidableEq α] {e : α → PV} (he : ∀ a b, e a = e b → a = b) (v : PV) (a : α) : ∀ ks : List α, putAt (e a) v (ks.map fun b => (e b, v)) = (addKey ks a).map fun b => (e b, v)
  | [] => rfl
  | b :: ks => by
    have ih := putAt_keys he v a ks
    unfold List.map putAt
    by_cases h : b = a
    · subst h
      simp [addKey]
    · have h1 : ¬ e b = e a := fun z => h (he _ _ z)
      have h2 : ¬ a = b := fun z => h z.symm
      simp only [beq_pv, decide_eq_true_eq, h1, if_false, ih]
      unfold addKey
      by_cases h3 : a ∈ ks <;> simp [h2, h3]
theorem addKey_len {α : Type} [DecidableEq α] (ks : List α) (a : α) : (addKey ks a).length ≤ ks.length + 1 := by
  unfold addKey; split <;> simp
theorem kindOk_keys {α : Type} {e : α → PV} (he : ∀ a, tupK (e a) = true) (v : PV) (a : α) (ks : List α) : kindOk (ks.map fun b => (e b, v)) (e a) = true := by
  unfold kindOk
  simp [he]
/-! ### the greatest, the least -/
@[simp] theorem mostV_c (h : Hv) (x : PV) (xs : List PV) : mostV h (x :: xs) = if ordAll x xs then okv (most ltv x xs) h else stk := rfl
@[simp] theorem leastV_c (h : Hv) (x : PV) (xs : List PV) : leastV h (x :: xs) = if ordAll x xs then okv (least ltv x xs) h else stk := rfl
@[simp] theorem ordAll_i {α : Type} (i : Int) (f : α → Int) (xs : List α) : ordAll (.int i) (xs.map fun x => .int (f x)) = true := by
  unfold ordAll
  simp [ordOk]
def maxI (i : Int) (xs : List Int) : Int := xs.foldl (fun a y => if a < y then y else a) i
def minI (i : Int) (xs : List Int) : Int := xs.foldl (fun a y => if y < a then y else a) i
@[simp] theorem ltv_ii (i j : Int) : ltv (.int i) (.int j) = decide (i < j) := by simp only [ltv]
@[simp] theorem ltv_ss (i j : List Nat) : ltv (.str i) (.str j) = decide (i < j) := by simp only [ltv]
@[simp] theorem ltv_tt (i j : List PV) : ltv (.tup i) (.tup j) = ltvs i j := by rw [ltv]
@[simp] theorem ltvs_nn : ltvs [] [] = false := by simp only [ltvs]
@[simp] theorem ltvs_nc (x : PV) (xs : List PV) : ltvs [] (x :: xs) = true := by simp only [ltvs]
@[simp] theorem ltvs_cn (x : PV) (xs : List PV) : ltvs (x :: xs) [] = false := by simp only [ltvs]
@[simp] theorem ltvs_cc (x y : PV) (xs ys : List PV) : ltvs (x :: xs) (y :: ys) = if eqv x y then ltvs xs ys else ltv x y := by rw [ltvs]
@[simp] theorem most_i {α : Type} (f : α → Int) : ∀ (xs : List α) (i : Int), most ltv (.int i) (xs.map fun x => .int (f x)) = .int (maxI i (xs.map f))
  | [], i => rfl
  | x :: xs, i => by
    show most ltv (if ltv (.int i) (.int (f x)) then .int (f x) else .int i) (xs.map _) = _
    have : (if ltv (.int i) (.int (f x)) = true then PV.int (f x) else .int i) = .int (if i < f x then f x else i) := by
      rw [ltv_ii]
      by_cases z : i < f x <;> simp [z]
    rw [this, most_i f xs]
    rfl
@[simp] theorem least_i {α : Type} (f : α → Int) : ∀ (xs : List α) (i : Int), least ltv (.int i) (xs.map fun x => .int (f x)) = .int (minI i (xs.map f))
  | [], i => rfl
  | x :: xs, i => by
    show least ltv (if ltv (.int (f x)) (.int i) then .int (f x) else .int i) (xs.map _) = _
    have : (if ltv (.int (f x)) (.int i) = true then PV.int (f x) else .int i) = .int (if f x < i then f x else i) := by
      rw [ltv_ii]
      by_cases z : f x < i <;> simp [z]
    rw [this, least_i f xs]
    rfl
/-! ### lists that are the same -/
theorem fits_all (xs : List PV) : PV.fits xs = xs.all PV.fit := by
  induction xs with
  | nil => simp [PV.fits]
  | cons x xs ih =>
    rw [List.all_cons, ← ih]
    unfold PV.fits PV.fit
    rw [pures_cons, depths_cons, Bool.eq_iff_iff]
    simp only [Bool.and_eq_true, decide_eq_true_eq, Nat.max_le]
    constructor
    · rintro ⟨⟨a, b⟩, c, d⟩; exact ⟨⟨a, c⟩, b, d⟩
    · rintro ⟨⟨a, c⟩, b, d⟩; exact ⟨⟨a, b⟩, c, d⟩
@[simp] theorem fits_nil : PV.fits [] = true := by simp [fits_all]
@[simp] theorem fits_cons (x : PV) (xs : List PV) : PV.fits (x :: xs) = (x.fit && PV.fits xs) := by simp [fits_all]
@[simp] theorem fits_append (xs ys : List PV) : PV.fits (xs ++ ys) = (PV.fits xs && PV.fits ys) := by simp [fits_all]
@[simp] theorem fits_map {α : Type} (e : α → PV) (xs : List α) : PV.fits (xs.map e) = xs.all fun x => (e x).fit := by rw [fits_all, List.all_map]; rfl
def eqW (o p : Option (List PV)) : Option Bool := match o, p with
  | some xs, some ys => if PV.fits xs && PV.fits ys then some (eqvs xs ys) else none
  | _, _ => none
@[simp] theorem eqW_some (xs ys : List PV) : eqW (some xs) (some ys) = if PV.fits xs && PV.fits ys then some (eqvs xs ys) else none := rfl
@[simp] theorem eqP_refs (h : Hv) (l m : Nat) : eqP h (.ref l) (.ref m) = eqW (items? h (.ref l)) (items? h (.ref m)) := rfl
/-! ### places in lists and dicts -/
def atV (o : Option PV) (h : Hv) : R PV := match o with
  | some v => .ok (v, h)
  | none => stk
@[simp] theorem atV_some (v : PV) (h : Hv) : atV (some v) h = .ok (v, h) := rfl
def ixV (xs : List PV) (o : Option Nat) (h : Hv) : R PV := match o with
  | some k => atV xs[k]? h
  | none => stk
@[simp] theorem ixV_some (xs : List PV) (k : Nat) (h : Hv) : ixV xs (some k) h = atV xs[k]? h := rfl
def idxW (o : Option PL.PO) (i : PV) (h : Hv) : R PV := match o with
  | some (.lst xs) => match i with
    | .int j => ixV xs (ix xs.length j) h
    | _ => stk
  | some (.dct kvs) => if kindOk kvs i then atV (valAt kvs i) h else stk
  | some (.lkd kvs) => if kindOk kvs i then atV (valAt kvs i) h else stk
  | none => stk
@[simp] theorem idx_r (l : Nat) (i : PV) (h : Hv) : evIdx (.ref l) i h = idxW h[l]? i h := by
  unfold evIdx idxW dict? items?
  dsimp only
  cases h[l]? with
  | none => cases i <;> rfl
  | some o =>
    cases o with
    | lst xs =>
      cases i <;> rfl
    | dct kvs => unfold atV; cases valAt kvs i <;> rfl
    | lkd kvs => unfold atV; cases valAt kvs i <;> rfl
@[simp high] theorem idxW_0 (xs : List PV) (h : Hv) : idxW (some (.lst xs)) (.int 0) h = atV xs.head? h := by
  cases xs with
  | nil => rfl
  | cons x xs => simp [idxW]
@[simp high] theorem idxW_last (xs : List PV) (h : Hv) : idxW (some (.lst xs)) (.int (-1)) h = atV xs.getLast? h := by
  unfold idxW ixV
  dsimp only
  by_cases e : xs = []
  · subst e; rfl
  · have : 0 < xs.length := List.length_pos_iff.mpr e
    have h1 : ix xs.length (-1) = some (xs.length - 1) := by
      unfold ix
      rw [if_neg (by decide), if_pos (by omega)]
      congr 1
      omega
    rw [h1, List.getLast?_eq_getElem?]
@[simp] theorem idxW_d (kvs : List (PV × PV)) (i : PV) (h : Hv) : idxW (some (.dct kvs)) i h = if kindOk kvs i then atV (valAt kvs i) h else stk := rfl
@[simp] theorem idxW_k (kvs : List (PV × PV)) (i : PV) (h : Hv) : idxW (some (.lkd kvs)) i h = if kindOk kvs i then atV (valAt kvs i) h else stk := rfl
/-- the greatest and the least of some numbers -/
def maxL : List Int → Int
  | [] => 0
  | x :: xs => maxI x xs
def minL : List Int → Int
  | [] => 0
  | x :: xs => minI x xs
theorem mostV_map {α : Type} (h : Hv) (f : α → Int) {xs : List α} (hx : xs ≠ []) : mostV h (xs.map fun x => .int (f x)) = .ok (.int (maxL (xs.map f)), h) := by
  cases xs with
  | nil => exact absurd rfl hx
  | cons x xs => simp [maxL]
theorem leastV_map {α : Type} (h : Hv) (f : α → Int) {xs : List α} (hx : xs ≠ []) : leastV h (xs.map fun x => .int (f x)) = .ok (.int (minL (xs.map f)), h) := by
  cases xs with
  | nil => exact absurd rfl hx
  | cons x xs => simp [minL]
theorem maxI_mem : ∀ (xs : List Int) (i : Int), maxI i xs ∈ i :: xs
  | [], i => by simp [maxI]
  | x :: xs, i => by
    have h1 : maxI i (x :: xs) = maxI (if i < x then x else i) xs := rfl
    rw [h1]
    have := maxI_mem xs (if i < x then x else i)
    by_cases h : i < x
    · rw [if_pos h] at this ⊢
      exact List.mem_cons_of_mem _ this
    · rw [if_neg h] at this ⊢
      rcases List.mem_cons.mp this with e | e
      · rw [e]; exact List.mem_cons_self
      · exact List.mem_cons_of_mem _ (List.mem_cons_of_mem _ e)
theorem maxL_mem {xs : List Int} (h : xs ≠ []) : maxL xs ∈ xs := by
  cases xs with
  | nil => exact absurd rfl h
  | cons x xs => exact maxI_mem xs x
theorem gcE_ex (e : Env) (h g : Hv) : ∃ g', gcE e h (h ++ g) = h ++ g' := by
  unfold gcE
  split
  · exact ⟨[], by simp⟩
  · exact ⟨g, rfl⟩
@[simp] theorem gcE_self (e : Env) (h : Hv) : gcE e h h = h := by
  unfold gcE
  split
  · simp
  · rfl
def dctV (o : Option (List (PV × PV))) (h : Hv) : R PV := match o with
  | some ps => if ps.all fun p => tupK p.1 then alloc (.dct (putAll [] ps)) h else stk
  | none => stk
@[simp] theorem dctV_some (ps : List (PV × PV)) (h : Hv) : dctV (some ps) h = if ps.all fun p => tupK p.1 then alloc (.dct (putAll [] ps)) h else stk := rfl
def dicV (o : Option PL.PO) (h : Hv) : R PV := match o with
  | some (.lst xs) => dctV (pairs? xs) h
  | _ => stk
@[simp] theorem dicV_l (xs : List PV) (h : Hv) : dicV (some (.lst xs)) h = dctV (pairs? xs) h := rfl
@[simp] theorem dict_r (l : Nat) (h : Hv) : evBl1 .dict (.ref l) h = dicV h[l]? h := by
  unfold evBl1 dicV dctV
  dsimp only
  all_goals
    cases h[l]? with
    | none => rfl
    | some o =>
      cases o with
      | lst xs => dsimp only; cases pairs? xs <;> rfl
      | dct _ => rfl
      | lkd _ => rfl
@[simp] theorem pairs_map {α : Type} (f g : α → PV) : ∀ xs : List α, pairs? (xs.map fun x => .tup [f x, g x]) = some (xs.map fun x => (f x, g x))
  | [] => rfl
  | x :: xs => by
    rw [List.map_cons, pairs?, pairs_map f g xs]
    rfl
theorem putAll_keys {α : Type} [DecidableEq α] {e : α → PV} (he : ∀ a b, e a = e b → a = b) (v : PV) : ∀ (xs ks : List α), putAll (ks.map fun b => (e b, v)) (xs.map fun b => (e b, v)) = (xs.foldl addKey ks).map fun b => (e b, v)
  | [], ks => rfl
  | x :: xs, ks => by
    show putAll (putAt (e x) v (ks.map fun b => (e b, v))) (xs.map fun b => (e b, v)) = _
    rw [putAt_keys he, putAll_keys he v xs]
    rfl
@[simp] theorem mapCm_tail {α β : Type} (f : β → Hv → R (Option PV)) (ok : Hv → Bool) (e : α → β) (xs : List α) (h : Hv) : mapCm f ok (xs.map e).tail h = mapCm (fun x g => f (e x) g) ok xs.tail h := by
  rw [← List.map_tail, mapCm_map]
@[simp] theorem mapCm_drop {α β : Type} (f : β → Hv → R (Option PV)) (ok : Hv → Bool) (e : α → β) (xs : List α) (k : Nat) (h : Hv) : mapCm f ok ((xs.map e).drop k) h = mapCm (fun x g => f (e x) g) ok (xs.drop k) h := by
  rw [← List.map_drop, mapCm_map]
@[simp] theorem mapCm_take {α β : Type} (f : β → Hv → R (Option PV)) (ok : Hv → Bool) (e : α → β) (xs : List α) (k : Nat) (h : Hv) : mapCm f ok ((xs.map e).take k) h = mapCm (fun x g => f (e x) g) ok (xs.take k) h := by
  rw [← List.map_take, mapCm_map]
section
variable {α : Type} (e : α → PV) (xs : List α) (k n : Nat)
@[simp] theorem pures_tail : PV.pures (xs.map e).tail = xs.tail.all fun x => (e x).pure := by rw [← List.map_tail, pures_map]
@[simp] theorem pures_drop : PV.pures ((xs.map e).drop k) = (xs.drop k).all fun x => (e x).pure := by rw [← List.map_drop, pures_map]
@[simp] theorem pures_take : PV.pures ((xs.map e).take k) = (xs.take k).all fun x => (e x).pure := by rw [← List.map_take, pures_map]
@[simp] theorem rbs_tail : PV.rbs n (xs.map e).tail = xs.tail.all fun x => (e x).rb n := by rw [← List.map_tail, rbs_map]
@[simp] theorem rbs_drop : PV.rbs n ((xs.map e).drop k) = (xs.drop k).all fun x => (e x).rb n := by rw [← List.map_drop, rbs_map]
@[simp] theorem rbs_take : PV.rbs n ((xs.map e).take k) = (xs.take k).all fun x => (e x).rb n := by rw [← List.map_take, rbs_map]
end
def contL (f : PV → Env → Hv → R Out) (ok : Hv → Bool) (xs : List PV) (h : Hv) (o : Out) (h1 : Hv) : R Out := match o with
  | .next e1 => if ok h1 then forC f ok xs e1 (gcE e1 h h1) else stk
  | .brk e1 => .ok (.next e1, h1)
  | .ret v => .ok (.ret v, h1)
@[simp] theorem forC_nil (f : PV → Env → Hv → R Out) (ok : Hv → Bool) (e : Env) (h : Hv) : forC f ok [] e h = .ok (.next e, h) := rfl
@[simp] theorem forC_cons (f : PV → Env → Hv → R Out) (ok : Hv → Bool) (x : PV) (xs : List PV) (e : Env) (h : Hv) : forC f ok (x :: xs) e h = thq (f x e h) (contL f ok xs h) := by
  rw [forC]
  rfl
@[simp ↓] theorem contL_next (f : PV → Env → Hv → R Out) (ok : Hv → Bool) (xs : List PV) (h h1 : Hv) (e1 : Env) : contL f ok xs h (.next e1) h1 = if ok h1 then forC f ok xs e1 (gcE e1 h h1) else stk := rfl
@[simp ↓] theorem contL_ret (f : PV → Env → Hv → R Out) (ok : Hv → Bool) (xs : List PV) (h h1 : Hv) (v : PV) : contL f ok xs h (.ret v) h1 = .ok (.ret v, h1) := rfl
@[simp ↓] theorem contL_brk (f : PV → Env → Hv → R Out) (ok : Hv → Bool) (xs : List PV) (h h1 : Hv) (e1 : Env) : contL f ok xs h (.brk e1) h1 = .ok (.next e1, h1) := rfl
@[simp] theorem enum_map {α : Type} (e : α → PV) (xs : List α) : ((xs.map e).zipIdx.map fun p => PV.tup [.int p.2, p.1]) = xs.zipIdx.map fun p => .tup [.int p.2, e p.1] := by
  rw [List.zipIdx_map, List.map_map]
  rfl
theorem le_maxI : ∀ (xs : List Int) (i : Int), i ≤ maxI i xs
  | [], i => Int.le_refl _
  | x :: xs, i => by
    have h1 : maxI i (x :: xs) = maxI (if i < x then x else i) xs := rfl
    rw [h1]
    have := le_maxI xs (if i < x then x else i)
    split at this <;> rename_i h
    · rw [if_pos h]; omega
    · rw [if_neg h]; omega
/-- the first of the greatest, one by one -/
def fm {α : Type} (w : α → Int) (a : α) : List α → α
  | [] => a
  | y :: ys => if w a < w y then fm w y ys else fm w a ys
theorem fm_head {α : Type} (w : α → Int) : ∀ (ys : List α) (a : α), ((a :: ys).filter fun c => decide (w c = maxI (w a) (ys.map w))).head? = some (fm w a ys)
  | [], a => by simp [maxI, fm]
  | y :: ys, a => by
    have h1 : maxI (w a) ((y :: ys).map w) = maxI (if w a < w y then w y else w a) (ys.map w) := rfl
    rw [h1]
    by_cases h : w a < w y
    · have g := le_maxI (ys.map w) (w y)
      have ih := fm_head w ys y
      rw [if_pos h]
      have n : ¬ w a = maxI (w y) (ys.map w) := by omega
      rw [List.filter_cons, if_neg (by simpa using n), ih, fm, if_pos h]
    · have g := le_maxI (ys.map w) (w a)
      have ih := fm_head w ys a
      rw [if_neg h]
      rw [fm, if_neg h]
      by_cases e : w a = maxI (w a) (ys.map w)
      · rw [List.filter_cons, if_pos (by simpa using e)] at ih ⊢
        exact ih
      · rw [List.filter_cons, if_neg (by simpa using e)] at ih ⊢
        have n : ¬ w y = maxI (w a) (ys.map w) := by omega
        rw [List.filter_cons, if_neg (by simpa using n)]
        exact ih
/-- the same of pairs with places -/
def argF {α : Type} (w : α → Int) (a : α × Nat) (xs : List (α × Nat)) : α × Nat := xs.foldl (fun a y => if w a.1 < w y.1 then y else a) a
theorem argF_fm {α : Type} (w : α → Int) : ∀ (xs : List (α × Nat)) (a : α × Nat), (argF w a xs).1 = fm w a.1 (xs.map (·.1))
  | [], a => rfl
  | x :: xs, a => by
    show (argF w (if w a.1 < w x.1 then x else a) xs).1 = _
    rw [argF_fm w xs, List.map_cons, fm]
    split <;> rfl
theorem argF_mem {α : Type} (w : α → Int) : ∀ (xs : List (α × Nat)) (a : α × Nat), argF w a xs ∈ a :: xs
  | [], a => List.mem_cons_self
  | x :: xs, a => by
    have h1 : argF w a (x :: xs) = argF w (if w a.1 < w x.1 then x else a) xs := rfl
    rw [h1]
    have := argF_mem w xs (if w a.1 < w x.1 then x else a)
    by_cases h : w a.1 < w x.1
    · rw [if_pos h] at this ⊢
      exact List.mem_cons_of_mem _ this
    · rw [if_neg h] at this ⊢
      rcases List.mem_cons.mp this with e | e
      · rw [e]; exact List.mem_cons_self
      · exact List.mem_cons_of_mem _ (List.mem_cons_of_mem _ e)
def ngI {α : Type} (w : α → Int) (p : α × Nat) : PV := .tup [.int (-w p.1), .int p.2]
theorem least_arg {α : Type} (w : α → Int) : ∀ (xs : List (α × Nat)) (a : α × Nat), (∀ x ∈ xs, a.2 < x.2) → xs.Pairwise (fun x y => x.2 < y.2) → least ltv (ngI w a) (xs.map (ngI w)) = ngI w (argF w a xs)
  | [], a, _, _ => rfl
  | x :: xs, a, h1, h2 => by
    have e1 : least ltv (ngI w a) ((x :: xs).map (ngI w)) = least ltv (if ltv (ngI w x) (ngI w a) then ngI w x else ngI w a) (xs.map (ngI w)) := rfl
    have e2 : argF w a (x :: xs) = argF w (if w a.1 < w x.1 then x else a) xs := rfl
    have hx := h1 x List.mem_cons_self
    rw [List.pairwise_cons] at h2
    have e3 : ltv (ngI w x) (ngI w a) = decide (w a.1 < w x.1) := by
      unfold ngI
      simp
      by_cases z : w x.1 = w a.1
      · simp [z]; omega
      · have : ¬ -w x.1 = -w a.1 := by omega
        exact fun q => absurd q z
    rw [e1, e2, e3]
    by_cases h : w a.1 < w x.1
    · simp only [h, decide_true, if_true]
      exact least_arg w xs x h2.1 h2.2
    · simp only [h, decide_false, Bool.false_eq_true, if_false]
      exact least_arg w xs a (fun y hy => h1 y (List.mem_cons_of_mem _ hy)) h2.2
theorem least_idx {α : Type} (w : α → Int) (L : List α) (c : α) (hc : (L.filter fun c => decide (w c = maxL (L.map w))).head? = some c) : ∃ j : Nat, L[j]? = some c ∧ ∀ h : Hv, leastV h (L.zipIdx.map fun p => .tup [.int (-w p.1), .int p.2]) = .ok (.tup [.int (-w c), .int j], h) := by
  cases L with
  | nil => cases hc
  | cons a ys =>
    have hf := fm_head w ys a
    have e0 : maxL ((a :: ys).map w) = maxI (w a) (ys.map w) := rfl
    rw [e0, hf] at hc
    cases hc
    have z : (a :: ys).zipIdx = (a, 0) :: ys.zipIdx 1 := rfl
    have g1 := argF_fm w (ys.zipIdx 1) (a, 0)
    have g2 := argF_mem w (ys.zipIdx 1) (a, 0)
    have e1 : (ys.zipIdx 1).map (·.1) = ys := by simp
    rw [e1] at g1
    refine ⟨(argF w (a, 0) (ys.zipIdx 1)).2, ?_, fun h => ?_⟩
    rotate_left
    · show leastV h (((a :: ys).zipIdx).map (ngI w)) = _
      rw [z, List.map_cons, leastV_c, if_pos]
      · rw [least_arg w _ _ ?_ ?_]
        · show Except.ok (ngI w (argF w (a, 0) (ys.zipIdx 1)), h) = _
          unfold ngI
          rw [g1]
        · intro x hx
          have := List.le_snd_of_mem_zipIdx hx
          show 0 < x.2
          omega
        · have := List.pairwise_lt_range' (s := 1) (n := ys.length) 1
          rw [← List.zipIdx_map_snd 1 ys, List.pairwise_map] at this
          exact this
      · unfold ordAll
        simp [ngI, ordOk, PV.fit]
    · rw [← z] at g2
      have := List.mem_zipIdx_iff_getElem?.mp g2
      rw [this, g1]
@[simp low] theorem fit_tup (xs : List PV) : PV.fit (.tup xs) = (PV.pures xs && decide (depths xs + 1 ≤ 60)) := by simp [PV.fit]
@[simp] theorem idxW_n (xs : List PV) (k : Nat) (h : Hv) : idxW (some (.lst xs)) (.int (k : Int)) h = atV xs[k]? h := by
  unfold idxW ixV
  dsimp only
  by_cases e : k < xs.length
  · rw [ix_lt e]
  · have h1 : ix xs.length (k : Int) = none := by
      unfold ix
      rw [if_pos (by omega), if_neg (by omega)]
    rw [h1, List.getElem?_eq_none (by omega)]
    rfl
@[simp] theorem mapCm_nil {α : Type} (f : α → Hv → R (Option PV)) (ok : Hv → Bool) (h : Hv) : mapCm f ok [] h = .ok ([], h) := rfl
def pickV {α : Type} (f : α → Hv → R (Option PV)) (ok : Hv → Bool) (xs : List α) (h : Hv) (o : Option PV) (h1 : Hv) : R (List PV) := match o with
  | some y => if ok (gcR y h h1).2 then thq (mapCm f ok xs (gcR y h h1).2) fun ys h3 => .ok ((gcR y h h1).1 :: ys, h3) else stk
  | none => if ok (gcE [] h h1) then mapCm f ok xs (gcE [] h h1) else stk
@[simp] theorem mapCm_cons {α : Type} (f : α → Hv → R (Option PV)) (ok : Hv → Bool) (x : α) (xs : List α) (h : Hv) : mapCm f ok (x :: xs) h = thq (f x h) (pickV f ok xs h) := by
  rw [mapCm]
  rfl
@[simp ↓] theorem pickV_some {α : Type} (f : α → Hv → R (Option PV)) (ok : Hv → Bool) (xs : List α) (h h1 : Hv) (y : PV) : pickV f ok xs h (some y) h1 = if ok (gcR y h h1).2 then thq (mapCm f ok xs (gcR y h h1).2) fun ys h3 => .ok ((gcR y h h1).1 :: ys, h3) else stk := rfl
@[simp ↓] theorem pickV_none {α : Type} (f : α → Hv → R (Option PV)) (ok : Hv → Bool) (xs : List α) (h h1 : Hv) : pickV f ok xs h none h1 = if ok (gcE [] h h1) then mapCm f ok xs (gcE [] h h1) else stk := rfl
@[simp] theorem idxW_lit (xs : List PV) (k : Nat) (h : Hv) : idxW (some (.lst xs)) (.int (no_index (OfNat.ofNat k))) h = atV xs[(OfNat.ofNat k : Nat)]? h := idxW_n xs k h
theorem stW_n (l : Nat) (xs : List PV) (k : Nat) (v : PV) (h : Hv) (hk : k < xs.length) : stW l (some (.lst xs)) (.int (k : Int)) v h = some (upd h l (.lst (xs.set k v))) := by
  unfold stW
  dsimp only
  rw [ix_lt hk]
@[simp] theorem stW_0 (l : Nat) (x : PV) (xs : List PV) (v : PV) (h : Hv) : stW l (some (.lst (x :: xs))) (.int 0) v h = some (upd h l (.lst (v :: xs))) := stW_n l (x :: xs) 0 v h (by simp)
@[simp] theorem stW_1 (l : Nat) (x y : PV) (xs : List PV) (v : PV) (h : Hv) : stW l (some (.lst (x :: y :: xs))) (.int 1) v h = some (upd h l (.lst (x :: v :: xs))) := stW_n l (x :: y :: xs) 1 v h (by simp)
/-! ### a cup of rolls -/
def cupO (a b : Int) : PL.PO := .lst [.int a, .int b]
def CupAt (l : Nat) (h : Hv) : Prop := ∃ a b, h[l]? = some (cupO a b) ∧ 0 ≤ b ∧ b < 2 ^ 62
def Step (l : Nat) (h h' : Hv) : Prop := ∃ a b, 0 ≤ b ∧ b < 2 ^ 62 ∧ h' = h.set l (cupO a b)
theorem CupAt.lt {l : Nat} {h : Hv} (c : CupAt l h) : l < h.length := by
  obtain ⟨a, b, e, _⟩ := c
  exact (List.getElem?_eq_some_iff.mp e).1
theorem CupAt.refl {l : Nat} {h : Hv} (c : CupAt l h) : Step l h h := by
  obtain ⟨a, b, e, h1, h2⟩ := c
  refine ⟨a, b, h1, h2, ?_⟩
  obtain ⟨q, e⟩ := List.getElem?_eq_some_iff.mp e
  rw [← e, List.set_getElem_self]
theorem Step.len {l : Nat} {h h' : Hv} (s : Step l h h') : h'.length = h.length := by
  obtain ⟨a, b, _, _, rfl⟩ := s
  simp
theorem Step.cup {l : Nat} {h h' : Hv} (s : Step l h h') (c : CupAt l h) : CupAt l h' := by
  obtain ⟨a, b, h1, h2, rfl⟩ := s
  exact ⟨a, b, by rw [List.getElem?_set_self c.lt], h1, h2⟩
theorem Step.trans {l : Nat} {h h1 h2 : Hv} (s : Step l h h1) (t : Step l h1 h2) : Step l h h2 := by
  obtain ⟨a, b, _, _, rfl⟩ := s
  obtain ⟨c, d, q1, q2, rfl⟩ := t
  exact ⟨c, d, q1, q2, by rw [List.set_set]⟩
theorem CupAt.app {l : Nat} {h : Hv} (c : CupAt l h) (g : Hv) : CupAt l (h ++ g) := by
  have := c.lt
  obtain ⟨a, b, e, h1, h2⟩ := c
  exact ⟨a, b, by rw [List.getElem?_append_left this, e], h1, h2⟩
theorem Step.app {l : Nat} {h g x : Hv} (s : Step l (h ++ g) x) (c : CupAt l h) : ∃ h', x = h' ++ g ∧ Step l h h' := by
  have := c.lt
  obtain ⟨a, b, h1, h2, rfl⟩ := s
  exact ⟨h.set l (cupO a b), by rw [List.set_append_left _ _ this], a, b, h1, h2, rfl⟩
theorem clean_set (n : Nat) (o : PL.PO) (ho : PO.rb n o = true) : ∀ (h : Hv) (l : Nat) (g : Hv), clean n h (h.set l o ++ g) = true
  | [], _, _ => by simp [clean]
  | p :: h, 0, g => by
    show ((PO.beq o p || PO.rb n o) && clean n h (h ++ g)) = true
    rw [ho, clean_app]; simp
  | p :: h, l + 1, g => by
    show ((PO.beq p p || PO.rb n p) && clean n h (h.set l o ++ g)) = true
    rw [PO.beq_refl, clean_set n o ho h l g]; rfl
theorem Step.clean {l : Nat} {h h' : Hv} (s : Step l h h') (n : Nat) (g : Hv) : clean n h (h' ++ g) = true := by
  obtain ⟨a, b, _, _, rfl⟩ := s
  exact clean_set n _ (by simp [cupO, PV.rb]) h l g
theorem Step.gcR {l : Nat} {h h' : Hv} (s : Step l h h') {v : PV} (hv : v.pure = true) (g : Hv) : gcR v h (h' ++ g) = (v, h') := by
  have c := s.clean h.length g
  have t : (h' ++ g).take h.length = h' := by rw [← s.len]; simp
  cases v <;> first | (simp at hv; done) | (unfold PL.gcR; simp only [rb_pure _ _ hv, c, t, Bool.and_self, if_true])
theorem Step.gcR0 {l : Nat} {h h' : Hv} (s : Step l h h') {v : PV} (hv : v.pure = true) : PL.gcR v h h' = (v, h') := by
  have := s.gcR hv []
  rwa [List.append_nil] at this
theorem Step.gcE {l : Nat} {h h' : Hv} (s : Step l h h') {e : Env} (he : envR h.length e = true) (g : Hv) : gcE e h (h' ++ g) = h' := by
  rw [gcE_gen he (s.clean h.length g), ← s.len]; simp
theorem Step.gcE0 {l : Nat} {h h' : Hv} (s : Step l h h') {e : Env} (he : envR h.length e = true) : PL.gcE e h h' = h' := by
  have := s.gcE he []
  rwa [List.append_nil] at this
/-! ### a dict that is walked -/
def keysW (l : Nat) (o : Option PL.PO) (h : Hv) : R Walk := match o with
  | some (.dct kvs) => .ok (⟨kvs.map (·.1), [l], some (l, kvs)⟩, upd h l (.lkd kvs))
  | _ => stk
@[simp] theorem keysW_d (l : Nat) (kvs : List (PV × PV)) (h : Hv) : keysW l (some (.dct kvs)) h = .ok (⟨kvs.map (·.1), [l], some (l, kvs)⟩, upd h l (.lkd kvs)) := rfl
def keysS (o : Option (Option PV)) (h : Hv) : R Walk := match o with
  | some (some (.ref l)) => keysW l h[l]? h
  | _ => stk
@[simp] theorem keysS_r (l : Nat) (h : Hv) : keysS (some (some (.ref l))) h = keysW l h[l]? h := rfl
@[simp high] theorem evSrc_keys' (F : Fun) (e : Env) (h : Hv) (i : Nat) : evSrc F (.keys i) e h = keysS e[i]? h := by
  rw [evSrc_keys]
  unfold keysS keysW
  cases e[i]? with
  | none => rfl
  | some o =>
    cases o with
    | none => rfl
    | some v =>
      cases v <;> rfl
def unl (l : Nat) (kvs : List (PV × PV)) (o : Option PL.PO) (h : Hv) : Option Hv := match o with
  | some (.lkd k2) => if k2 == kvs then some (upd h l (.dct kvs)) else none
  | _ => none
@[simp] theorem unl_k (l : Nat) (kvs : List (PV × PV)) (h : Hv) : unl l kvs (some (.lkd kvs)) h = some (upd h l (.dct kvs)) := by
  simp only [unl, beq_self_eq_true, if_true]
@[simp] theorem unlk_some (xs : List PV) (gd : List Nat) (l : Nat) (kvs : List (PV × PV)) (h : Hv) : unlk ⟨xs, gd, some (l, kvs)⟩ h = unl l kvs h[l]? h := by
  unfold unlk unl
  dsimp only
  all_goals
    cases h[l]? with
    | none => rfl
    | some p => cases p <;> rfl
@[simp] theorem unlk_none (xs : List PV) (gd : List Nat) (h : Hv) : unlk ⟨xs, gd, none⟩ h = some h := rfl
def endV (o : Option Hv) (ys : List PV) : R PV := match o with
  | some h3 => if ys.length ≤ line then alloc (.lst ys) h3 else stk
  | none => stk
@[simp] theorem endV_some (h : Hv) (ys : List PV) : endV (some h) ys = if ys.length ≤ line then alloc (.lst ys) h else stk := rfl
@[simp] theorem endW_lock (xs : List PV) (gd : List Nat) (q : Nat × List (PV × PV)) (h : Hv) (ys : List PV) : endW ⟨xs, gd, some q⟩ h ys = endV (unlk ⟨xs, gd, some q⟩ h) ys := rfl
def endO (o : Option Hv) (q : Out) : R Out := match o with
  | some h3 => .ok (q, h3)
  | none => stk
@[simp] theorem endO_some (h : Hv) (q : Out) : endO (some h) q = .ok (q, h) := rfl
@[simp] theorem endL_lock (xs : List PV) (gd : List Nat) (q : Nat × List (PV × PV)) (h : Hv) (o : Out) : endL ⟨xs, gd, some q⟩ o h = endO (unlk ⟨xs, gd, some q⟩ h) o := rfl
@[simp] theorem rb_lkd (n : Nat) (kvs : List (PV × PV)) : PO.rb n (.lkd kvs) = kvs.all fun p => p.1.rb n && p.2.rb n := by simp only [PO.rb]
theorem clean_both (n : Nat) : ∀ (a b c d : Hv), a.length = b.length → clean n a b = true → clean n c d = true → clean n (a ++ c) (b ++ d) = true
  | [], [], c, d, _, _, h => h
  | [], _ :: _, _, _, e, _, _ => by simp at e
  | _ :: _, [], _, _, e, _, _ => by simp at e
  | o :: a, p :: b, c, d, e, h, g => by
    have h : ((PO.beq p o || PO.rb n p) && clean n a b) = true := h
    rw [Bool.and_eq_true] at h
    show ((PO.beq p o || PO.rb n p) && clean n (a ++ c) (b ++ d)) = true
    rw [h.1, clean_both n a b c d (by simpa using e) h.2 g]; rfl
theorem Step.gcE1 {l : Nat} {h h' g : Hv} {o o' : PL.PO} (s : Step l h h') {e : Env} (he : envR (h.length + 1) e = true) (ho : PO.rb (h.length + 1) o' = true) : PL.gcE e (h ++ [o]) (h' ++ o' :: g) = h' ++ [o'] := by
  have e1 : h' ++ o' :: g = (h' ++ [o']) ++ g := by simp
  have e2 : (h ++ [o]).length = (h' ++ [o']).length := by simp [s.len]
  have e3 : (h ++ [o]).length = h.length + 1 := by simp
  rw [gcE_gen (by rw [e3]; exact he), e2, e1, List.take_left]
  rw [e3]
  refine clean_both _ _ _ _ _ s.len.symm ?_ ?_
  · have := s.clean (h.length + 1) []
    rwa [List.append_nil] at this
  · simp [PL.clean, ho]
theorem get_m {h : Hv} {m : Nat} (e : h.length = m) (g : Hv) : (h ++ g)[m]? = g[0]? := by subst e; simp
theorem get_mk {h : Hv} {m : Nat} (e : h.length = m) (g : Hv) (k : Nat) : (h ++ g)[m + k]? = g[k]? := by subst e; simp
theorem upd_m {h : Hv} {m : Nat} (e : h.length = m) (o p : PL.PO) (g : Hv) : upd (h ++ o :: g) m p = h ++ p :: g := by subst e; simp
@[simp high] theorem eqvs_map_nil {α : Type} (f : α → PV) (xs : List α) : eqvs (xs.map f) [] = decide (xs = []) := by cases xs <;> simp
/-- the row at a place -/
def Sts.at : Sts → Nat → PL.St
  | .nil, _ => .pass
  | .cons s _, 0 => s
  | .cons _ ss, k + 1 => ss.at k
@[simp] theorem Sts.at_0 (s : PL.St) (ss : Sts) : (Sts.cons s ss).at 0 = s := rfl
@[simp] theorem Sts.at_s (s : PL.St) (ss : Sts) (k : Nat) : (Sts.cons s ss).at (k + 1) = ss.at k := rfl
def Sts.drop : Sts → Nat → Sts
  | ss, 0 => ss
  | .nil, _ => .nil
  | .cons _ ss, k + 1 => ss.drop k
end PL
set_option autoImplicit false
set_option linter.all false
/-! Ir: the evaluator's text of the given program and a law. -/
namespace PL
open PySem
abbrev f_is_whole : Nat := 0
abbrev f_is_tuple_of : Nat := 1
abbrev f_is_sign : Nat := 2
abbrev f_fits_text : Nat := 3
abbrev f_amount_in : Nat := 4
abbrev f_is_canonic_text : Nat := 5
abbrev f_rank : Nat := 6
abbrev f_need_text : Nat := 7
abbrev f_is_name : Nat := 8
abbrev f_fits_subscripts : Nat := 9
abbrev f_fits_node : Nat := 10
abbrev f_node_rank : Nat := 11
abbrev f_is_within : Nat := 12
abbrev f_need_node : Nat := 13
abbrev f_codes_of : Nat := 14
abbrev f_subscript_key : Nat := 15
abbrev f_key_in : Nat := 16
abbrev f_fits_store : Nat := 17
abbrev f_put : Nat := 18
abbrev f_need_store : Nat := 19
abbrev f_need_both : Nat := 20
abbrev f_weight_of : Nat := 21
abbrev f_weight_in : Nat := 22
abbrev f_heads_in : Nat := 23
abbrev f_children_of : Nat := 24
abbrev f_way_in : Nat := 25
abbrev f_fits_quotas : Nat := 26
abbrev f_need_quotas : Nat := 27
abbrev f_over_in : Nat := 28
abbrev f_room_in : Nat := 29
abbrev f_weight : Nat := 30
abbrev f_weights_at : Nat := 31
abbrev f_heaviest_way : Nat := 32
abbrev f_middle_node : Nat := 33
abbrev f_are_quotas : Nat := 34
abbrev f_over : Nat := 35
abbrev f_room : Nat := 36
abbrev f_can_put : Nat := 37
abbrev f__law_cup : Nat := 38
abbrev f__law_roll : Nat := 39
abbrev f__law_some : Nat := 40
abbrev f__law_number : Nat := 41
abbrev f__law_is_canonic : Nat := 42
abbrev f__law_place : Nat := 43
abbrev f__law_node_place : Nat := 44
abbrev f__law_sorted : Nat := 45
abbrev f__law_set : Nat := 46
abbrev f__law_below : Nat := 47
abbrev f__law_subscript_key : Nat := 48
abbrev f__law_key : Nat := 49
abbrev f__law_tree_node : Nat := 50
abbrev f__law_tree_store : Nat := 51
abbrev f__law_weight : Nat := 52
abbrev f__law_heads : Nat := 53
abbrev f__law_quotas : Nat := 54
abbrev f__law_way : Nat := 55
abbrev f__law_right : Nat := 56
abbrev f__law_written_right : Nat := 57
abbrev f_law : Nat := 58
/- 0 is_whole -/
def b_is_whole : Sts :=
    (.cons (.ret (.and (.cons (.isi (.var 0) .int) (.cons (.not (.isi (.var 0) .bool)) (.cons (.chn .le .le (.var 1) (.var 0) (.var 2)) .nil)))))
    .nil)
def d_is_whole : Df := ⟨"is_whole", 3, ["value", "low", "high"], b_is_whole⟩
/- 1 is_tuple_of -/
def b_is_tuple_of : Sts :=
    (.cons (.ret (.and (.cons (.isi (.var 0) .tuple) (.cons (.chn .le .le (.var 1) (.blt .len (.cons (.var 0) .nil)) (.var 2)) .nil))))
    .nil)
def d_is_tuple_of : Df := ⟨"is_tuple_of", 3, ["value", "low", "high"], b_is_tuple_of⟩
/- 2 is_sign -/
def b_is_sign : Sts :=
    (.cons (.ret (.or (.cons (.cmp .eq (.var 0) (.lit (.str [10]))) (.cons (.and (.cons (.chn .le .le (.lit (.str [32])) (.var 0) (.lit (.str [126]))) (.cons (.cmp .ne (.blt .ord (.cons (.var 0) .nil)) (.glob "PERCENT" (.int 37))) .nil))) .nil))))
    .nil)
def d_is_sign : Df := ⟨"is_sign", 1, ["sign"], b_is_sign⟩
/- 3 fits_text -/
def b_fits_text : Sts :=
    (.cons (.ret (.and (.cons (.isi (.var 0) .str) (.cons (.cmp .le (.blt .len (.cons (.var 0) .nil)) (.glob "LONGEST" (.int 255))) (.cons (.blt .all (.cons (.comp [1] (.name 1) (.val (.var 0)) .none (.call f_is_sign (.cons (.var 1) .nil))) .nil)) .nil)))))
    .nil)
def d_fits_text : Df := ⟨"fits_text", 1, ["value", "sign"], b_fits_text⟩
/- 4 amount_in -/
def L1_amount_in : Sts :=
    (.cons (.set 3 (.bin .add (.var 3) (.lit (.int 1))))
    .nil)
def C1_amount_in : Ex :=
    (.and (.cons (.cmp .lt (.var 3) (.blt .len (.cons (.var 0) .nil))) (.cons (.cmp .isin (.idx (.var 0) (.var 3)) (.glob "FIGURES" (.str [48, 49, 50, 51, 52, 53, 54, 55, 56, 57]))) .nil)))
def L2_amount_in : Sts :=
    (.cons (.set 4 (.ite (.cmp .eq (.idx (.var 0) (.var 3)) (.lit (.str [45]))) (.not (.var 4)) (.var 4)))
    (.cons (.set 3 (.bin .add (.var 3) (.lit (.int 1))))
    .nil))
def C2_amount_in : Ex :=
    (.and (.cons (.cmp .lt (.var 3) (.blt .len (.cons (.var 0) .nil))) (.cons (.cmp .isin (.idx (.var 0) (.var 3)) (.glob "SIGNS" (.str [43, 45]))) .nil)))
def b_amount_in : Sts :=
    (.cons (.tset (.tup2 (.name 3) (.name 4)) (.tup (.cons (.lit (.int 0)) (.cons (.lit (.bl false)) .nil))))
    (.cons (.whl C2_amount_in L2_amount_in)
    (.cons (.set 1 (.var 3))
    (.cons (.whl C1_amount_in L1_amount_in)
    (.cons (.set 2 (.ite (.cmp .gt (.var 3) (.var 1)) (.blt .int (.cons (.slc (.var 0) (.some (.var 1)) (.some (.var 3))) .nil)) (.lit (.int 0))))
    (.cons (.ret (.ite (.var 4) (.neg (.var 2)) (.var 2)))
    .nil))))))
def d_amount_in : Df := ⟨"amount_in", 1, ["text", "begin", "found", "at", "turned"], b_amount_in⟩
/- 5 is_canonic_text -/
def b_is_canonic_text : Sts :=
    (.cons (.set 1 (.call f_amount_in (.cons (.var 0) .nil)))
    (.cons (.ret (.and (.cons (.chn .le .le (.neg (.glob "MOST_texts" (.int 999999999999999999))) (.var 1) (.glob "MOST_texts" (.int 999999999999999999))) (.cons (.cmp .eq (.blt .str (.cons (.var 1) .nil)) (.var 0)) .nil))))
    .nil))
def d_is_canonic_text : Df := ⟨"is_canonic_text", 1, ["text", "number"], b_is_canonic_text⟩
/- 6 rank -/
def b_rank : Sts :=
    (.cons (.ite (.cmp .eq (.var 0) (.lit (.str []))) (.cons (.ret (.tup (.cons (.lit (.int 0)) (.cons (.lit (.int 0)) (.cons (.lit (.str [])) .nil)))))
    .nil) .nil)
    (.cons (.ret (.ite (.call f_is_canonic_text (.cons (.var 0) .nil)) (.tup (.cons (.lit (.int 1)) (.cons (.call f_amount_in (.cons (.var 0) .nil)) (.cons (.lit (.str [])) .nil)))) (.tup (.cons (.lit (.int 2)) (.cons (.lit (.int 0)) (.cons (.var 0) .nil))))))
    .nil))
def d_rank : Df := ⟨"rank", 1, ["text"], b_rank⟩
/- 7 need_text -/
def b_need_text : Sts :=
    (.cons (.ite (.not (.call f_fits_text (.cons (.var 0) .nil))) (.cons .never
    .nil) .nil)
    .nil)
def d_need_text : Df := ⟨"need_text", 1, ["value"], b_need_text⟩
/- 8 is_name -/
def b_is_name : Sts :=
    (.cons (.ite (.or (.cons (.not (.isi (.var 0) .str)) (.cons (.not (.chn .le .le (.lit (.int 1)) (.blt .len (.cons (.var 0) .nil)) (.glob "NAME" (.int 8)))) (.cons (.cmp .notin (.idx (.var 0) (.lit (.int 0))) (.glob "LETTERS" (.str [65, 66, 67, 68, 69, 70, 71, 72, 73, 74, 75, 76, 77, 78, 79, 80, 81, 82, 83, 84, 85, 86, 87, 88, 89, 90, 97, 98, 99, 100, 101, 102, 103, 104, 105, 106, 107, 108, 109, 110, 111, 112, 113, 114, 115, 116, 117, 118, 119, 120, 121, 122]))) .nil)))) (.cons (.ret (.lit (.bl false)))
    .nil) .nil)
    (.cons (.ret (.blt .all (.cons (.comp [1] (.name 1) (.val (.var 0)) .none (.or (.cons (.cmp .isin (.var 1) (.glob "LETTERS" (.str [65, 66, 67, 68, 69, 70, 71, 72, 73, 74, 75, 76, 77, 78, 79, 80, 81, 82, 83, 84, 85, 86, 87, 88, 89, 90, 97, 98, 99, 100, 101, 102, 103, 104, 105, 106, 107, 108, 109, 110, 111, 112, 113, 114, 115, 116, 117, 118, 119, 120, 121, 122]))) (.cons (.cmp .isin (.var 1) (.glob "FIGURES" (.str [48, 49, 50, 51, 52, 53, 54, 55, 56, 57]))) .nil)))) .nil)))
    .nil))
def d_is_name : Df := ⟨"is_name", 1, ["value", "sign"], b_is_name⟩
/- 9 fits_subscripts -/
def b_fits_subscripts : Sts :=
    (.cons (.ite (.or (.cons (.not (.call f_is_tuple_of (.cons (.var 0) (.cons (.lit (.int 0)) (.cons (.glob "SUBSCRIPTS" (.int 7)) .nil))))) (.cons (.not (.blt .all (.cons (.comp [1] (.name 1) (.val (.var 0)) .none (.and (.cons (.call f_fits_text (.cons (.var 1) .nil)) (.cons (.cmp .ne (.var 1) (.lit (.str []))) .nil)))) .nil))) .nil))) (.cons (.ret (.lit (.bl false)))
    .nil) .nil)
    (.cons (.ret (.cmp .le (.blt .sum (.cons (.comp [1] (.name 1) (.val (.var 0)) .none (.blt .len (.cons (.var 1) .nil))) .nil)) (.glob "TOGETHER" (.int 100))))
    .nil))
def d_fits_subscripts : Df := ⟨"fits_subscripts", 1, ["value", "one"], b_fits_subscripts⟩
/- 10 fits_node -/
def b_fits_node : Sts :=
    (.cons (.ret (.and (.cons (.call f_is_tuple_of (.cons (.var 0) (.cons (.lit (.int 2)) (.cons (.lit (.int 2)) .nil)))) (.cons (.call f_is_name (.cons (.idx (.var 0) (.lit (.int 0))) .nil)) (.cons (.call f_fits_subscripts (.cons (.idx (.var 0) (.lit (.int 1))) .nil)) .nil)))))
    .nil)
def d_fits_node : Df := ⟨"fits_node", 1, ["value"], b_fits_node⟩
/- 11 node_rank -/
def b_node_rank : Sts :=
    (.cons (.ret (.tup (.cons (.idx (.var 0) (.lit (.int 0))) (.cons (.blt .tuple (.cons (.comp [1] (.name 1) (.val (.idx (.var 0) (.lit (.int 1)))) .none (.call f_rank (.cons (.var 1) .nil))) .nil)) .nil))))
    .nil)
def d_node_rank : Df := ⟨"node_rank", 1, ["node", "one"], b_node_rank⟩
/- 12 is_within -/
def b_is_within : Sts :=
    (.cons (.ret (.and (.cons (.cmp .eq (.idx (.var 0) (.lit (.int 0))) (.idx (.var 1) (.lit (.int 0)))) (.cons (.cmp .eq (.slc (.idx (.var 0) (.lit (.int 1))) .none (.some (.blt .len (.cons (.idx (.var 1) (.lit (.int 1))) .nil)))) (.idx (.var 1) (.lit (.int 1)))) .nil))))
    .nil)
def d_is_within : Df := ⟨"is_within", 2, ["node", "other"], b_is_within⟩
/- 13 need_node -/
def b_need_node : Sts :=
    (.cons (.ite (.not (.call f_fits_node (.cons (.var 0) .nil))) (.cons .never
    .nil) .nil)
    .nil)
def d_need_node : Df := ⟨"need_node", 1, ["value"], b_need_node⟩
/- 14 codes_of -/
def b_codes_of : Sts :=
    (.cons (.ret (.comp [1] (.name 1) (.val (.var 0)) .none (.blt .ord (.cons (.var 1) .nil))))
    .nil)
def d_codes_of : Df := ⟨"codes_of", 1, ["text", "sign"], b_codes_of⟩
/- 15 subscript_key -/
def b_subscript_key : Sts :=
    (.cons (.ite (.not (.call f_is_canonic_text (.cons (.var 0) .nil))) (.cons (.ret (.bin .add (.bin .add (.lst (.cons (.glob "OTHER" (.int 4)) .nil)) (.call f_codes_of (.cons (.var 0) .nil))) (.lst (.cons (.glob "END" (.int 1)) .nil))))
    .nil) .nil)
    (.cons (.ite (.cmp .eq (.idx (.var 0) (.lit (.int 0))) (.lit (.str [45]))) (.cons (.ret (.bin .add (.lst (.cons (.glob "BELOW" (.int 2)) (.cons (.bin .sub (.glob "GREATEST" (.int 255)) (.bin .sub (.blt .len (.cons (.var 0) .nil)) (.lit (.int 1)))) .nil))) (.comp [1] (.name 1) (.val (.call f_codes_of (.cons (.slc (.var 0) (.some (.lit (.int 1))) .none) .nil))) .none (.bin .sub (.glob "TURNED" (.int 105)) (.var 1)))))
    .nil) .nil)
    (.cons (.ret (.bin .add (.lst (.cons (.glob "NUMBER" (.int 3)) (.cons (.blt .len (.cons (.var 0) .nil)) .nil))) (.call f_codes_of (.cons (.var 0) .nil))))
    .nil)))
def d_subscript_key : Df := ⟨"subscript_key", 1, ["text", "code"], b_subscript_key⟩
/- 16 key_in -/
def L1_key_in : Sts :=
    (.cons (.aug 1 .add (.call f_subscript_key (.cons (.var 2) .nil)))
    .nil)
def b_key_in : Sts :=
    (.cons (.set 1 (.bin .add (.call f_codes_of (.cons (.idx (.var 0) (.lit (.int 0))) .nil)) (.lst (.cons (.glob "END" (.int 1)) .nil))))
    (.cons (.loop (.name 2) (.val (.idx (.var 0) (.lit (.int 1)))) L1_key_in)
    (.cons (.ret (.blt .tuple (.cons (.var 1) .nil)))
    .nil)))
def d_key_in : Df := ⟨"key_in", 1, ["node", "found", "one"], b_key_in⟩
/- 17 fits_store -/
def b_fits_store : Sts :=
    (.cons (.ite (.or (.cons (.not (.call f_is_tuple_of (.cons (.var 0) (.cons (.lit (.int 0)) (.cons (.glob "NODES" (.int 300)) .nil))))) (.cons (.not (.blt .all (.cons (.comp [2] (.name 2) (.val (.var 0)) .none (.call f_is_tuple_of (.cons (.var 2) (.cons (.lit (.int 2)) (.cons (.lit (.int 2)) .nil))))) .nil))) .nil))) (.cons (.ret (.lit (.bl false)))
    .nil) .nil)
    (.cons (.ite (.not (.blt .all (.cons (.comp [2] (.name 2) (.val (.var 0)) .none (.and (.cons (.call f_fits_node (.cons (.idx (.var 2) (.lit (.int 0))) .nil)) (.cons (.call f_fits_text (.cons (.idx (.var 2) (.lit (.int 1))) .nil)) .nil)))) .nil))) (.cons (.ret (.lit (.bl false)))
    .nil) .nil)
    (.cons (.set 1 (.comp [2] (.name 2) (.val (.var 0)) .none (.call f_node_rank (.cons (.idx (.var 2) (.lit (.int 0))) .nil))))
    (.cons (.ret (.blt .all (.cons (.comp [2, 3] (.tup2 (.name 2) (.name 3)) (.zip (.var 1) (.slc (.var 1) (.some (.lit (.int 1))) .none)) .none (.cmp .lt (.var 2) (.var 3))) .nil)))
    .nil))))
def d_fits_store : Df := ⟨"fits_store", 1, ["value", "ranks", "one", "other"], b_fits_store⟩
/- 18 put -/
def b_put : Sts :=
    (.cons (.set 3 (.comp [4] (.name 4) (.val (.var 0)) (.some (.cmp .ne (.idx (.var 4) (.lit (.int 0))) (.var 1))) (.var 4)))
    (.cons (.ret (.blt .tuple (.cons (.srtL (.bin .add (.var 3) (.lst (.cons (.tup (.cons (.var 1) (.cons (.var 2) .nil))) .nil))) 4 (.call f_node_rank (.cons (.idx (.var 4) (.lit (.int 0))) .nil))) .nil)))
    .nil))
def d_put : Df := ⟨"put", 3, ["store", "node", "text", "others", "one"], b_put⟩
/- 19 need_store -/
def b_need_store : Sts :=
    (.cons (.ite (.not (.call f_fits_store (.cons (.var 0) .nil))) (.cons .never
    .nil) .nil)
    .nil)
def d_need_store : Df := ⟨"need_store", 1, ["value"], b_need_store⟩
/- 20 need_both -/
def b_need_both : Sts :=
    (.cons (.expr (.call f_need_store (.cons (.var 0) .nil)))
    (.cons (.expr (.call f_need_node (.cons (.var 1) .nil)))
    .nil))
def d_need_both : Df := ⟨"need_both", 2, ["store", "node"], b_need_both⟩
/- 21 weight_of -/
def b_weight_of : Sts :=
    (.cons (.ret (.bin .add (.bin .add (.glob "ROUND" (.int 2)) (.blt .len (.cons (.call f_key_in (.cons (.var 0) .nil)) .nil))) (.blt .len (.cons (.var 1) .nil))))
    .nil)
def d_weight_of : Df := ⟨"weight_of", 2, ["node", "text"], b_weight_of⟩
/- 22 weight_in -/
def b_weight_in : Sts :=
    (.cons (.ret (.blt .sum (.cons (.comp [2, 3] (.tup2 (.name 2) (.name 3)) (.val (.var 0)) (.some (.call f_is_within (.cons (.var 2) (.cons (.var 1) .nil)))) (.call f_weight_of (.cons (.var 2) (.cons (.var 3) .nil)))) .nil)))
    .nil)
def d_weight_in : Df := ⟨"weight_in", 2, ["store", "node", "own", "text"], b_weight_in⟩
/- 23 heads_in -/
def L1_heads_in : Sts :=
    (.cons (.ite (.cmp .ge (.blt .len (.cons (.idx (.var 3) (.lit (.int 1))) .nil)) (.var 1)) (.cons (.sset (.var 2) (.tup (.cons (.idx (.var 3) (.lit (.int 0))) (.cons (.slc (.idx (.var 3) (.lit (.int 1))) .none (.some (.var 1))) .nil))) (.lit (.bl true)))
    .nil) .nil)
    .nil)
def b_heads_in : Sts :=
    (.cons (.set 2 .dct0)
    (.cons (.loop (.tup2 (.name 3) (.name 4)) (.val (.var 0)) L1_heads_in)
    (.cons (.ret (.srt (.var 2) f_node_rank))
    .nil)))
def d_heads_in : Df := ⟨"heads_in", 2, ["store", "deep", "found", "node", "text"], b_heads_in⟩
/- 24 children_of -/
def b_children_of : Sts :=
    (.cons (.ret (.comp [2] (.name 2) (.val (.call f_heads_in (.cons (.var 0) (.cons (.bin .add (.blt .len (.cons (.idx (.var 1) (.lit (.int 1))) .nil)) (.lit (.int 1))) .nil)))) (.some (.call f_is_within (.cons (.var 2) (.cons (.var 1) .nil)))) (.var 2)))
    .nil)
def d_children_of : Df := ⟨"children_of", 2, ["store", "node", "own"], b_children_of⟩
/- 25 way_in -/
def L1_way_in : Sts :=
    (.cons (.aug 3 .add (.tup (.cons (.var 2) .nil)))
    (.cons (.set 4 (.call f_children_of (.cons (.var 0) (.cons (.var 2) .nil))))
    (.cons (.ite (.cmp .eq (.var 4) (.lst .nil)) (.cons (.ret (.var 3))
    .nil) .nil)
    (.cons (.set 5 (.blt .max (.cons (.comp [6] (.name 6) (.val (.var 4)) .none (.call f_weight_in (.cons (.var 0) (.cons (.var 6) .nil)))) .nil)))
    (.cons (.set 2 (.idx (.comp [6] (.name 6) (.val (.var 4)) (.some (.cmp .eq (.call f_weight_in (.cons (.var 0) (.cons (.var 6) .nil))) (.var 5))) (.var 6)) (.lit (.int 0))))
    .nil)))))
def C1_way_in : Ex :=
    (.cmp .gt (.call f_weight_in (.cons (.var 0) (.cons (.var 2) .nil))) (.lit (.int 0)))
def b_way_in : Sts :=
    (.cons (.tset (.tup2 (.name 2) (.name 3)) (.tup (.cons (.tup (.cons (.var 1) (.cons (.tup .nil) .nil))) (.cons (.tup .nil) .nil))))
    (.cons (.whl C1_way_in L1_way_in)
    (.cons (.ret (.var 3))
    .nil)))
def d_way_in : Df := ⟨"way_in", 2, ["store", "name", "here", "found", "below", "most", "one"], b_way_in⟩
/- 26 fits_quotas -/
def b_fits_quotas : Sts :=
    (.cons (.ite (.or (.cons (.not (.call f_is_tuple_of (.cons (.var 0) (.cons (.lit (.int 0)) (.cons (.glob "QUOTAS" (.int 10)) .nil))))) (.cons (.not (.blt .all (.cons (.comp [2] (.name 2) (.val (.var 0)) .none (.call f_is_tuple_of (.cons (.var 2) (.cons (.lit (.int 2)) (.cons (.lit (.int 2)) .nil))))) .nil))) .nil))) (.cons (.ret (.lit (.bl false)))
    .nil) .nil)
    (.cons (.ite (.not (.blt .all (.cons (.comp [4, 5] (.tup2 (.name 4) (.name 5)) (.val (.var 0)) .none (.and (.cons (.call f_fits_node (.cons (.var 4) .nil)) (.cons (.call f_is_whole (.cons (.var 5) (.cons (.lit (.int 0)) (.cons (.glob "MOST_weights" (.int 200000)) .nil)))) .nil)))) .nil))) (.cons (.ret (.lit (.bl false)))
    .nil) .nil)
    (.cons (.set 1 (.comp [2] (.name 2) (.val (.var 0)) .none (.call f_node_rank (.cons (.idx (.var 2) (.lit (.int 0))) .nil))))
    (.cons (.ret (.blt .all (.cons (.comp [2, 3] (.tup2 (.name 2) (.name 3)) (.zip (.var 1) (.slc (.var 1) (.some (.lit (.int 1))) .none)) .none (.cmp .lt (.var 2) (.var 3))) .nil)))
    .nil))))
def d_fits_quotas : Df := ⟨"fits_quotas", 1, ["value", "ranks", "one", "other", "node", "most"], b_fits_quotas⟩
/- 27 need_quotas -/
def b_need_quotas : Sts :=
    (.cons (.ite (.not (.call f_fits_quotas (.cons (.var 0) .nil))) (.cons .never
    .nil) .nil)
    .nil)
def d_need_quotas : Df := ⟨"need_quotas", 1, ["quotas"], b_need_quotas⟩
/- 28 over_in -/
def b_over_in : Sts :=
    (.cons (.set 2 (.comp [4, 5] (.tup2 (.name 4) (.name 5)) (.val (.var 1)) .none (.tup (.cons (.var 4) (.cons (.bin .sub (.call f_weight_in (.cons (.var 0) (.cons (.var 4) .nil))) (.var 5)) .nil)))))
    (.cons (.ret (.comp [3] (.name 3) (.val (.var 2)) (.some (.cmp .gt (.idx (.var 3) (.lit (.int 1))) (.lit (.int 0)))) (.var 3)))
    .nil))
def d_over_in : Df := ⟨"over_in", 2, ["store", "quotas", "rows", "row", "node", "most"], b_over_in⟩
/- 29 room_in -/
def b_room_in : Sts :=
    (.cons (.set 3 (.comp [4, 5] (.tup2 (.name 4) (.name 5)) (.val (.var 1)) (.some (.call f_is_within (.cons (.var 2) (.cons (.var 4) .nil)))) (.bin .sub (.var 5) (.call f_weight_in (.cons (.var 0) (.cons (.var 4) .nil))))))
    (.cons (.ret (.ite (.cmp .ne (.var 3) (.lst .nil)) (.blt .min (.cons (.var 3) .nil)) (.lit .non)))
    .nil))
def d_room_in : Df := ⟨"room_in", 3, ["store", "quotas", "node", "rows", "own", "most"], b_room_in⟩
/- 30 weight -/
def b_weight : Sts :=
    (.cons (.expr (.call f_need_both (.cons (.var 0) (.cons (.var 1) .nil))))
    (.cons (.ret (.call f_weight_in (.cons (.var 0) (.cons (.var 1) .nil))))
    .nil))
def d_weight : Df := ⟨"weight", 2, ["store", "node"], b_weight⟩
/- 31 weights_at -/
def b_weights_at : Sts :=
    (.cons (.expr (.call f_need_store (.cons (.var 0) .nil)))
    (.cons (.ite (.not (.call f_is_whole (.cons (.var 1) (.cons (.lit (.int 0)) (.cons (.glob "SUBSCRIPTS" (.int 7)) .nil))))) (.cons .never
    .nil) .nil)
    (.cons (.ret (.blt .tuple (.cons (.comp [2] (.name 2) (.val (.call f_heads_in (.cons (.var 0) (.cons (.var 1) .nil)))) .none (.tup (.cons (.var 2) (.cons (.call f_weight_in (.cons (.var 0) (.cons (.var 2) .nil))) .nil)))) .nil)))
    .nil)))
def d_weights_at : Df := ⟨"weights_at", 2, ["store", "deep", "node"], b_weights_at⟩
/- 32 heaviest_way -/
def b_heaviest_way : Sts :=
    (.cons (.expr (.call f_need_store (.cons (.var 0) .nil)))
    (.cons (.ite (.not (.call f_is_name (.cons (.var 1) .nil))) (.cons .never
    .nil) .nil)
    (.cons (.ret (.call f_way_in (.cons (.var 0) (.cons (.var 1) .nil))))
    .nil)))
def d_heaviest_way : Df := ⟨"heaviest_way", 2, ["store", "name"], b_heaviest_way⟩
/- 33 middle_node -/
def b_middle_node : Sts :=
    (.cons (.expr (.call f_need_store (.cons (.var 0) .nil)))
    (.cons (.ite (.not (.call f_is_name (.cons (.var 1) .nil))) (.cons .never
    .nil) .nil)
    (.cons (.set 2 (.call f_weight_in (.cons (.var 0) (.cons (.tup (.cons (.var 1) (.cons (.tup .nil) .nil))) .nil))))
    (.cons (.set 3 (.comp [4] (.name 4) (.val (.call f_way_in (.cons (.var 0) (.cons (.var 1) .nil)))) (.some (.cmp .ge (.bin .mul (.lit (.int 2)) (.call f_weight_in (.cons (.var 0) (.cons (.var 4) .nil)))) (.var 2))) (.var 4)))
    (.cons (.ret (.ite (.cmp .ne (.var 3) (.lst .nil)) (.idx (.var 3) (.neg (.lit (.int 1)))) (.lit .non)))
    .nil)))))
def d_middle_node : Df := ⟨"middle_node", 2, ["store", "name", "whole", "found", "node"], b_middle_node⟩
/- 34 are_quotas -/
def b_are_quotas : Sts :=
    (.cons (.ret (.call f_fits_quotas (.cons (.var 0) .nil)))
    .nil)
def d_are_quotas : Df := ⟨"are_quotas", 1, ["value"], b_are_quotas⟩
/- 35 over -/
def b_over : Sts :=
    (.cons (.expr (.call f_need_store (.cons (.var 0) .nil)))
    (.cons (.expr (.call f_need_quotas (.cons (.var 1) .nil)))
    (.cons (.ret (.blt .tuple (.cons (.call f_over_in (.cons (.var 0) (.cons (.var 1) .nil))) .nil)))
    .nil)))
def d_over : Df := ⟨"over", 2, ["store", "quotas"], b_over⟩
/- 36 room -/
def b_room : Sts :=
    (.cons (.expr (.call f_need_store (.cons (.var 0) .nil)))
    (.cons (.expr (.call f_need_quotas (.cons (.var 1) .nil)))
    (.cons (.expr (.call f_need_node (.cons (.var 2) .nil)))
    (.cons (.ret (.call f_room_in (.cons (.var 0) (.cons (.var 1) (.cons (.var 2) .nil)))))
    .nil))))
def d_room : Df := ⟨"room", 3, ["store", "quotas", "node"], b_room⟩
/- 37 can_put -/
def b_can_put : Sts :=
    (.cons (.expr (.call f_need_store (.cons (.var 0) .nil)))
    (.cons (.expr (.call f_need_quotas (.cons (.var 1) .nil)))
    (.cons (.expr (.call f_need_node (.cons (.var 2) .nil)))
    (.cons (.expr (.call f_need_text (.cons (.var 3) .nil)))
    (.cons (.set 4 (.call f_room_in (.cons (.call f_put (.cons (.var 0) (.cons (.var 2) (.cons (.var 3) .nil)))) (.cons (.var 1) (.cons (.var 2) .nil)))))
    (.cons (.ret (.or (.cons (.cmp .is (.var 4) (.lit .non)) (.cons (.cmp .ge (.var 4) (.lit (.int 0))) .nil))))
    .nil))))))
def d_can_put : Df := ⟨"can_put", 4, ["store", "quotas", "node", "text", "left"], b_can_put⟩
/- 38 _law_cup -/
def b__law_cup : Sts :=
    (.cons (.set 1 (.blt .abs (.cons (.idx (.bin .add (.blt .list (.cons (.var 0) .nil)) (.lst (.cons (.lit (.int 0)) .nil))) (.lit (.int 0))) .nil)))
    (.cons (.ret (.lst (.cons (.ite (.cmp .ge (.var 1) (.bin .pow (.lit (.int 10)) (.lit (.int 18)))) (.bin .fdiv (.var 1) (.lit (.int 131))) (.lit (.int 0))) (.cons (.bin .add (.bin .mod (.blt .int (.cons (.bin .add (.bin .mul (.var 1) (.lit (.int 349))) (.lit (.int 3851))) .nil)) (.lit (.int 2077503101))) (.lit (.int 227))) .nil))))
    .nil))
def d__law_cup : Df := ⟨"_law_cup", 1, ["script", "cell"], b__law_cup⟩
/- 39 _law_roll -/
def b__law_roll : Sts :=
    (.cons (.ite (.cmp .gt (.idx (.var 0) (.lit (.int 0))) (.lit (.int 0))) (.cons (.set 3 (.bin .mod (.blt .int (.cons (.idx (.var 0) (.lit (.int 0))) .nil)) (.var 1)))
    (.cons (.sset (.var 0) (.lit (.int 0)) (.bin .fdiv (.idx (.var 0) (.lit (.int 0))) (.var 1)))
    (.cons (.ret (.var 3))
    .nil))) .nil)
    (.cons (.sset (.var 0) (.lit (.int 1)) (.bin .mod (.blt .int (.cons (.bin .add (.bin .mul (.idx (.var 0) (.lit (.int 1))) (.lit (.int 31163))) (.lit (.int 8123))) .nil)) (.lit (.int 2147483423))))
    (.cons (.set 2 (.bin .mod (.blt .int (.cons (.bin .mul (.idx (.var 0) (.lit (.int 1))) (.bin .add (.idx (.var 0) (.lit (.int 1))) (.lit (.int 311)))) .nil)) (.lit (.int 2147483587))))
    (.cons (.ret (.bin .mod (.blt .int (.cons (.bin .fdiv (.var 2) (.lit (.int 853))) .nil)) (.var 1)))
    .nil))))
def d__law_roll : Df := ⟨"_law_roll", 2, ["cup", "many", "deep", "found"], b__law_roll⟩
/- 40 _law_some -/
def b__law_some : Sts :=
    (.cons (.ret (.idx (.var 1) (.call f__law_roll (.cons (.var 0) (.cons (.blt .len (.cons (.var 1) .nil)) .nil)))))
    .nil)
def d__law_some : Df := ⟨"_law_some", 2, ["cup", "things"], b__law_some⟩
/- 41 _law_number -/
def L1__law_number : Sts :=
    (.cons (.tset (.tup2 (.name 3) (.name 2)) (.tup (.cons (.bin .add (.bin .mul (.var 3) (.lit (.int 10))) (.mth .index (.lit (.str [48, 49, 50, 51, 52, 53, 54, 55, 56, 57])) (.cons (.idx (.var 0) (.var 2)) .nil))) (.cons (.bin .add (.var 2) (.lit (.int 1))) .nil))))
    .nil)
def C1__law_number : Ex :=
    (.and (.cons (.cmp .lt (.var 2) (.blt .len (.cons (.var 0) .nil))) (.cons (.cmp .isin (.idx (.var 0) (.var 2)) (.lit (.str [48, 49, 50, 51, 52, 53, 54, 55, 56, 57]))) .nil)))
def L2__law_number : Sts :=
    (.cons (.tset (.tup2 (.name 1) (.name 2)) (.tup (.cons (.ite (.cmp .eq (.idx (.var 0) (.var 2)) (.lit (.str [45]))) (.neg (.var 1)) (.var 1)) (.cons (.bin .add (.var 2) (.lit (.int 1))) .nil))))
    .nil)
def C2__law_number : Ex :=
    (.and (.cons (.cmp .lt (.var 2) (.blt .len (.cons (.var 0) .nil))) (.cons (.cmp .isin (.idx (.var 0) (.var 2)) (.lit (.str [43, 45]))) .nil)))
def b__law_number : Sts :=
    (.cons (.tset (.tup3 (.name 1) (.name 2) (.name 3)) (.tup (.cons (.lit (.int 1)) (.cons (.lit (.int 0)) (.cons (.lit (.int 0)) .nil)))))
    (.cons (.whl C2__law_number L2__law_number)
    (.cons (.whl C1__law_number L1__law_number)
    (.cons (.ret (.bin .mul (.var 1) (.var 3)))
    .nil))))
def d__law_number : Df := ⟨"_law_number", 1, ["text", "sign", "at", "found"], b__law_number⟩
/- 42 _law_is_canonic -/
def b__law_is_canonic : Sts :=
    (.cons (.set 1 (.call f__law_number (.cons (.var 0) .nil)))
    (.cons (.ret (.and (.cons (.cmp .lt (.blt .abs (.cons (.var 1) .nil)) (.bin .pow (.lit (.int 10)) (.lit (.int 18)))) (.cons (.cmp .eq (.blt .str (.cons (.var 1) .nil)) (.var 0)) .nil))))
    .nil))
def d__law_is_canonic : Df := ⟨"_law_is_canonic", 1, ["text", "number"], b__law_is_canonic⟩
/- 43 _law_place -/
def b__law_place : Sts :=
    (.cons (.ite (.cmp .eq (.var 0) (.lit (.str []))) (.cons (.ret (.tup (.cons (.lit (.int 0)) (.cons (.lit (.int 0)) (.cons (.lit (.str [])) .nil)))))
    .nil) .nil)
    (.cons (.ret (.ite (.call f__law_is_canonic (.cons (.var 0) .nil)) (.tup (.cons (.lit (.int 1)) (.cons (.call f__law_number (.cons (.var 0) .nil)) (.cons (.lit (.str [])) .nil)))) (.tup (.cons (.lit (.int 2)) (.cons (.lit (.int 0)) (.cons (.var 0) .nil))))))
    .nil))
def d__law_place : Df := ⟨"_law_place", 1, ["text"], b__law_place⟩
/- 44 _law_node_place -/
def b__law_node_place : Sts :=
    (.cons (.ret (.tup (.cons (.idx (.var 0) (.lit (.int 0))) (.cons (.blt .tuple (.cons (.comp [1] (.name 1) (.val (.idx (.var 0) (.lit (.int 1)))) .none (.call f__law_place (.cons (.var 1) .nil))) .nil)) .nil))))
    .nil)
def d__law_node_place : Df := ⟨"_law_node_place", 1, ["node", "one"], b__law_node_place⟩
/- 45 _law_sorted -/
def b__law_sorted : Sts :=
    (.cons (.ret (.blt .tuple (.cons (.srtL (.var 0) 1 (.call f__law_node_place (.cons (.idx (.var 1) (.lit (.int 0))) .nil))) .nil)))
    .nil)
def d__law_sorted : Df := ⟨"_law_sorted", 1, ["pairs", "one"], b__law_sorted⟩
/- 46 _law_set -/
def b__law_set : Sts :=
    (.cons (.ret (.call f__law_sorted (.cons (.bin .add (.comp [3] (.name 3) (.val (.var 0)) (.some (.cmp .ne (.idx (.var 3) (.lit (.int 0))) (.var 1))) (.var 3)) (.lst (.cons (.tup (.cons (.var 1) (.cons (.var 2) .nil))) .nil))) .nil)))
    .nil)
def d__law_set : Df := ⟨"_law_set", 3, ["store", "node", "text", "one"], b__law_set⟩
/- 47 _law_below -/
def b__law_below : Sts :=
    (.cons (.ret (.and (.cons (.cmp .eq (.idx (.var 0) (.lit (.int 0))) (.idx (.var 1) (.lit (.int 0)))) (.cons (.cmp .eq (.slc (.idx (.var 0) (.lit (.int 1))) .none (.some (.blt .len (.cons (.idx (.var 1) (.lit (.int 1))) .nil)))) (.idx (.var 1) (.lit (.int 1)))) .nil))))
    .nil)
def d__law_below : Df := ⟨"_law_below", 2, ["node", "other"], b__law_below⟩
/- 48 _law_subscript_key -/
def b__law_subscript_key : Sts :=
    (.cons (.set 1 (.comp [2] (.name 2) (.val (.var 0)) .none (.blt .ord (.cons (.var 2) .nil))))
    (.cons (.ite (.not (.call f__law_is_canonic (.cons (.var 0) .nil))) (.cons (.ret (.bin .add (.bin .add (.tup (.cons (.lit (.int 4)) .nil)) (.blt .tuple (.cons (.var 1) .nil))) (.tup (.cons (.lit (.int 1)) .nil))))
    .nil) .nil)
    (.cons (.ite (.cmp .lt (.call f__law_number (.cons (.var 0) .nil)) (.lit (.int 0))) (.cons (.ret (.bin .add (.tup (.cons (.lit (.int 2)) (.cons (.bin .sub (.lit (.int 256)) (.blt .len (.cons (.var 1) .nil))) .nil))) (.blt .tuple (.cons (.comp [3] (.name 3) (.val (.slc (.var 1) (.some (.lit (.int 1))) .none)) .none (.bin .sub (.lit (.int 105)) (.var 3))) .nil))))
    .nil) .nil)
    (.cons (.ret (.bin .add (.tup (.cons (.lit (.int 3)) (.cons (.blt .len (.cons (.var 1) .nil)) .nil))) (.blt .tuple (.cons (.var 1) .nil))))
    .nil))))
def d__law_subscript_key : Df := ⟨"_law_subscript_key", 1, ["text", "codes", "sign", "code"], b__law_subscript_key⟩
/- 49 _law_key -/
def L1__law_key : Sts :=
    (.cons (.set 1 (.bin .add (.var 1) (.call f__law_subscript_key (.cons (.var 2) .nil))))
    .nil)
def b__law_key : Sts :=
    (.cons (.set 1 (.bin .add (.blt .tuple (.cons (.comp [3] (.name 3) (.val (.idx (.var 0) (.lit (.int 0)))) .none (.blt .ord (.cons (.var 3) .nil))) .nil)) (.tup (.cons (.lit (.int 1)) .nil))))
    (.cons (.loop (.name 2) (.val (.idx (.var 0) (.lit (.int 1)))) L1__law_key)
    (.cons (.ret (.var 1))
    .nil)))
def d__law_key : Df := ⟨"_law_key", 1, ["node", "found", "one", "sign"], b__law_key⟩
/- 50 _law_tree_node -/
def b__law_tree_node : Sts :=
    (.cons (.ret (.tup (.cons (.call f__law_some (.cons (.var 0) (.cons (.lst (.cons (.lit (.str [97])) (.cons (.lit (.str [97])) (.cons (.lit (.str [97])) (.cons (.lit (.str [98])) .nil))))) .nil))) (.cons (.blt .tuple (.cons (.comp [1] (.name 1) (.rng1 (.call f__law_some (.cons (.var 0) (.cons (.lst (.cons (.lit (.int 0)) (.cons (.lit (.int 1)) (.cons (.lit (.int 2)) (.cons (.lit (.int 2)) (.cons (.lit (.int 3)) .nil)))))) .nil)))) .none (.call f__law_some (.cons (.var 0) (.cons (.lst (.cons (.lit (.str [49])) (.cons (.lit (.str [50])) (.cons (.lit (.str [49, 48])) (.cons (.lit (.str [45, 51])) (.cons (.lit (.str [120])) .nil)))))) .nil)))) .nil)) .nil))))
    .nil)
def d__law_tree_node : Df := ⟨"_law_tree_node", 1, ["cup", "turn"], b__law_tree_node⟩
/- 51 _law_tree_store -/
def L1__law_tree_store : Sts :=
    (.cons (.set 2 (.call f__law_set (.cons (.var 2) (.cons (.call f__law_tree_node (.cons (.var 0) .nil)) (.cons (.call f__law_some (.cons (.var 0) (.cons (.lst (.cons (.lit (.str [])) (.cons (.lit (.str [120])) (.cons (.bin .mul (.lit (.str [121])) (.lit (.int 9))) (.cons (.bin .mul (.lit (.str [122])) (.call f__law_roll (.cons (.var 0) (.cons (.lit (.int 60)) .nil)))) .nil))))) .nil))) .nil)))))
    .nil)
def b__law_tree_store : Sts :=
    (.cons (.set 2 (.tup .nil))
    (.cons (.loop (.name 3) (.rng1 (.call f__law_roll (.cons (.var 0) (.cons (.bin .add (.var 1) (.lit (.int 1))) .nil)))) L1__law_tree_store)
    (.cons (.ret (.var 2))
    .nil)))
def d__law_tree_store : Df := ⟨"_law_tree_store", 2, ["cup", "most", "found", "turn"], b__law_tree_store⟩
/- 52 _law_weight -/
def b__law_weight : Sts :=
    (.cons (.ret (.blt .sum (.cons (.comp [2, 3] (.tup2 (.name 2) (.name 3)) (.val (.var 0)) (.some (.call f__law_below (.cons (.var 2) (.cons (.var 1) .nil)))) (.bin .add (.bin .add (.lit (.int 2)) (.blt .len (.cons (.call f__law_key (.cons (.var 2) .nil)) .nil))) (.blt .len (.cons (.var 3) .nil)))) .nil)))
    .nil)
def d__law_weight : Df := ⟨"_law_weight", 2, ["store", "node", "own", "text"], b__law_weight⟩
/- 53 _law_heads -/
def b__law_heads : Sts :=
    (.cons (.set 2 (.blt .dict (.cons (.comp [3, 4] (.tup2 (.name 3) (.name 4)) (.val (.var 0)) (.some (.cmp .ge (.blt .len (.cons (.idx (.var 3) (.lit (.int 1))) .nil)) (.var 1))) (.tup (.cons (.tup (.cons (.idx (.var 3) (.lit (.int 0))) (.cons (.slc (.idx (.var 3) (.lit (.int 1))) .none (.some (.var 1))) .nil))) (.cons (.lit (.int 1)) .nil)))) .nil)))
    (.cons (.ret (.srt (.var 2) f__law_node_place))
    .nil))
def d__law_heads : Df := ⟨"_law_heads", 2, ["store", "deep", "found", "node", "text"], b__law_heads⟩
/- 54 _law_quotas -/
def L1__law_quotas : Sts :=
    (.cons (.set 4 (.call f__law_tree_node (.cons (.var 0) .nil)))
    (.cons (.set 5 (.call f__law_weight (.cons (.var 1) (.cons (.var 4) .nil))))
    (.cons (.sset (.var 2) (.var 4) (.call f__law_some (.cons (.var 0) (.cons (.lst (.cons (.var 5) (.cons (.blt .max (.cons (.lit (.int 0)) (.cons (.bin .sub (.var 5) (.lit (.int 1))) .nil))) (.cons (.bin .add (.var 5) (.call f__law_roll (.cons (.var 0) (.cons (.lit (.int 20)) .nil)))) (.cons (.call f__law_roll (.cons (.var 0) (.cons (.lit (.int 80)) .nil))) (.cons (.lit (.int 200000)) .nil)))))) .nil))))
    .nil)))
def b__law_quotas : Sts :=
    (.cons (.set 2 .dct0)
    (.cons (.loop (.name 3) (.rng1 (.call f__law_roll (.cons (.var 0) (.cons (.lit (.int 5)) .nil)))) L1__law_quotas)
    (.cons (.ret (.call f__law_sorted (.cons (.comp [4] (.name 4) (.keys 2) .none (.tup (.cons (.var 4) (.cons (.idx (.var 2) (.var 4)) .nil)))) .nil)))
    .nil)))
def d__law_quotas : Df := ⟨"_law_quotas", 2, ["cup", "store", "found", "turn", "node", "whole"], b__law_quotas⟩
/- 55 _law_way -/
def L1__law_way : Sts :=
    (.cons (.ite (.and (.cons (.cmp .isnot (.var 3) (.lit .non)) (.cons (.cmp .gt (.call f__law_weight (.cons (.var 0) (.cons (.var 3) .nil))) (.lit (.int 0))) .nil))) (.cons (.set 4 (.bin .add (.var 4) (.tup (.cons (.var 3) .nil))))
    (.cons (.set 5 (.comp [7] (.name 7) (.val (.call f__law_heads (.cons (.var 0) (.cons (.bin .add (.blt .len (.cons (.idx (.var 3) (.lit (.int 1))) .nil)) (.lit (.int 1))) .nil)))) (.some (.call f__law_below (.cons (.var 7) (.cons (.var 3) .nil)))) (.var 7)))
    (.cons (.set 6 (.comp [8, 7] (.tup2 (.name 8) (.name 7)) (.enum (.var 5)) .none (.tup (.cons (.neg (.call f__law_weight (.cons (.var 0) (.cons (.var 7) .nil)))) (.cons (.var 8) .nil)))))
    (.cons (.set 3 (.ite (.cmp .ne (.var 6) (.lst .nil)) (.idx (.var 5) (.idx (.blt .min (.cons (.var 6) .nil)) (.lit (.int 1)))) (.lit .non)))
    .nil)))) .nil)
    .nil)
def b__law_way : Sts :=
    (.cons (.tset (.tup2 (.name 3) (.name 4)) (.tup (.cons (.tup (.cons (.var 1) (.cons (.tup .nil) .nil))) (.cons (.tup .nil) .nil))))
    (.cons (.loop (.name 2) (.rng1 (.lit (.int 9))) L1__law_way)
    (.cons (.ret (.var 4))
    .nil)))
def d__law_way : Df := ⟨"_law_way", 2, ["store", "name", "turn", "here", "found", "below", "rows", "one", "at"], b__law_way⟩
/- 56 _law_right -/
def L1__law_right : Sts :=
    (.cons (.tset (.tup2 (.name 14) (.name 15)) (.tup (.cons (.call f__law_tree_node (.cons (.var 0) .nil)) (.cons (.call f__law_some (.cons (.var 0) (.cons (.lst (.cons (.lit (.str [])) (.cons (.bin .mul (.lit (.str [120])) (.call f__law_roll (.cons (.var 0) (.cons (.lit (.int 80)) .nil)))) .nil))) .nil))) .nil))))
    (.cons (.set 11 (.comp [17, 16] (.tup2 (.name 17) (.name 16)) (.val (.var 4)) (.some (.call f__law_below (.cons (.var 14) (.cons (.var 17) .nil)))) (.bin .sub (.var 16) (.call f__law_weight (.cons (.var 1) (.cons (.var 17) .nil))))))
    (.cons (.set 12 (.call f__law_set (.cons (.var 1) (.cons (.var 14) (.cons (.var 15) .nil)))))
    (.cons (.set 13 (.cmp .eq (.comp [17, 16] (.tup2 (.name 17) (.name 16)) (.val (.var 4)) (.some (.and (.cons (.call f__law_below (.cons (.var 14) (.cons (.var 17) .nil))) (.cons (.cmp .gt (.call f__law_weight (.cons (.var 12) (.cons (.var 17) .nil))) (.var 16)) .nil)))) (.lit (.int 1))) (.lst .nil)))
    (.cons (.ite (.cmp .ne (.blt .repr (.cons (.tup (.cons (.call f_weight (.cons (.var 1) (.cons (.var 14) .nil))) (.cons (.call f_room (.cons (.var 1) (.cons (.var 4) (.cons (.var 14) .nil)))) (.cons (.call f_can_put (.cons (.var 1) (.cons (.var 4) (.cons (.var 14) (.cons (.var 15) .nil))))) .nil)))) .nil)) (.blt .repr (.cons (.tup (.cons (.call f__law_weight (.cons (.var 1) (.cons (.var 14) .nil))) (.cons (.ite (.cmp .ne (.var 11) (.lst .nil)) (.blt .min (.cons (.var 11) .nil)) (.lit .non)) (.cons (.var 13) .nil)))) .nil))) (.cons (.ret (.lit (.bl false)))
    .nil) .nil)
    (.cons (.ite (.and (.cons (.var 13) (.cons (.cmp .ne (.comp [17, 16] (.tup2 (.name 17) (.name 16)) (.val (.var 4)) (.some (.chn .le .lt (.call f__law_weight (.cons (.var 1) (.cons (.var 17) .nil))) (.var 16) (.call f__law_weight (.cons (.var 12) (.cons (.var 17) .nil))))) (.lit (.int 1))) (.lst .nil)) .nil))) (.cons (.ret (.lit (.bl false)))
    .nil) .nil)
    .nil))))))
def L2__law_right : Sts :=
    (.cons (.set 9 (.call f__law_way (.cons (.var 1) (.cons (.var 3) .nil))))
    (.cons (.set 10 (.comp [14] (.name 14) (.val (.var 9)) (.some (.cmp .ge (.bin .mul (.call f__law_weight (.cons (.var 1) (.cons (.var 14) .nil))) (.lit (.int 2))) (.call f__law_weight (.cons (.var 1) (.cons (.tup (.cons (.var 3) (.cons (.tup .nil) .nil))) .nil))))) (.var 14)))
    (.cons (.ite (.cmp .ne (.blt .repr (.cons (.tup (.cons (.call f_heaviest_way (.cons (.var 1) (.cons (.var 3) .nil))) (.cons (.call f_middle_node (.cons (.var 1) (.cons (.var 3) .nil))) .nil))) .nil)) (.blt .repr (.cons (.tup (.cons (.var 9) (.cons (.ite (.cmp .ne (.var 10) (.lst .nil)) (.idx (.var 10) (.neg (.lit (.int 1)))) (.lit .non)) .nil))) .nil))) (.cons (.ret (.lit (.bl false)))
    .nil) .nil)
    .nil)))
def L3__law_right : Sts :=
    (.cons (.ite (.cmp .ne (.blt .repr (.cons (.call f_weights_at (.cons (.var 1) (.cons (.var 2) .nil))) .nil)) (.blt .repr (.cons (.blt .tuple (.cons (.comp [14] (.name 14) (.val (.call f__law_heads (.cons (.var 1) (.cons (.var 2) .nil)))) .none (.tup (.cons (.var 14) (.cons (.call f__law_weight (.cons (.var 1) (.cons (.var 14) .nil))) .nil)))) .nil)) .nil))) (.cons (.ret (.lit (.bl false)))
    .nil) .nil)
    (.cons (.ite (.cmp .ne (.blt .sum (.cons (.comp [14, 21] (.tup2 (.name 14) (.name 21)) (.val (.call f_weights_at (.cons (.var 1) (.cons (.var 2) .nil)))) .none (.var 21)) .nil)) (.blt .sum (.cons (.comp [19] (.name 19) (.val (.var 1)) (.some (.cmp .ge (.blt .len (.cons (.idx (.idx (.var 19) (.lit (.int 0))) (.lit (.int 1))) .nil)) (.var 2))) (.call f__law_weight (.cons (.tup (.cons (.var 19) .nil)) (.cons (.idx (.var 19) (.lit (.int 0))) .nil)))) .nil))) (.cons (.ret (.lit (.bl false)))
    .nil) .nil)
    .nil))
def b__law_right : Sts :=
    (.cons (.set 1 (.call f__law_tree_store (.cons (.var 0) (.cons (.lit (.int 12)) .nil))))
    (.cons (.loop (.name 2) (.rng1 (.lit (.int 5))) L3__law_right)
    (.cons (.loop (.name 3) (.val (.tup (.cons (.lit (.str [97])) (.cons (.lit (.str [98])) (.cons (.lit (.str [99])) .nil))))) L2__law_right)
    (.cons (.set 4 (.call f__law_quotas (.cons (.var 0) (.cons (.var 1) .nil))))
    (.cons (.set 5 (.blt .tuple (.cons (.comp [14, 16] (.tup2 (.name 14) (.name 16)) (.val (.var 4)) (.some (.cmp .gt (.call f__law_weight (.cons (.var 1) (.cons (.var 14) .nil))) (.var 16))) (.tup (.cons (.var 14) (.cons (.bin .sub (.call f__law_weight (.cons (.var 1) (.cons (.var 14) .nil))) (.var 16)) .nil)))) .nil)))
    (.cons (.ite (.or (.cons (.cmp .isnot (.call f_are_quotas (.cons (.var 4) .nil)) (.lit (.bl true))) (.cons (.cmp .ne (.blt .repr (.cons (.call f_over (.cons (.var 1) (.cons (.var 4) .nil))) .nil)) (.blt .repr (.cons (.var 5) .nil))) .nil))) (.cons (.ret (.lit (.bl false)))
    .nil) .nil)
    (.cons (.loop (.name 6) (.rng1 (.lit (.int 4))) L1__law_right)
    (.cons (.set 7 (.tup (.cons (.tup (.cons (.lit (.str [97])) (.cons (.tup .nil) .nil))) (.cons (.lit (.int 5)) .nil))))
    (.cons (.set 8 (.lst (.cons (.lit .non) (.cons (.lst (.cons (.var 7) .nil)) (.cons (.var 7) (.cons (.tup (.cons (.var 7) (.cons (.var 7) .nil))) (.cons (.tup (.cons (.tup (.cons (.tup (.cons (.lit (.str [97])) (.cons (.tup (.cons (.lit (.str [49, 48])) .nil)) .nil))) (.cons (.lit (.int 1)) .nil))) (.cons (.tup (.cons (.tup (.cons (.lit (.str [97])) (.cons (.tup (.cons (.lit (.str [57])) .nil)) .nil))) (.cons (.lit (.int 1)) .nil))) .nil))) (.cons (.tup (.cons (.tup (.cons (.tup (.cons (.lit (.str [98])) (.cons (.tup .nil) .nil))) (.cons (.lit (.int 1)) .nil))) (.cons (.var 7) .nil))) (.cons (.tup (.cons (.bin .add (.var 7) (.tup (.cons (.lit (.int 0)) .nil))) .nil)) (.cons (.tup (.cons (.slc (.var 7) .none (.some (.lit (.int 1)))) .nil)) .nil))))))))))
    (.cons (.set 8 (.bin .add (.var 8) (.lst (.cons (.tup (.cons (.tup (.cons (.lit .non) (.cons (.lit (.int 5)) .nil))) .nil)) (.cons (.tup (.cons (.tup (.cons (.tup (.cons (.lit (.str [97])) (.cons (.tup (.cons (.lit (.str [])) .nil)) .nil))) (.cons (.lit (.int 5)) .nil))) .nil)) (.cons (.tup (.cons (.tup (.cons (.idx (.var 7) (.lit (.int 0))) (.cons (.neg (.lit (.int 1))) .nil))) .nil)) (.cons (.tup (.cons (.tup (.cons (.idx (.var 7) (.lit (.int 0))) (.cons (.lit (.int 200001)) .nil))) .nil)) .nil)))))))
    (.cons (.set 8 (.bin .add (.var 8) (.lst (.cons (.tup (.cons (.tup (.cons (.idx (.var 7) (.lit (.int 0))) (.cons (.lit (.bl true)) .nil))) .nil)) (.cons (.tup (.cons (.tup (.cons (.idx (.var 7) (.lit (.int 0))) (.cons (.lit (.str [53])) .nil))) .nil)) (.cons (.tup (.cons (.tup (.cons (.idx (.var 7) (.lit (.int 0))) (.cons (.lit .non) .nil))) .nil)) (.cons (.blt .tuple (.cons (.comp [20] (.name 20) (.rng1 (.lit (.int 11))) .none (.tup (.cons (.tup (.cons (.lit (.str [97])) (.cons (.tup (.cons (.blt .str (.cons (.var 20) .nil)) .nil)) .nil))) (.cons (.lit (.int 5)) .nil)))) .nil)) .nil)))))))
    (.cons (.ret (.and (.cons (.cmp .eq (.comp [18] (.name 18) (.val (.var 8)) (.some (.cmp .isnot (.call f_are_quotas (.cons (.var 18) .nil)) (.lit (.bl false)))) (.var 18)) (.lst .nil)) (.cons (.cmp .is (.call f_are_quotas (.cons (.blt .tuple (.cons (.comp [20] (.name 20) (.rng1 (.lit (.int 10))) .none (.tup (.cons (.tup (.cons (.lit (.str [97])) (.cons (.tup (.cons (.blt .str (.cons (.var 20) .nil)) .nil)) .nil))) (.cons (.lit (.int 0)) .nil)))) .nil)) .nil)) (.lit (.bl true))) .nil))))
    .nil))))))))))))
def d__law_right : Df := ⟨"_law_right", 1, ["cup", "store", "deep", "name", "quotas", "rows", "turn", "one", "odds", "way", "half", "left", "later", "good", "node", "text", "most", "own", "odd", "pair", "at", "more"], b__law_right⟩
/- 57 _law_written_right -/
def b__law_written_right : Sts :=
    (.cons (.tset (.tup2 (.name 7) (.name 8)) (.tup (.cons (.bin .add (.lit (.int 2)) (.call f__law_roll (.cons (.var 0) (.cons (.lit (.int 8)) .nil)))) (.cons (.call f__law_roll (.cons (.var 0) (.cons (.lit (.int 99)) .nil))) .nil))))
    (.cons (.set 1 (.blt .tuple (.cons (.comp [9] (.name 9) (.rng1 (.var 7)) .none (.tup (.cons (.tup (.cons (.lit (.str [97])) (.cons (.tup (.cons (.blt .str (.cons (.var 9) .nil)) (.cons (.lit (.str [120])) .nil))) .nil))) (.cons (.bin .mul (.lit (.str [116])) (.var 8)) .nil)))) .nil)))
    (.cons (.set 2 (.bin .add (.bin .add (.lit (.int 2)) (.lit (.int 8))) (.var 8)))
    (.cons (.set 3 (.tup (.cons (.call f_weight (.cons (.var 1) (.cons (.tup (.cons (.lit (.str [97])) (.cons (.tup .nil) .nil))) .nil))) (.cons (.call f_heaviest_way (.cons (.var 1) (.cons (.lit (.str [97])) .nil))) (.cons (.call f_middle_node (.cons (.var 1) (.cons (.lit (.str [97])) .nil))) (.cons (.call f_weight (.cons (.var 1) (.cons (.tup (.cons (.lit (.str [97])) (.cons (.tup (.cons (.lit (.str [48])) .nil)) .nil))) .nil))) (.cons (.call f_weights_at (.cons (.var 1) (.cons (.lit (.int 3)) .nil))) .nil)))))))
    (.cons (.set 4 (.tup (.cons (.tup (.cons (.lit (.str [97])) (.cons (.tup .nil) .nil))) (.cons (.tup (.cons (.lit (.str [97])) (.cons (.tup (.cons (.lit (.str [48])) .nil)) .nil))) (.cons (.tup (.cons (.lit (.str [97])) (.cons (.tup (.cons (.lit (.str [48])) (.cons (.lit (.str [120])) .nil))) .nil))) .nil)))))
    (.cons (.ite (.cmp .ne (.blt .repr (.cons (.var 3) .nil)) (.blt .repr (.cons (.tup (.cons (.bin .mul (.var 7) (.var 2)) (.cons (.var 4) (.cons (.ite (.cmp .eq (.var 7) (.lit (.int 2))) (.idx (.var 4) (.lit (.int 2))) (.idx (.var 4) (.lit (.int 0)))) (.cons (.var 2) (.cons (.tup .nil) .nil)))))) .nil))) (.cons (.ret (.lit (.bl false)))
    .nil) .nil)
    (.cons (.set 1 (.tup (.cons (.tup (.cons (.tup (.cons (.lit (.str [97])) (.cons (.tup .nil) .nil))) (.cons (.bin .mul (.lit (.str [116])) (.var 8)) .nil))) (.cons (.tup (.cons (.tup (.cons (.lit (.str [97])) (.cons (.tup (.cons (.lit (.str [49])) .nil)) .nil))) (.cons (.bin .mul (.lit (.str [116])) (.bin .add (.var 8) (.lit (.int 3)))) .nil))) .nil))))
    (.cons (.set 5 (.tup (.cons (.tup (.cons (.tup (.cons (.lit (.str [97])) (.cons (.tup .nil) .nil))) (.cons (.bin .add (.bin .mul (.lit (.int 2)) (.var 8)) (.lit (.int 14))) .nil))) (.cons (.tup (.cons (.tup (.cons (.lit (.str [97])) (.cons (.tup (.cons (.lit (.str [49])) .nil)) .nil))) (.cons (.bin .add (.var 8) (.lit (.int 9))) .nil))) .nil))))
    (.cons (.set 6 (.blt .tuple (.cons (.comp [10, 11] (.tup2 (.name 10) (.name 11)) (.val (.tup (.cons (.tup (.cons (.tup (.cons (.lit (.str [97])) (.cons (.tup .nil) .nil))) (.cons (.bin .mul (.lit (.str [116])) (.var 8)) .nil))) (.cons (.tup (.cons (.tup (.cons (.lit (.str [97])) (.cons (.tup .nil) .nil))) (.cons (.bin .mul (.lit (.str [116])) (.bin .add (.var 8) (.lit (.int 1)))) .nil))) (.cons (.tup (.cons (.tup (.cons (.lit (.str [98])) (.cons (.tup .nil) .nil))) (.cons (.lit (.str [120])) .nil))) .nil))))) .none (.call f_can_put (.cons (.var 1) (.cons (.var 5) (.cons (.var 10) (.cons (.var 11) .nil)))))) .nil)))
    (.cons (.set 3 (.bin .add (.tup (.cons (.call f_middle_node (.cons (.var 1) (.cons (.lit (.str [97])) .nil))) (.cons (.call f_over (.cons (.var 1) (.cons (.var 5) .nil))) (.cons (.call f_room (.cons (.var 1) (.cons (.var 5) (.cons (.tup (.cons (.lit (.str [97])) (.cons (.tup (.cons (.lit (.str [50])) .nil)) .nil))) .nil)))) .nil)))) (.var 6)))
    (.cons (.ret (.cmp .eq (.blt .repr (.cons (.var 3) .nil)) (.blt .repr (.cons (.tup (.cons (.tup (.cons (.lit (.str [97])) (.cons (.tup (.cons (.lit (.str [49])) .nil)) .nil))) (.cons (.tup (.cons (.tup (.cons (.tup (.cons (.lit (.str [97])) (.cons (.tup (.cons (.lit (.str [49])) .nil)) .nil))) (.cons (.lit (.int 1)) .nil))) .nil)) (.cons (.lit (.int 0)) (.cons (.lit (.bl true)) (.cons (.lit (.bl false)) (.cons (.lit (.bl true)) .nil))))))) .nil))))
    .nil)))))))))))
def d__law_written_right : Df := ⟨"_law_written_right", 1, ["cup", "store", "one", "told", "due", "quotas", "puts", "many", "size", "at", "node", "text"], b__law_written_right⟩
/- 58 law -/
def L1_law : Sts :=
    (.cons (.ite (.not (.call f__law_right (.cons (.var 1) .nil))) (.cons (.ret (.lit (.bl false)))
    .nil) .nil)
    .nil)
def b_law : Sts :=
    (.cons (.set 1 (.call f__law_cup (.cons (.var 0) .nil)))
    (.cons (.loop (.name 2) (.rng1 (.lit (.int 5))) L1_law)
    (.cons (.ret (.call f__law_written_right (.cons (.var 1) .nil)))
    .nil)))
def d_law : Df := ⟨"law", 1, ["script", "cup", "turn"], b_law⟩
def D : List Df := ([d_is_whole, d_is_tuple_of, d_is_sign, d_fits_text, d_amount_in, d_is_canonic_text, d_rank, d_need_text, d_is_name, d_fits_subscripts, d_fits_node, d_node_rank, d_is_within, d_need_node, d_codes_of, d_subscript_key, d_key_in, d_fits_store, d_put, d_need_store, d_need_both, d_weight_of, d_weight_in, d_heads_in, d_children_of] : List Df) ++ ([d_way_in, d_fits_quotas, d_need_quotas, d_over_in, d_room_in, d_weight, d_weights_at, d_heaviest_way, d_middle_node, d_are_quotas, d_over, d_room, d_can_put, d__law_cup, d__law_roll, d__law_some, d__law_number, d__law_is_canonic, d__law_place, d__law_node_place, d__law_sorted, d__law_set, d__law_below, d__law_subscript_key, d__law_key] : List Df) ++ ([d__law_tree_node, d__law_tree_store, d__law_weight, d__law_heads, d__law_quotas, d__law_way, d__law_right, d__law_written_right, d_law] : List Df)
def lawN : Nat := 58
end PL
set_option autoImplicit false
set_option linter.all false
namespace PL
open PySem
local macro_rules | `(thq $r $f) => `(@thx _ _ $r ⟨$f⟩)
def isWhole (v : PV) (lo hi : Int) : Bool := match v with
  | .int i => decide (lo ≤ i) && decide (i ≤ hi)
  | _ => false
@[simp] theorem is_whole_ok (n : Nat) (h : Hv) (v : PV) (lo hi : Int) (hv : v.pure = true) : run D WW (n + 1) f_is_whole [v, .int lo, .int hi] h = .ok (.bl (isWhole v lo hi), h) := by
  rw [run_eq d_is_whole rfl rfl]
  cases v <;> simp [d_is_whole, b_is_whole, isWhole] at *
def tupLen (v : PV) (lo hi : Int) : Bool := match v with
  | .tup xs => decide (lo ≤ xs.length) && decide ((xs.length : Int) ≤ hi)
  | _ => false
@[simp] theorem is_tuple_of_ok (n : Nat) (h : Hv) (v : PV) (lo hi : Int) (hv : v.pure = true) : run D WW (n + 1) f_is_tuple_of [v, .int lo, .int hi] h = .ok (.bl (tupLen v lo hi), h) := by
  rw [run_eq d_is_tuple_of rfl rfl]
  cases v <;> simp [d_is_tuple_of, b_is_tuple_of, tupLen] at *
def okSign (c : Nat) : Bool := decide (c = 10) || (decide (32 ≤ c) && decide (c ≤ 126) && !decide (c = 37))
@[simp] theorem is_sign_ok (n : Nat) (h : Hv) (c : Nat) : run D WW (n + 1) f_is_sign [.str [c]] h = .ok (.bl (okSign c), h) := by
  rw [run_eq d_is_sign rfl rfl]
  simp [d_is_sign, b_is_sign, okSign]
def fitsText (v : PV) : Bool := match v with
  | .str x => decide (x.length ≤ 255) && x.all okSign
  | _ => false
@[simp] theorem fits_text_ok (n : Nat) (h : Hv) (v : PV) (hv : v.pure = true) : run D WW (n + 2) f_fits_text [v] h = .ok (.bl (fitsText v), h) := by
  rw [run_eq d_fits_text rfl rfl]
  cases v <;> simp [d_fits_text, b_fits_text, fitsText] at *
  rename_i x
  by_cases hx : x.length ≤ 255
  · have : x.length ≤ line := le_line (by omega)
    simp [hx, this]
  · simp [hx]
/-! ### numbers of texts -/
def isSg (c : Nat) : Bool := decide (c = 43) || decide (c = 45)
def turns (b : Bool) (x : List Nat) : Bool := x.foldl (fun b c => if c = 45 then !b else b) b
def sgs (t : List Nat) : List Nat := t.takeWhile isSg
def digs (t : List Nat) : List Nat := (t.dropWhile isSg).takeWhile isDig
def amount (t : List Nat) : Int := if turns false (sgs t) then -digVal (digs t) else digVal (digs t)
theorem get_mid {pre rest : List Nat} {c : Nat} : (pre ++ c :: rest)[pre.length]? = some c := by simp
theorem amount_loop2 (n : Nat) (h : Hv) {a b : Option PV} (ha : envP [a, b] = true) : ∀ (rest pre : List Nat) (w : Nat) (tn : Bool), rest.length < w →
    whlC (evE (run D WW n) C2_amount_in) (evSs (run D WW n) WW L2_amount_in) w
      [some (.str (pre ++ rest)), a, b, some (.int pre.length), some (.bl tn)] h = .ok (.next [some (.str (pre ++ rest)), a, b, some (.int (pre.length + (rest.takeWhile isSg).length : Nat)), some (.bl (turns tn (rest.takeWhile isSg)))], h)
  | _, _, 0, _, hw => absurd hw (Nat.not_lt_zero _)
  | [], pre, w + 1, tn, hw => by
    rw [whlC_end (h1 := h)]
    · cases a <;> cases b <;> simp_all [turns]
    · simp [C2_amount_in]
  | c :: rest, pre, w + 1, tn, hw => by
    have i1 := idx_str (h := h) (xs := pre ++ c :: rest) (k := pre.length) get_mid
    have lt : (pre.length : Int) < pre.length + (rest.length + 1) := by omega
    by_cases hc : isSg c = true
    · have ih := amount_loop2 n h ha rest (pre ++ [c]) w (turns tn [c]) (by simpa using hw)
      have hc' : c = 43 ∨ c = 45 := by simpa [isSg] using hc
      rw [whlC_next (h1 := h) (h2 := h) (e2 := [some (.str (pre ++ c :: rest)), a, b, some (.int (pre ++ [c]).length), some (.bl (turns tn [c]))])]
      · rw [gcE_same', List.append_cons, ih]
        · simp [hc, turns]; omega
        · cases a <;> cases b <;> simp_all
      · simp [C2_amount_in, i1, lt, hc']
      · simp [L2_amount_in, i1, turns]
    · rw [whlC_end (h1 := h)]
      · cases a <;> cases b <;> simp_all [turns]
      · simp [C2_amount_in, i1, lt]
        simpa [isSg] using hc
theorem isDig_mem (c : Nat) : (c = 48 ∨ c = 49 ∨ c = 50 ∨ c = 51 ∨ c = 52 ∨ c = 53 ∨ c = 54 ∨ c = 55 ∨ c = 56 ∨ c = 57) ↔ isDig c = true := by
  simp [isDig]; omega
theorem amount_loop1 (n : Nat) (h : Hv) {a b d : Option PV} (ha : envP [a, b, d] = true) : ∀ (rest pre : List Nat) (w : Nat), rest.length < w →
    whlC (evE (run D WW n) C1_amount_in) (evSs (run D WW n) WW L1_amount_in) w
      [some (.str (pre ++ rest)), a, b, some (.int pre.length), d] h = .ok (.next [some (.str (pre ++ rest)), a, b, some (.int (pre.length + (rest.takeWhile isDig).length : Nat)), d], h)
  | _, _, 0, hw => absurd hw (Nat.not_lt_zero _)
  | [], pre, w + 1, hw => by
    rw [whlC_end (h1 := h)]
    · cases a <;> cases b <;> cases d <;> simp_all [turns]
    · simp [C1_amount_in]
  | c :: rest, pre, w + 1, hw => by
    have i1 := idx_str (h := h) (xs := pre ++ c :: rest) (k := pre.length) get_mid
    have lt : (pre.length : Int) < pre.length + (rest.length + 1) := by omega
    by_cases hc : isDig c = true
    · have ih := amount_loop1 n h ha rest (pre ++ [c]) w (by simpa using hw)
      rw [whlC_next (h1 := h) (h2 := h) (e2 := [some (.str (pre ++ c :: rest)), a, b, some (.int (pre ++ [c]).length), d])]
      · rw [gcE_same', List.append_cons, ih]
        · simp [hc]; omega
        · cases a <;> cases b <;> cases d <;> simp_all
      · simp [C1_amount_in, i1, lt, isDig_mem, hc]
      · simp [L1_amount_in, i1]
    · rw [whlC_end (h1 := h)]
      · cases a <;> cases b <;> cases d <;> simp_all [turns]
      · simp [C1_amount_in, i1, lt, isDig_mem, hc]
theorem amount_in_ok (n : Nat) (h : Hv) (x : List Nat) (hx : x.length ≤ 600) : run D WW (n + 1) f_amount_in [.str x] h = .ok (.int (amount x), h) := by
  rw [run_eq d_amount_in rfl rfl]
  have w1 := ww_big
  have l2 := amount_loop2 n h (a := none) (b := none) (by simp) x [] WW false (by omega)
  have e1 : x = x.takeWhile isSg ++ x.dropWhile isSg := (List.takeWhile_append_dropWhile ..).symm
  have ln : (x.dropWhile isSg).length ≤ x.length := (List.dropWhile_sublist _).length_le
  have ld : (digs x).length ≤ (x.dropWhile isSg).length := (List.takeWhile_sublist _).length_le
  have l1 := amount_loop1 n h (a := some (.int (sgs x).length)) (b := none) (d := some (.bl (turns false (sgs x)))) (by simp) (x.dropWhile isSg) (x.takeWhile isSg) WW (by omega)
  rw [← e1] at l1
  have e5 : ∃ z, x.dropWhile isSg = (x.dropWhile isSg).takeWhile isDig ++ z := ⟨_, (List.takeWhile_append_dropWhile ..).symm⟩
  have ct : cutL x (some ((sgs x).length : Int)) (some (((sgs x).length : Int) + (digs x).length)) = digs x := by
    unfold cutL sgs digs
    rw [← Int.natCast_add]
    simp only [sx_nat]
    have q : (x.takeWhile isSg).length + ((x.dropWhile isSg).takeWhile isDig).length ≤ x.length := by
      have := congrArg List.length e1
      rw [List.length_append] at this
      have : (digs x).length = ((x.dropWhile isSg).takeWhile isDig).length := rfl
      omega
    rw [Nat.min_eq_left q, Nat.min_eq_left (by omega), Nat.add_sub_cancel_left]
    have e6 : x.drop (x.takeWhile isSg).length = x.dropWhile isSg := by
      conv => lhs; rw [e1]; arg 1; rw [← e1]
      rw [List.drop_left]
    rw [e6]
    obtain ⟨z, hz⟩ := e5
    generalize (x.dropWhile isSg).takeWhile isDig = dd at *
    rw [hz, List.take_left]
  have ad : (digs x).all isDig = true := by
    unfold digs
    exact List.all_takeWhile
  have e2 : x.takeWhile isSg = sgs x := rfl
  have e3 : (x.dropWhile isSg).takeWhile isDig = digs x := rfl
  simp [d_amount_in, b_amount_in, e2, e3] at *
  simp [l2, l1, ct]
  by_cases hd : digs x = []
  · simp [hd, amount, digVal]
  · have hp : 0 < (digs x).length := List.length_pos_iff.mpr hd
    have i1 : ((sgs x).length : Int) < (sgs x).length + (digs x).length := by omega
    have i2 : (digs x).length ≤ 640 := by omega
    simp [i1, i2, hp, amount]
    rw [if_pos ad]
    split <;> rfl
def canon (t : List Nat) : Bool := decide (-999999999999999999 ≤ amount t) && decide (amount t ≤ 999999999999999999) && decide (numText (amount t) = t)
theorem log_small {i : Int} (h1 : -999999999999999999 ≤ i) (h2 : i ≤ 999999999999999999) : i.natAbs.log2 < 1920 := by
  have h : i.natAbs < 2 ^ 60 := by omega
  by_cases z : i.natAbs = 0
  · rw [z]; decide
  · have := (Nat.log2_lt z).mpr h
    omega
@[simp] theorem is_canonic_text_ok (n : Nat) (h : Hv) (x : List Nat) (hx : x.length ≤ 600) : run D WW (n + 2) f_is_canonic_text [.str x] h = .ok (.bl (canon x), h) := by
  rw [run_eq d_is_canonic_text rfl rfl]
  simp [d_is_canonic_text, b_is_canonic_text, amount_in_ok, hx, canon]
  by_cases h1 : -999999999999999999 ≤ amount x
  · by_cases h2 : amount x ≤ 999999999999999999
    · have := log_small h1 h2
      simp [h1, h2, this]
    · simp [h1, h2]
  · simp [h1]
/-- what orders a text -/
def rk (t : List Nat) : PV := if t = [] then .tup [.int 0, .int 0, .str []] else if canon t then .tup [.int 1, .int (amount t), .str []] else .tup [.int 2, .int 0, .str t]
@[simp] theorem rank_ok (n : Nat) (h : Hv) (x : List Nat) (hx : x.length ≤ 600) : run D WW (n + 3) f_rank [.str x] h = .ok (rk x, h) := by
  rw [run_eq d_rank rfl rfl]
  by_cases h1 : x = []
  · simp [d_rank, b_rank, h1, rk]
  · by_cases h2 : canon x <;> simp [d_rank, b_rank, amount_in_ok, hx, h1, h2, rk]
@[simp] theorem need_text_ok (n : Nat) (h : Hv) (v : PV) (hv : v.pure = true) (hf : fitsText v = true) : run D WW (n + 3) f_need_text [v] h = .ok (.non, h) := by
  rw [run_eq d_need_text rfl rfl]
  simp [d_need_text, b_need_text, hv, hf]
end PL
set_option autoImplicit false
set_option linter.all false
namespace PL
open PySem
local macro_rules | `(thq $r $f) => `(@thx _ _ $r ⟨$f⟩)
def letters : List Nat := [65, 66, 67, 68, 69, 70, 71, 72, 73, 74, 75, 76, 77, 78, 79, 80, 81, 82, 83, 84, 85, 86, 87, 88, 89, 90, 97, 98, 99, 100, 101, 102, 103, 104, 105, 106, 107, 108, 109, 110, 111, 112, 113, 114, 115, 116, 117, 118, 119, 120, 121, 122]
def isLet (c : Nat) : Bool := letters.contains c
def isFig (c : Nat) : Bool := [48, 49, 50, 51, 52, 53, 54, 55, 56, 57].contains c
@[simp high] theorem in_let (c : Nat) (h : Hv) : evIn (.str [c]) (.str [65, 66, 67, 68, 69, 70, 71, 72, 73, 74, 75, 76, 77, 78, 79, 80, 81, 82, 83, 84, 85, 86, 87, 88, 89, 90, 97, 98, 99, 100, 101, 102, 103, 104, 105, 106, 107, 108, 109, 110, 111, 112, 113, 114, 115, 116, 117, 118, 119, 120, 121, 122]) h = some (isLet c) := by
  rw [in_s]; rfl
@[simp high] theorem in_fig (c : Nat) (h : Hv) : evIn (.str [c]) (.str [48, 49, 50, 51, 52, 53, 54, 55, 56, 57]) h = some (isFig c) := by
  rw [in_s]; rfl
def fitsName (v : PV) : Bool := match v with
  | .str x => decide (1 ≤ x.length) && decide (x.length ≤ 8) && isLet (x.headD 0) && x.all fun c => isLet c || isFig c
  | _ => false
@[simp] theorem is_name_ok (n : Nat) (h : Hv) (v : PV) (hv : v.pure = true) : run D WW (n + 1) f_is_name [v] h = .ok (.bl (fitsName v), h) := by
  rw [run_eq d_is_name rfl rfl]
  cases v <;> simp [d_is_name, b_is_name, fitsName] at *
  rename_i x
  by_cases hx : 1 ≤ x.length
  · by_cases h8 : x.length ≤ 8
    · obtain ⟨c, y, e⟩ : ∃ c y, x = c :: y := by
        cases x with
        | nil => simp at hx
        | cons c y => exact ⟨c, y, rfl⟩
      have i0 : ∀ g, evIdx (.str x) (.int 0) g = .ok (.str [c], g) := fun g => by rw [e]; simp
      have hd : x.head?.getD 0 = c := by rw [e]; rfl
      have lt : ¬ 8 < x.length := by omega
      have l1 : x.length ≤ 1000000 := by omega
      have ne : x ≠ [] := by rw [e]; simp
      cases hc : isLet c <;> simp [hx, h8, i0, hd, lt, hc, l1, ne]
    · have lt : 8 < x.length := by omega
      simp [hx, h8, lt]
  · obtain rfl : x = [] := List.length_eq_zero_iff.mp (by omega)
    simp
def fitsSub (v : PV) : Bool := match v with
  | .str x => fitsText (.str x) && !decide (x = [])
  | _ => false
def slen (v : PV) : Int := match v with
  | .str x => x.length
  | _ => 0
def fitsSubs (v : PV) : Bool := match v with
  | .tup xs => decide (xs.length ≤ 7) && xs.all fitsSub && decide ((xs.map slen).sum ≤ 100)
  | _ => false
theorem strs_of {xs : List PV} (h : ∀ x ∈ xs, fitsSub x = true) : ∃ ys : List (List Nat), xs = ys.map .str := by
  induction xs with
  | nil => exact ⟨[], rfl⟩
  | cons x xs ih =>
    obtain ⟨ys, hy⟩ := ih fun y hy => h y (List.mem_cons_of_mem _ hy)
    have := h x List.mem_cons_self
    cases x <;> first | (simp [fitsSub] at this; done) | skip
    rename_i s
    exact ⟨s :: ys, by rw [hy]; rfl⟩
theorem sub_el (x : PV) (g : Hv) : (if fitsText x = true then retB (Option.map (fun z => !z) (eqP g x (.str []))) g else .ok (.bl false, g)) = .ok (.bl (fitsSub x), g) := by
  cases x <;> simp [fitsSub, fitsText]
  rename_i s
  rw [Bool.eq_iff_iff]; simp
@[simp] theorem fits_subscripts_ok (n : Nat) (h : Hv) (v : PV) (hv : v.pure = true) : run D WW (n + 3) f_fits_subscripts [v] h = .ok (.bl (fitsSubs v), h) := by
  rw [run_eq d_fits_subscripts rfl rfl]
  cases v <;> simp [d_fits_subscripts, b_fits_subscripts, fitsSubs, tupLen] at *
  rename_i xs
  obtain ⟨ys, rfl⟩ := pures_lift hv
  by_cases h7 : ys.length ≤ 7
  · have l1 : ys.length ≤ 1000000 := by omega
    by_cases ha : ∀ x ∈ ys.map PureV.v, fitsSub x = true
    · obtain ⟨zs, e⟩ := strs_of ha
      rw [e]
      have l2 : zs.length = ys.length := by have := congrArg List.length e; simpa using this.symm
      rw [← l2] at h7 l1
      simp [tupLen, h7, sub_el, l1]
      rw [Bool.eq_iff_iff]; simp [fitsSub, slen, Function.comp_def]
      exact fun _ => decide_eq_true_iff.symm
    · have hb : ∃ x, x ∈ ys ∧ fitsSub x.v = false := by simpa using ha
      have hc : ys.all (fitsSub ∘ PureV.v) = false := by
        rw [List.all_eq_false]
        obtain ⟨x, h1, h2⟩ := hb
        exact ⟨x, h1, by simp [h2]⟩
      simp [tupLen, h7, sub_el, l1, hb, hc]
  · simp [tupLen, h7]
def fitsNode (v : PV) : Bool := match v with
  | .tup [a, b] => fitsName a && fitsSubs b
  | _ => false
@[simp] theorem fits_node_ok (n : Nat) (h : Hv) (v : PV) (hv : v.pure = true) : run D WW (n + 4) f_fits_node [v] h = .ok (.bl (fitsNode v), h) := by
  rw [run_eq d_fits_node rfl rfl]
  cases v <;> simp [d_fits_node, b_fits_node, fitsNode, tupLen] at *
  rename_i xs
  match xs, hv with
  | [], _ => simp [tupLen]
  | [a], hv => simp at hv; simp [tupLen, hv]
  | [a, b], hv =>
    simp at hv
    simp [tupLen, hv]
  | a :: b :: c :: xs, hv =>
    have l : ¬ ((xs.length : Int) + 1 + 1 + 1 ≤ 2) := by omega
    simp [tupLen, hv, l]
@[simp] theorem need_node_ok (n : Nat) (h : Hv) (v : PV) (hv : v.pure = true) (hf : fitsNode v = true) : run D WW (n + 5) f_need_node [v] h = .ok (.non, h) := by
  rw [run_eq d_need_node rfl rfl]
  simp [d_need_node, b_need_node, hv, hf]
/-! ### texts and nodes -/
structure Txt where
  s : List Nat
  ok : fitsText (.str s) = true
  deriving DecidableEq
theorem Txt.len (t : Txt) : t.s.length ≤ 255 := by
  have := t.ok
  simp [fitsText] at this
  exact this.1
@[simp] theorem Txt.len1 (t : Txt) : t.s.length ≤ 600 := Nat.le_trans t.len (by decide)
@[simp] theorem Txt.len2 (t : Txt) : t.s.length ≤ 1000000 := Nat.le_trans t.len (by decide)
@[simp] theorem Txt.fits (t : Txt) : fitsText (.str t.s) = true := t.ok
theorem Txt.inj {a b : Txt} : a.s = b.s ↔ a = b := ⟨fun h => by cases a; cases b; cases h; rfl, fun h => by rw [h]⟩
def eT (t : Txt) : PV := .str t.s
structure Node where
  nm : List Nat
  subs : List Txt
  ok : fitsNode (.tup [.str nm, .tup (subs.map eT)]) = true
  deriving DecidableEq
def eN (n : Node) : PV := .tup [.str n.nm, .tup (n.subs.map eT)]
@[simp] theorem eT_pure (t : Txt) : (eT t).pure = true := by simp [eT]
@[simp] theorem eN_pure (t : Node) : (eN t).pure = true := by simp [eN]
@[simp] theorem eN_fits (t : Node) : fitsNode (eN t) = true := t.ok
theorem eT_def (t : Txt) : eT t = .str t.s := rfl
@[simp] theorem eT_eqv (a b : Txt) : eqv (eT a) (eT b) = decide (a = b) := by simp [eT, Txt.inj]
@[simp] theorem eTs_eqv (a b : List Txt) : eqvs (a.map eT) (b.map eT) = decide (a = b) := eqvs_map eT_eqv a b
theorem Node.inj {a b : Node} : (a.nm = b.nm ∧ a.subs = b.subs) ↔ a = b := ⟨fun h => by cases a; cases b; cases h.1; cases h.2; rfl, fun h => by rw [h]; exact ⟨rfl, rfl⟩⟩
@[simp] theorem eN_eqv (a b : Node) : eqv (eN a) (eN b) = decide (a = b) := by
  simp only [eN, eqv_tt, eqvs_cc, eqv_ss, eTs_eqv, eqvs_nil, Bool.and_true]
  rw [← Bool.decide_and, decide_eq_decide]
  exact Node.inj
theorem eT_depth (t : Txt) : depth (eT t) ≤ 0 := by simp [eT]
@[simp] theorem eN_depth (t : Node) : depth (eN t) ≤ 2 := by
  have := depths_map (e := eT) (xs := t.subs) fun x _ => eT_depth x
  simp [eN]; omega
@[simp] theorem eN_fit (t : Node) : PV.fit (eN t) = true := fit_of (eN_pure t) (Nat.le_trans (eN_depth t) (by decide))
@[simp] theorem eN_eq (h : Hv) (a b : Node) : eqP h (eN a) (eN b) = some (decide (a = b)) := by
  have := eqP_tt h _ _ (eN_fit a) (eN_fit b)
  rw [← eqv_tt] at this
  exact this.trans (congrArg some (eN_eqv a b))
@[simp] theorem eTs_fit (t : List Txt) : PV.fit (.tup (t.map eT)) = true := by
  have := depths_map (e := eT) (xs := t) fun x _ => eT_depth x
  refine fit_of (by simp) ?_
  simp; omega
@[simp] theorem eTs_eq (h : Hv) (a b : List Txt) : eqP h (.tup (a.map eT)) (.tup (b.map eT)) = some (decide (a = b)) := by
  rw [eqP_tt h _ _ (eTs_fit a) (eTs_fit b), eTs_eqv]
@[simp] theorem eTs_eq' (h : Hv) (k : Nat) (a b : List Txt) : eqP h (.tup (List.take k (a.map eT))) (.tup (b.map eT)) = some (decide (a.take k = b)) := by
  rw [← List.map_take, eTs_eq]
@[simp] theorem eN_0 (h : Hv) (a : Node) : evIdx (eN a) (.int 0) h = .ok (.str a.nm, h) := by simp [eN]
@[simp] theorem eN_1 (h : Hv) (a : Node) : evIdx (eN a) (.int 1) h = .ok (.tup (a.subs.map eT), h) := by simp [eN]
theorem Node.ok' (a : Node) : fitsName (.str a.nm) = true ∧ a.subs.length ≤ 7 := by
  have := a.ok
  simp [fitsNode, fitsSubs] at this
  exact ⟨this.1, this.2.1.1⟩
@[simp] theorem Node.nmf (a : Node) : fitsName (.str a.nm) = true := a.ok'.1
@[simp] theorem Node.len (a : Node) : a.subs.length ≤ 1000000 := Nat.le_trans a.ok'.2 (by decide)
theorem Node.nml (a : Node) : a.nm.length ≤ 8 := by
  have := a.ok'.1
  simp [fitsName] at this
  exact this.1.1.2
@[simp] theorem Node.nml2 (a : Node) : a.nm.length ≤ 1000000 := Nat.le_trans a.nml (by decide)
@[simp] theorem rank_t (n : Nat) (h : Hv) (x : Txt) : run D WW (n + 3) f_rank [eT x] h = .ok (rk x.s, h) := rank_ok n h x.s x.len1
@[simp] theorem rk_pure (x : List Nat) : (rk x).pure = true := by unfold rk; split <;> (try split) <;> simp
/-- what orders a node -/
def nrk (a : Node) : PV := .tup [.str a.nm, .tup (a.subs.map fun x => rk x.s)]
@[simp] theorem nrk_pure (a : Node) : (nrk a).pure = true := by simp [nrk]
@[simp] theorem node_rank_ok (n : Nat) (h : Hv) (a : Node) : run D WW (n + 4) f_node_rank [eN a] h = .ok (nrk a, h) := by
  rw [run_eq d_node_rank rfl rfl]
  simp [d_node_rank, b_node_rank, nrk]
def within (a b : Node) : Bool := decide (a.nm = b.nm) && decide (a.subs.take b.subs.length = b.subs)
@[simp] theorem is_within_ok (n : Nat) (h : Hv) (a b : Node) : run D WW (n + 1) f_is_within [eN a, eN b] h = .ok (.bl (within a b), h) := by
  rw [run_eq d_is_within rfl rfl]
  simp [d_is_within, b_is_within, within]
end PL
set_option autoImplicit false
set_option linter.all false
namespace PL
open PySem
local macro_rules | `(thq $r $f) => `(@thx _ _ $r ⟨$f⟩)
/-- the codes of a text -/
def codes (x : List Nat) : List Int := x.map fun (c : Nat) => (c : Int)
def lstI (xs : List Int) : PL.PO := .lst (xs.map .int)
@[simp] theorem lstI_def (xs : List Int) : lstI xs = .lst (xs.map .int) := rfl
@[simp] theorem codes_of_ok (n : Nat) (h : Hv) (x : List Nat) (hx : x.length ≤ 1000000) : run D WW (n + 1) f_codes_of [.str x] h = .ok (.ref h.length, h ++ [lstI (codes x)]) := by
  rw [run_eq d_codes_of rfl rfl]
  simp [d_codes_of, b_codes_of, hx, codes, Function.comp_def]
def skey (x : List Nat) : List Int := if canon x then (if x.headD 0 = 45 then [2, 255 - ((x.length : Int) - 1)] ++ ((x.drop 1).map fun (c : Nat) => 105 - (c : Int)) else [3, (x.length : Int)] ++ codes x) else [4] ++ codes x ++ [1]
theorem canon_nil : canon [] = false := by decide
theorem codes_len (x : List Nat) : (codes x).length = x.length := by simp [codes]
@[simp] theorem subscript_key_ok (n : Nat) (h : Hv) (x : Txt) : run D WW (n + 3) f_subscript_key [eT x] h = .ok (.ref h.length, h ++ [lstI (skey x.s)]) := by
  rw [run_eq d_subscript_key rfl rfl]
  have l0 := x.len
  have l1 : (codes x.s).length ≤ 1000000 := by rw [codes_len]; omega
  have l4 : 1 + (codes x.s).length ≤ 1000000 := by rw [codes_len]; omega
  have l2 : 2 + (codes x.s).length ≤ 1000000 := by rw [codes_len]; omega
  have l5 : (codes x.s).length + 1 + 1 ≤ 1000000 := by rw [codes_len]; omega
  by_cases h1 : canon x.s = true
  · obtain ⟨c, y, e⟩ : ∃ c y, x.s = c :: y := by
      cases h : x.s with
      | nil => rw [h, canon_nil] at h1; cases h1
      | cons c y => exact ⟨c, y, rfl⟩
    have i0 : ∀ g, evIdx (.str x.s) (.int 0) g = .ok (.str [c], g) := fun g => by rw [e]; simp
    have hd : x.s.head?.getD 0 = c := by rw [e]; rfl
    have e2 : x.s.tail = y := by rw [e]; rfl
    have l6 : y.length ≤ 255 := by have := l0; rw [e] at this; simp at this; omega
    have l3 : (codes y).length ≤ 1000000 := by rw [codes_len]; omega
    have l7 : 2 + (codes y).length ≤ 1000000 := by rw [codes_len]; omega
    have l8 : y.length ≤ 1000000 := by omega
    by_cases h2 : c = 45
    · simp [d_subscript_key, b_subscript_key, eT_def, h1, skey, h2, i0, hd, l1, l2, l3, l8, l7, e2]
      simp [codes]
    · simp [d_subscript_key, b_subscript_key, eT_def, h1, skey, h2, i0, hd, l1, l2]
  · simp [d_subscript_key, b_subscript_key, eT_def, h1, skey, l1, l4, l5]
/-- the key of a node -/
def nkey (a : Node) : List Int := codes a.nm ++ [1] ++ (a.subs.map fun x => skey x.s).flatten
theorem skey_len (x : Txt) : (skey x.s).length ≤ 300 := by
  have l0 := x.len
  unfold skey
  split
  · split <;> simp [codes_len] <;> omega
  · simp [codes_len]; omega
theorem key_loop (n : Nat) (h0 : Hv) (a : Node) : ∀ (xs : List Txt) (ac : List Int) (last : Option PV), envP [last] = true → ac.length + 300 * xs.length ≤ 1000000 →
    ∃ last', envP [last'] = true ∧ forC (stepF (run D WW (n + 3)) WW (.name 2) L1_key_in) (fun _ => true) (xs.map eT) [some (eN a), some (.ref h0.length), last] (h0 ++ [lstI ac]) = .ok (.next [some (eN a), some (.ref h0.length), last'], h0 ++ [lstI (ac ++ (xs.map fun x => skey x.s).flatten)]) := by
  intro xs
  induction xs with
  | nil => intro ac last hl hb; exact ⟨last, hl, by simp [forC]⟩
  | cons x xs ih =>
    intro ac last hl hb
    have lx := skey_len x
    simp at hb
    obtain ⟨last', h1, h2⟩ := ih (ac ++ skey x.s) (some (eT x)) (by simp) (by simp; omega)
    refine ⟨last', h1, ?_⟩
    have l1 : ac.length + (skey x.s).length ≤ 1000000 := by omega
    simp at h2
    have e1 : evSs (run D WW (n + 3)) WW L1_key_in [some (eN a), some (.ref h0.length), some (eT x)] (h0 ++ [lstI ac]) = .ok (.next [some (eN a), some (.ref h0.length), some (eT x)], h0 ++ [lstI (ac ++ skey x.s), lstI (skey x.s)]) := by
      simp [L1_key_in, l1]
    simp at e1
    simp [e1, h2]
@[simp] theorem key_in_ok (n : Nat) (h : Hv) (a : Node) : run D WW (n + 4) f_key_in [eN a] h = .ok (.tup ((nkey a).map .int), h) := by
  rw [run_eq d_key_in rfl rfl]
  have l1 := a.nml
  have l2 : (codes a.nm).length ≤ 1000000 := by rw [codes_len]; omega
  have l3 : (codes a.nm).length + 1 ≤ 1000000 := by rw [codes_len]; omega
  obtain ⟨last, h1, h2⟩ := key_loop n (h ++ [lstI (codes a.nm), .lst [.int 1]]) a a.subs (codes a.nm ++ [1]) none (by simp) (by
    have := a.ok'.2
    simp [codes_len]; omega)
  simp at h2
  simp [d_key_in, b_key_in, l2, l3, h2, nkey]
end PL
set_option autoImplicit false
set_option linter.all false
namespace PL
open PySem
local macro_rules | `(thq $r $f) => `(@thx _ _ $r ⟨$f⟩)
/-! ### ranks -/
theorem rk_alk (x y : List Nat) : alk (rk x) (rk y) = true := by
  unfold rk
  split <;> split <;> (try split) <;> (try split) <;> simp
theorem rk_depth (x : List Nat) : depth (rk x) ≤ 1 := by
  unfold rk
  split <;> (try split) <;> simp
@[simp] theorem nrk_alk (a b : Node) : alk (nrk a) (nrk b) = true := by
  simp [nrk, alks_map _ _ fun (x y : Txt) => rk_alk x.s y.s]
@[simp] theorem nrk_fit (a : Node) : PV.fit (nrk a) = true := by
  refine fit_of (nrk_pure a) ?_
  have := depths_map (e := fun x : Txt => rk x.s) (xs := a.subs) fun x _ => rk_depth x.s
  simp [nrk]; omega
@[simp] theorem nrk_lt (h : Hv) (a b : Node) : evCm .lt (nrk a) (nrk b) h = some (ltv (nrk a) (nrk b)) := cm_lt_t h _ _ (nrk_fit a) (nrk_fit b) (nrk_alk a b)
theorem nrk_key (a : Node) : keyOk (nrk a) = true := nrk_fit a
/-! ### stores -/
abbrev Store := List (Node × Txt)
def ePr (p : Node × Txt) : PV := .tup [eN p.1, eT p.2]
def eS (s : Store) : PV := .tup (s.map ePr)
@[simp] theorem ePr_pure (p : Node × Txt) : (ePr p).pure = true := by simp [ePr]
@[simp] theorem eS_pure (s : Store) : (eS s).pure = true := by simp [eS]
@[simp] theorem ePr_2 (p : Node × Txt) (lo hi : Int) : tupLen (ePr p) lo hi = (decide (lo ≤ 2) && decide (2 ≤ hi)) := by simp [tupLen, ePr]
@[simp] theorem ePr_0 (h : Hv) (p : Node × Txt) : evIdx (ePr p) (.int 0) h = .ok (eN p.1, h) := by simp [ePr]
@[simp] theorem ePr_1 (h : Hv) (p : Node × Txt) : evIdx (ePr p) (.int 1) h = .ok (eT p.2, h) := by simp [ePr]
@[simp] theorem ePr_bind (a b : Tg) (p : Node × Txt) (e : Env) : bind (.tup2 a b) (ePr p) e = andB (bind a (eN p.1) e) b (eT p.2) := by simp [ePr]
@[simp] theorem eT_fits (t : Txt) : fitsText (eT t) = true := t.ok
@[simp] theorem eS_src (h : Hv) (s : Store) : srcItems h (eS s) = some ⟨s.map ePr, [], none⟩ := rfl
@[simp] theorem eS_len (s : Store) (lo hi : Int) : tupLen (eS s) lo hi = (decide (lo ≤ s.length) && decide ((s.length : Int) ≤ hi)) := by simp [tupLen, eS]
def upB (s : Store) : Bool := (s.zip s.tail).all fun q => ltv (nrk q.1.1) (nrk q.2.1)
@[simp] theorem fits_store_ok (n : Nat) (h : Hv) (s : Store) (hs : s.length ≤ 300) : run D WW (n + 5) f_fits_store [eS s] h = .ok (.bl (upB s), h) := by
  rw [run_eq d_fits_store rfl rfl]
  have l1 : s.length ≤ 1000000 := by omega
  have l2 : s.length - 1 ≤ 1000000 := by omega
  simp [d_fits_store, b_fits_store, hs, l1, l2]
  rfl
@[simp] theorem need_store_ok (n : Nat) (h : Hv) (s : Store) (hs : s.length ≤ 300) (hu : upB s = true) : run D WW (n + 6) f_need_store [eS s] h = .ok (.non, h) := by
  rw [run_eq d_need_store rfl rfl]
  simp [d_need_store, b_need_store, hs, hu]
@[simp] theorem need_both_ok (n : Nat) (h : Hv) (s : Store) (a : Node) (hs : s.length ≤ 300) (hu : upB s = true) : run D WW (n + 7) f_need_both [eS s, eN a] h = .ok (.non, h) := by
  rw [run_eq d_need_both rfl rfl]
  simp [d_need_both, b_need_both, hs, hu]
def put (s : Store) (a : Node) (t : Txt) : Store := srt (fun p => nrk p.1) (s.filter (fun p => !decide (p.1 = a)) ++ [(a, t)])
@[simp] theorem fold_pr (a : Node) (t : Txt) : PV.tup [eN a, eT t] = ePr (a, t) := by simp only [ePr]
@[simp] theorem sort_store (h : Hv) (s : Store) (a : Node) (t : Txt) (hs : s.length ≤ 900000) : sortBy (s.map ePr ++ [ePr (a, t)]) (s.map (fun x => nrk x.1) ++ [nrk a]) h = .ok (.ref h.length, h ++ [.lst ((srt (fun p => nrk p.1) (s ++ [(a, t)])).map ePr)]) := by
  have := sortBy_map (fun p : Node × Txt => nrk p.1) ePr (s ++ [(a, t)]) h (keysOk_of _ _ (fun a => nrk_key a.1) fun a b => nrk_alk a.1 b.1) (le_line (by simp; omega))
  simpa using this
@[simp] theorem put_ok (n : Nat) (h : Hv) (s : Store) (a : Node) (t : Txt) (hs : s.length ≤ 100000) : run D WW (n + 5) f_put [eS s, eN a, eT t] h = .ok (eS (put s a t), h) := by
  rw [run_eq d_put rfl rfl]
  have l0 := List.length_filter_le (fun p : Node × Txt => !decide (p.1 = a)) s
  have l1 : (s.filter (fun p => !decide (p.1 = a))).length ≤ 900000 := by omega
  have l3 : (s.filter (fun p => !decide (p.1 = a))).length ≤ 1000000 := by omega
  have l2 : (s.filter (fun p => !decide (p.1 = a))).length + 1 ≤ 1000000 := by omega
  simp [d_put, b_put, l1, l2, l3]
  rfl
end PL
set_option autoImplicit false
set_option linter.all false
namespace PL
open PySem
local macro_rules | `(thq $r $f) => `(@thx _ _ $r ⟨$f⟩)
def wof (a : Node) (t : Txt) : Int := 2 + ((nkey a).length : Int) + (t.s.length : Int)
@[simp] theorem weight_of_ok (n : Nat) (h : Hv) (a : Node) (t : Txt) : run D WW (n + 5) f_weight_of [eN a, eT t] h = .ok (.int (wof a t), h) := by
  rw [run_eq d_weight_of rfl rfl]
  simp [d_weight_of, b_weight_of, wof, eT_def]
def win (s : Store) (b : Node) : Int := ((s.filter fun p => within p.1 b).map fun p => wof p.1 p.2).sum
@[simp] theorem weight_in_ok (n : Nat) (h : Hv) (s : Store) (b : Node) (hs : s.length ≤ 100000) : run D WW (n + 6) f_weight_in [eS s, eN b] h = .ok (.int (win s b), h) := by
  rw [run_eq d_weight_in rfl rfl]
  have l0 := List.length_filter_le (fun p : Node × Txt => within p.1 b) s
  have l1 : (s.filter (fun p => within p.1 b)).length ≤ 1000000 := by omega
  simp [d_weight_in, b_weight_in, l1, win]
theorem fits_pre {a : Node} (k : Nat) : fitsNode (.tup [.str a.nm, .tup ((a.subs.take k).map eT)]) = true := by
  have := a.ok
  simp only [fitsNode, fitsSubs, Bool.and_eq_true, decide_eq_true_eq] at this ⊢
  obtain ⟨h1, ⟨h2, h3⟩, h4⟩ := this
  rw [List.length_map] at h2
  refine ⟨h1, ⟨?_, ?_⟩, ?_⟩
  · rw [List.length_map, List.length_take]; omega
  · rw [List.all_eq_true] at h3 ⊢
    intro x hx
    obtain ⟨t, ht, rfl⟩ := List.mem_map.mp hx
    exact h3 _ (List.mem_map_of_mem (List.mem_of_mem_take ht))
  · refine Int.le_trans ?_ h4
    have : ∀ (xs : List Txt) (k : Nat), (((xs.take k).map eT).map slen).sum ≤ ((xs.map eT).map slen).sum := by
      intro xs
      induction xs with
      | nil => intro k; simp
      | cons x xs ih =>
        intro k
        cases k with
        | zero =>
          have := ih 0
          simp [slen, eT] at *
          omega
        | succ k =>
          have := ih k
          simp [slen, eT] at *
          omega
    exact this a.subs k
/-- a node's head -/
def Node.pre (a : Node) (k : Nat) : Node := ⟨a.nm, a.subs.take k, fits_pre k⟩
@[simp] theorem fold_pre (a : Node) (k : Nat) : PV.tup [.str a.nm, .tup (List.take k (a.subs.map eT))] = eN (a.pre k) := by simp only [eN, Node.pre, List.map_take]
theorem eN_inj (a b : Node) (h : eN a = eN b) : a = b := by
  have := eN_eqv a b
  rw [h, eN_eqv] at this
  simpa using this.symm
@[simp] theorem eN_key (a : Node) : tupK (eN a) = true := by
  have : ∀ xs : List Txt, keysN 3 (xs.map eT) = true := by
    intro xs
    induction xs with
    | nil => simp [keysN]
    | cons x xs ih => simp [keysN, ih, eT, keyN]
  simp [tupK, eN, keyN, keysN, this]
def keysD (ks : List Node) : PL.PO := .dct (ks.map fun b => (eN b, .bl true))
def headsK (s : Store) (k : Nat) : List Node := s.foldl (fun ks p => if k ≤ p.1.subs.length then addKey ks (p.1.pre k) else ks) []
def heads (s : Store) (k : Nat) : List Node := srt nrk (headsK s k)
theorem heads_loop (n : Nat) (h0 : Hv) (s0 : Store) (k : Nat) : ∀ (s : Store) (ks : List Node) (l1 l2 : Option PV), envP [l1, l2] = true → ks.length + s.length ≤ 100000 →
    ∃ m1 m2, envP [m1, m2] = true ∧ forC (stepF (run D WW (n + 3)) WW (.tup2 (.name 3) (.name 4)) L1_heads_in) (fun _ => true) (s.map ePr) [some (eS s0), some (.int k), some (.ref h0.length), l1, l2] (h0 ++ [keysD ks])
      = .ok (.next [some (eS s0), some (.int k), some (.ref h0.length), m1, m2], h0 ++ [keysD (s.foldl (fun ks p => if k ≤ p.1.subs.length then addKey ks (p.1.pre k) else ks) ks)]) := by
  intro s
  induction s with
  | nil => intro ks l1 l2 hl _; exact ⟨l1, l2, hl, by simp [forC]⟩
  | cons p s ih =>
    intro ks l1 l2 hl hk
    simp at hk
    have l1' := addKey_len ks (p.1.pre k)
    have lk : ks.length < line := by unfold line; omega
    obtain ⟨l1', l2', g1, g2⟩ := ih (if k ≤ p.1.subs.length then addKey ks (p.1.pre k) else ks) (some (eN p.1)) (some (eT p.2)) (by simp) (by split <;> omega)
    refine ⟨l1', l2', g1, ?_⟩
    have e1 : stepF (run D WW (n + 3)) WW (.tup2 (.name 3) (.name 4)) L1_heads_in (ePr p) [some (eS s0), some (.int k), some (.ref h0.length), l1, l2] (h0 ++ [keysD ks]) = .ok (.next [some (eS s0), some (.int k), some (.ref h0.length), some (eN p.1), some (eT p.2)], h0 ++ [keysD (if k ≤ p.1.subs.length then addKey ks (p.1.pre k) else ks)]) := by
      by_cases hk : k ≤ p.1.subs.length
      · have hk' : (k : Int) ≤ p.1.subs.length := by omega
        simp [L1_heads_in, hk, hk', keysD, kindOk_keys, putAt_keys eN_inj, lk]
      · have hk' : ¬ (k : Int) ≤ p.1.subs.length := by omega
        simp [L1_heads_in, hk, hk', keysD]
    rw [List.map_cons, forC, e1]
    have e2 : gcE [some (eS s0), some (.int k), some (.ref h0.length), some (eN p.1), some (eT p.2)] (h0 ++ [keysD ks]) (h0 ++ [keysD (if k ≤ p.1.subs.length then addKey ks (p.1.pre k) else ks)]) = h0 ++ [keysD (if k ≤ p.1.subs.length then addKey ks (p.1.pre k) else ks)] := by
      refine gcE_one ?_ ?_
      · simp
      · simp [keysD]
    rw [thn_ok]
    simp only [if_true, e2]
    exact g2
theorem headsK_len (s : Store) (k : Nat) : (headsK s k).length ≤ s.length := by
  have : ∀ (s : Store) (ks : List Node), (s.foldl (fun ks p => if k ≤ p.1.subs.length then addKey ks (p.1.pre k) else ks) ks).length ≤ ks.length + s.length := by
    intro s
    induction s with
    | nil => intro ks; simp
    | cons p s ih =>
      intro ks
      have h1 := ih (if k ≤ p.1.subs.length then addKey ks (p.1.pre k) else ks)
      have h2 := addKey_len ks (p.1.pre k)
      simp only [List.foldl_cons, List.length_cons]
      split at h1 <;> split <;> omega
  have := this s []
  unfold headsK
  simpa using this
theorem srt_len {α : Type} (k : α → PV) (xs : List α) : (srt k xs).length = xs.length := List.length_mergeSort _
@[simp] theorem heads_in_ok (n : Nat) (h : Hv) (s : Store) (k : Nat) (hs : s.length ≤ 10000) : run D WW (n + 5) f_heads_in [eS s, .int k] h = .ok (.ref h.length, h ++ [.lst ((heads s k).map eN)]) := by
  rw [run_eq d_heads_in rfl rfl]
  obtain ⟨l1, l2, h1, h2⟩ := heads_loop (n + 1) h s k s [] none none (by simp) (by simp; omega)
  have l3 := headsK_len s k
  have e := sortBy_map nrk eN (headsK s k) (h ++ [keysD (headsK s k)]) (keysOk_of _ _ nrk_key nrk_alk) (le_line (by omega))
  simp [keysD] at h2 e
  unfold headsK at e
  simp [d_heads_in, b_heads_in, h2, Function.comp_def, e]
  rfl
theorem heads_len (s : Store) (k : Nat) : (heads s k).length ≤ s.length := by
  unfold heads
  rw [srt_len]
  exact headsK_len s k
@[simp] theorem heads_in_ok1 (n : Nat) (h : Hv) (s : Store) (k : Nat) (hs : s.length ≤ 10000) : run D WW (n + 5) f_heads_in [eS s, .int ((k : Int) + 1)] h = .ok (.ref h.length, h ++ [.lst ((heads s (k + 1)).map eN)]) := heads_in_ok n h s (k + 1) hs
def kids (s : Store) (a : Node) : List Node := (heads s (a.subs.length + 1)).filter fun b => within b a
@[simp] theorem children_of_ok (n : Nat) (h : Hv) (s : Store) (a : Node) (hs : s.length ≤ 10000) : run D WW (n + 6) f_children_of [eS s, eN a] h = .ok (.ref h.length, h ++ [.lst ((kids s a).map eN)]) := by
  rw [run_eq d_children_of rfl rfl]
  have l1 := heads_len s (a.subs.length + 1)
  have l2 := List.length_filter_le (fun b => within b a) (heads s (a.subs.length + 1))
  have l3 : ((heads s (a.subs.length + 1)).filter fun b => within b a).length ≤ 1000000 := by omega
  simp [d_children_of, b_children_of, hs, l3]
  rfl
theorem kids_len (s : Store) (a : Node) : (kids s a).length ≤ s.length := by
  have l1 := heads_len s (a.subs.length + 1)
  have l2 := List.length_filter_le (fun b => within b a) (heads s (a.subs.length + 1))
  unfold kids
  omega
/-- the first of the heaviest -/
def best (s : Store) (bs : List Node) : Option Node := (bs.filter fun c => decide (win s c = maxL (bs.map (win s)))).head?
theorem best_some (s : Store) {bs : List Node} (h : bs ≠ []) : ∃ c, best s bs = some c ∧ c ∈ bs := by
  unfold best
  have := maxL_mem (xs := bs.map (win s)) (by simpa using h)
  obtain ⟨c, hc, e⟩ := List.mem_map.mp this
  cases h : bs.filter fun c => decide (win s c = maxL (bs.map (win s))) with
  | nil =>
    have := List.filter_eq_nil_iff.mp h c hc
    simp [e] at this
  | cons d ds =>
    refine ⟨d, rfl, ?_⟩
    have : d ∈ d :: ds := List.mem_cons_self
    rw [← h] at this
    exact (List.mem_filter.mp this).1
/-- the heaviest way -/
def way (s : Store) : Nat → Node → List Node
  | 0, _ => []
  | k + 1, a => if 0 < win s a then a :: (match best s (kids s a) with
    | some c => way s k c
    | none => []) else []
theorem way_turn0 (n : Nat) (h : Hv) (s : Store) (nm : PV) (a : Node) (ac : List Node) (l4 l5 l6 : Option PV) (hs : s.length ≤ 10000) (ha : ac.length ≤ 1000) (hk : kids s a = []) : 
    evSs (run D WW (n + 6)) WW L1_way_in [some (eS s), some nm, some (eN a), some (.tup (ac.map eN)), l4, l5, l6] h = .ok (.ret (.tup ((ac ++ [a]).map eN)), h ++ [.lst [], .lst []]) := by
  have l1 : ac.length + 1 ≤ 1000000 := by omega
  simp [L1_way_in, l1, hs, hk]
theorem way_turn1 (n : Nat) (h : Hv) (s : Store) (nm : PV) (a c : Node) (ac : List Node) (l4 l5 l6 : Option PV) (hs : s.length ≤ 10000) (ha : ac.length ≤ 1000) (hk : best s (kids s a) = some c) : ∃ g,
    evSs (run D WW (n + 6)) WW L1_way_in [some (eS s), some nm, some (eN a), some (.tup (ac.map eN)), l4, l5, l6] h = .ok (.next [some (eS s), some nm, some (eN c), some (.tup ((ac ++ [a]).map eN)), some (.ref h.length), some (.int (maxL ((kids s a).map (win s)))), l6], h ++ .lst ((kids s a).map eN) :: g) := by
  have l1 : ac.length + 1 ≤ 1000000 := by omega
  have hs' : s.length ≤ 100000 := by omega
  have l2 := kids_len s a
  have ne : kids s a ≠ [] := fun z => by rw [z] at hk; cases hk
  unfold best at hk
  generalize hL : kids s a = L at *
  have l3 : L.length ≤ 1000000 := by omega
  have l4 := List.length_filter_le (fun c => decide (win s c = maxL (L.map (win s)))) L
  have l5 : (L.filter (fun c => decide (win s c = maxL (L.map (win s))))).length ≤ 1000000 := by omega
  refine ⟨[.lst [], .lst (L.map fun c => .int (win s c)), .lst ((L.filter (fun c => decide (win s c = maxL (L.map (win s))))).map eN)], ?_⟩
  simp [L1_way_in, l1, hs, hs', l3, ne, mostV_map, l5, hk, hL]
theorem heads_mem (s : Store) (k : Nat) : ∀ a ∈ heads s k, a.subs.length = k := by
  have : ∀ (s : Store) (ks : List Node), (∀ a ∈ ks, a.subs.length = k) → ∀ a ∈ s.foldl (fun ks p => if k ≤ p.1.subs.length then addKey ks (p.1.pre k) else ks) ks, a.subs.length = k := by
    intro s
    induction s with
    | nil => intro ks h a ha; exact h a ha
    | cons p s ih =>
      intro ks h a ha
      refine ih _ ?_ a ha
      intro b hb
      dsimp only at hb
      split at hb
      · rename_i hk
        unfold addKey at hb
        split at hb
        · exact h b hb
        · rcases List.mem_append.mp hb with q | q
          · exact h b q
          · rw [List.mem_singleton.mp q]
            simp [Node.pre, hk]
      · exact h b hb
  intro a ha
  unfold heads srt at ha
  exact this s [] (fun _ h => nomatch h) a (List.mem_mergeSort.mp ha)
theorem kids_mem {s : Store} {a b : Node} (h : b ∈ kids s a) : b.subs.length = a.subs.length + 1 := heads_mem s _ b (List.mem_filter.mp h).1
theorem best_len {s : Store} {a c : Node} (h : best s (kids s a) = some c) : c.subs.length = a.subs.length + 1 := by
  have ne : kids s a ≠ [] := fun z => by rw [z] at h; cases h
  obtain ⟨d, h1, h2⟩ := best_some s ne
  rw [h] at h1
  cases h1
  exact kids_mem h2
theorem way_cond (n : Nat) (h : Hv) (s : Store) (a : Node) (l1 l3 l4 l5 l6 : Option PV) (hs : s.length ≤ 10000) : evE (run D WW (n + 6)) C1_way_in [some (eS s), l1, some (eN a), l3, l4, l5, l6] h = .ok (.bl (decide (0 < win s a)), h) := by
  have hs' : s.length ≤ 100000 := by omega
  simp [C1_way_in, hs']
theorem way_loop (n : Nat) (s : Store) (nm : PV) (hs : s.length ≤ 10000) : ∀ (k w : Nat) (a : Node) (ac : List Node) (l4 l5 l6 : Option PV) (h : Hv), k < w → 8 ≤ k + a.subs.length → ac.length + k ≤ 1000 → 
    ∃ o g, whlC (evE (run D WW (n + 6)) C1_way_in) (evSs (run D WW (n + 6)) WW L1_way_in) w [some (eS s), some nm, some (eN a), some (.tup (ac.map eN)), l4, l5, l6] h = .ok (o, h ++ g) ∧
      (o = .ret (.tup ((ac ++ way s k a).map eN)) ∨ ∃ b m4 m5 m6, o = .next [some (eS s), some nm, b, some (.tup ((ac ++ way s k a).map eN)), m4, m5, m6])
  | 0, w, a, ac, l4, l5, l6, h, _, h8, _ => by have := a.ok'.2; omega
  | k + 1, 0, a, ac, l4, l5, l6, h, hw, h8, h9 => absurd hw (Nat.not_lt_zero _)
  | k + 1, w + 1, a, ac, l4, l5, l6, h, hw, h8, h9 => by
    have c := way_cond n h s a (some nm) (some (.tup (ac.map eN))) l4 l5 l6 hs
    by_cases hp : 0 < win s a
    · rw [decide_eq_true hp] at c
      by_cases hk : kids s a = []
      · have t := way_turn0 n h s nm a ac l4 l5 l6 hs (by omega) hk
        refine ⟨_, _, whlC_ret c t, .inl ?_⟩
        have : best s (kids s a) = none := by rw [hk]; rfl
        simp [way, hp, this]
      · obtain ⟨b, hb, _⟩ := best_some s hk
        obtain ⟨g, t⟩ := way_turn1 n h s nm a b ac l4 l5 l6 hs (by omega) hb
        rw [whlC_next c t]
        obtain ⟨g', e⟩ := gcE_ex [some (eS s), some nm, some (eN b), some (.tup ((ac ++ [a]).map eN)), some (.ref h.length), some (.int (maxL ((kids s a).map (win s)))), l6] h (.lst ((kids s a).map eN) :: g)
        rw [e]
        obtain ⟨o, g2, e2, r⟩ := way_loop n s nm hs k w b (ac ++ [a]) (some (.ref h.length)) (some (.int (maxL ((kids s a).map (win s))))) l6 (h ++ g') (by omega) (by have := best_len hb; omega) (by simp; omega)
        refine ⟨o, g' ++ g2, by rw [e2, List.append_assoc], ?_⟩
        have : ac ++ way s (k + 1) a = ac ++ [a] ++ way s k b := by simp [way, hp, hb]
        rw [this]
        exact r
    · rw [decide_eq_false hp] at c
      rw [whlC_end c, gcE_self]
      refine ⟨_, [], by rw [List.append_nil], .inr ⟨some (eN a), l4, l5, l6, by simp [way, hp]⟩⟩
/-- a name's node -/
def root (nm : List Nat) (h : fitsName (.str nm) = true) : Node := ⟨nm, [], by simp [fitsNode, h, fitsSubs]⟩
theorem fold_root (nm : List Nat) (h : fitsName (.str nm) = true) : PV.tup [.str nm, .tup []] = eN (root nm h) := rfl
theorem way_in_ok (n : Nat) (h : Hv) (s : Store) (nm : List Nat) (hn : fitsName (.str nm) = true) (hs : s.length ≤ 10000) : run D WW (n + 7) f_way_in [eS s, .str nm] h = .ok (.tup ((way s 8 (root nm hn)).map eN), h) := by
  rw [run_eq d_way_in rfl rfl]
  obtain ⟨o, g, e, r⟩ := way_loop n s (.str nm) hs 8 WW (root nm hn) [] none none none h (by have := ww_big; omega) (by omega) (by simp)
  rcases r with rfl | ⟨b, m4, m5, m6, rfl⟩
  · simp at e
    simp [d_way_in, b_way_in, fold_root nm hn, e]
  · simp at e
    simp [d_way_in, b_way_in, fold_root nm hn, e]
/-! ### quotas -/
abbrev Quotas := List (Node × Int)
def eNI (p : Node × Int) : PV := .tup [eN p.1, .int p.2]
def eQ (q : Quotas) : PV := .tup (q.map eNI)
@[simp] theorem eNI_pure (p : Node × Int) : (eNI p).pure = true := by simp [eNI]
@[simp] theorem eQ_pure (s : Quotas) : (eQ s).pure = true := by simp [eQ]
@[simp] theorem eNI_0 (h : Hv) (p : Node × Int) : evIdx (eNI p) (.int 0) h = .ok (eN p.1, h) := by simp [eNI]
@[simp] theorem eNI_1 (h : Hv) (p : Node × Int) : evIdx (eNI p) (.int 1) h = .ok (.int p.2, h) := by simp [eNI]
@[simp] theorem eNI_bind (a b : Tg) (p : Node × Int) (e : Env) : bind (.tup2 a b) (eNI p) e = andB (bind a (eN p.1) e) b (.int p.2) := by simp [eNI]
@[simp] theorem eQ_src (h : Hv) (s : Quotas) : srcItems h (eQ s) = some ⟨s.map eNI, [], none⟩ := rfl
theorem fold_eNI (a : Node) (i : Int) : PV.tup [eN a, .int i] = eNI (a, i) := rfl
/-- what quotas are, of any value -/
def rkV (v : PV) : PV := match v with
  | .str x => rk x
  | _ => .non
def nrkV (v : PV) : PV := match v with
  | .tup [a, .tup xs] => .tup [a, .tup (xs.map rkV)]
  | _ => .non
def fitsQ2 (v : PV) : Bool := match v with
  | .tup [a, b] => fitsNode a && isWhole b 0 200000
  | _ => false
def key0 (v : PV) : PV := match v with
  | .tup (a :: _) => nrkV a
  | _ => .non
def fitsQ (v : PV) : Bool := match v with
  | .tup xs => decide (xs.length ≤ 10) && xs.all fitsQ2 && ((xs.zip xs.tail).all fun q => ltv (key0 q.1) (key0 q.2))
  | _ => false
theorem fitsQ2_typed {v : PV} (h : fitsQ2 v = true) : ∃ p : Node × Int, v = eNI p ∧ 0 ≤ p.2 ∧ p.2 ≤ 200000 := by
  unfold fitsQ2 at h
  split at h
  · rename_i a b
    rw [Bool.and_eq_true] at h
    obtain ⟨h1, h2⟩ := h
    have h1' := h1
    unfold fitsNode at h1
    split at h1
    · rename_i x y
      rw [Bool.and_eq_true] at h1
      obtain ⟨k1, k2⟩ := h1
      cases x <;> first | (simp [fitsName] at k1; done) | skip
      rename_i nm
      unfold fitsSubs at k2
      split at k2
      · rename_i xs
        simp only [Bool.and_eq_true, List.all_eq_true] at k2
        have : ∃ ts : List Txt, xs = ts.map eT := by
          have q := k2.1.2
          clear k1 k2 h2 h1'
          induction xs with
          | nil => exact ⟨[], rfl⟩
          | cons x xs ih =>
            obtain ⟨ts, rfl⟩ := ih fun y hy => q y (List.mem_cons_of_mem _ hy)
            have := q x List.mem_cons_self
            cases x <;> first | (simp [fitsSub] at this; done) | skip
            rename_i s
            simp only [fitsSub, Bool.and_eq_true] at this
            exact ⟨⟨s, this.1⟩ :: ts, rfl⟩
        obtain ⟨ts, rfl⟩ := this
        cases b <;> first | (simp [isWhole] at h2; done) | skip
        rename_i i
        simp [isWhole] at h2
        exact ⟨(⟨nm, ts, h1'⟩, i), rfl, h2⟩
      · cases k2
    · cases h1
  · cases h
theorem key0_eNI (p : Node × Int) : key0 (eNI p) = nrk p.1 := by
  simp [key0, eNI, nrkV, eN, nrk, rkV, eT, Function.comp_def]
theorem len2 {xs : List PV} : ((2 : Int) ≤ xs.length ∧ (xs.length : Int) ≤ 2) ↔ ∃ a b, xs = [a, b] := by
  constructor
  · rintro ⟨h1, h2⟩
    match xs, h1, h2 with
    | [], h1, _ => simp at h1
    | [a], h1, _ => simp at h1
    | [a, b], _, _ => exact ⟨a, b, rfl⟩
    | a :: b :: c :: xs, _, h2 => simp at h2; omega
  · rintro ⟨a, b, rfl⟩
    simp
theorem pairs_lift {ys : List PureV} (h : ∀ y ∈ ys, tupLen y.v 2 2 = true) : ∃ zs : List (PureV × PureV), ys.map PureV.v = zs.map fun p => .tup [p.1.v, p.2.v] := by
  induction ys with
  | nil => exact ⟨[], rfl⟩
  | cons y ys ih =>
    obtain ⟨zs, e⟩ := ih fun z hz => h z (List.mem_cons_of_mem _ hz)
    have h1 := h y List.mem_cons_self
    obtain ⟨v, hv⟩ := y
    unfold tupLen at h1
    dsimp only at h1
    split at h1
    · rename_i xs
      simp only [Bool.and_eq_true, decide_eq_true_eq] at h1
      obtain ⟨a, b, rfl⟩ := len2.mp h1
      simp at hv
      exact ⟨(⟨a, hv.1⟩, ⟨b, hv.2⟩) :: zs, by rw [List.map_cons, List.map_cons, e]⟩
    · cases h1
theorem quotas_lift {zs : List (PureV × PureV)} (h : ∀ z ∈ zs, fitsQ2 (.tup [z.1.v, z.2.v]) = true) : ∃ q : Quotas, (zs.map fun p => PV.tup [p.1.v, p.2.v]) = q.map eNI := by
  induction zs with
  | nil => exact ⟨[], rfl⟩
  | cons y ys ih =>
    obtain ⟨q, e⟩ := ih fun z hz => h z (List.mem_cons_of_mem _ hz)
    obtain ⟨p, hp, _⟩ := fitsQ2_typed (h y List.mem_cons_self)
    exact ⟨p :: q, by rw [List.map_cons, List.map_cons, e, hp]⟩
theorem fitsQ2_len {v : PV} (h : fitsQ2 v = true) : tupLen v 2 2 = true := by
  unfold fitsQ2 at h
  split at h
  · simp [tupLen]
  · cases h
theorem and_all {α : Type} (p q : α → Bool) (xs : List α) : (∃ x, x ∈ xs ∧ p x = false) → (∀ x, q x = true → p x = true) → xs.all q = false := by
  rintro ⟨x, h1, h2⟩ h3
  rw [List.all_eq_false]
  exact ⟨x, h1, fun h => by rw [h3 x h] at h2; cases h2⟩
def upQ (q : Quotas) : Bool := (q.zip q.tail).all fun p => ltv (nrk p.1.1) (nrk p.2.1)
theorem fitsQ_typed (q : Quotas) (h : ∀ p ∈ q, 0 ≤ p.2 ∧ p.2 ≤ 200000) : fitsQ (eQ q) = (decide (q.length ≤ 10) && upQ q) := by
  unfold fitsQ eQ upQ
  dsimp only
  have h1 : (q.map eNI).all fitsQ2 = true := by
    rw [List.all_eq_true]
    intro v hv
    obtain ⟨p, hp, rfl⟩ := List.mem_map.mp hv
    have := h p hp
    simp [fitsQ2, eNI, isWhole, this.1, this.2]
  rw [h1]
  simp [key0_eNI, List.all_map, Function.comp_def]
@[simp] theorem fits_quotas_ok (n : Nat) (h : Hv) (v : PV) (hv : v.pure = true) : run D WW (n + 5) f_fits_quotas [v] h = .ok (.bl (fitsQ v), h) := by
  rw [run_eq d_fits_quotas rfl rfl]
  cases v <;> try (simp [d_fits_quotas, b_fits_quotas, tupLen, fitsQ] at *; done)
  rename_i xs
  simp at hv
  obtain ⟨ys, rfl⟩ := pures_lift hv
  by_cases h10 : ys.length ≤ 10
  · have l1 : ys.length ≤ 1000000 := by omega
    by_cases h2 : ∀ y ∈ ys, tupLen y.v 2 2 = true
    · obtain ⟨zs, e⟩ := pairs_lift h2
      have lz : zs.length = ys.length := by have := congrArg List.length e; simpa using this.symm
      rw [e]
      rw [← lz] at h10 l1
      by_cases h3 : ∀ z ∈ zs, fitsQ2 (.tup [z.1.v, z.2.v]) = true
      · obtain ⟨q, e2⟩ := quotas_lift h3
        have lq : q.length = zs.length := by have := congrArg List.length e2; simpa using this.symm
        rw [← lq] at h10 l1
        have hq : ∀ p ∈ q, 0 ≤ p.2 ∧ p.2 ≤ 200000 := by
          intro p hp
          have : eNI p ∈ q.map eNI := List.mem_map_of_mem hp
          rw [← e2] at this
          obtain ⟨z, hz, ez⟩ := List.mem_map.mp this
          have h5 := h3 z hz
          rw [ez] at h5
          simpa [fitsQ2, eNI, isWhole] using h5
        have hn : ¬ ∃ x, x ∈ q ∧ isWhole (.int x.2) 0 200000 = false := by
          rintro ⟨x, hx, h6⟩
          have := hq x hx
          simp [isWhole, this] at h6
        have h5 : tupLen (.tup (q.map eNI)) 0 10 = true := by simp [tupLen, h10]
        have h7 : ∀ p : Node × Int, tupLen (eNI p) 2 2 = true := fun p => by simp [tupLen, eNI]
        have h6 := fitsQ_typed q hq
        unfold eQ at h6
        have l2 : q.length - 1 ≤ 1000000 := by omega
        rw [e2, h6]
        simp [d_fits_quotas, b_fits_quotas, h5, h7, l1, l2, hn, h10]
        rfl
      · have h3' : ∃ z, z ∈ zs ∧ fitsQ2 (.tup [z.1.v, z.2.v]) = false := by simpa using h3
        have h5 : tupLen (.tup (zs.map fun p => .tup [p.1.v, p.2.v])) 0 10 = true := by simp [tupLen, h10]
        have h7 : ∀ p : PureV × PureV, tupLen (.tup [p.1.v, p.2.v]) 2 2 = true := fun p => by simp [tupLen]
        have h8 : (zs.all fun p => fitsQ2 (.tup [p.1.v, p.2.v])) = false := by
          rw [List.all_eq_false]
          obtain ⟨z, a, b⟩ := h3'
          exact ⟨z, a, by simp [b]⟩
        have h9 : ∃ z, z ∈ zs ∧ (fitsNode z.1.v = true → isWhole z.2.v 0 200000 = false) := by
          obtain ⟨z, a, b⟩ := h3'
          exact ⟨z, a, by simpa [fitsQ2] using b⟩
        simp [d_fits_quotas, b_fits_quotas, fitsQ, h5, h7, l1, h8, List.all_map, Function.comp_def]
        intro hh
        obtain ⟨z, a, b⟩ := h9
        have := hh z.1 z.2 a
        simp [this] at b
    · have h3 : ∃ y, y ∈ ys ∧ tupLen y.v 2 2 = false := by simpa using h2
      have h4 := and_all (fun y : PureV => tupLen y.v 2 2) (fun y => fitsQ2 y.v) ys h3 fun x hx => fitsQ2_len hx
      have h5 : tupLen (.tup (ys.map PureV.v)) 0 10 = true := by simp [tupLen, h10]
      simp [d_fits_quotas, b_fits_quotas, fitsQ, h5, l1, h3, h4, List.all_map, Function.comp_def]
  · have h5 : tupLen (.tup (ys.map PureV.v)) 0 10 = false := by simp [tupLen]; omega
    simp [d_fits_quotas, b_fits_quotas, fitsQ, h5, h10]
@[simp] theorem need_quotas_ok (n : Nat) (h : Hv) (v : PV) (hv : v.pure = true) (hf : fitsQ v = true) : run D WW (n + 6) f_need_quotas [v] h = .ok (.non, h) := by
  rw [run_eq d_need_quotas rfl rfl]
  simp [d_need_quotas, b_need_quotas, hv, hf]
def overs (s : Store) (q : Quotas) : List (Node × Int) := (q.filter fun p => decide (p.2 < win s p.1)).map fun p => (p.1, win s p.1 - p.2)
@[simp] theorem over_in_ok (n : Nat) (h : Hv) (s : Store) (q : Quotas) (hs : s.length ≤ 10000) (hq : q.length ≤ 10000) : run D WW (n + 7) f_over_in [eS s, eQ q] h = .ok (.ref h.length, h ++ [.lst ((overs s q).map eNI)]) := by
  rw [run_eq d_over_in rfl rfl]
  have hs' : s.length ≤ 100000 := by omega
  have hq' : q.length ≤ 1000000 := by omega
  have l0 := List.length_filter_le (fun p : Node × Int => decide (p.2 < win s p.1)) q
  have l1 : (q.filter (fun p => decide (p.2 < win s p.1))).length ≤ 1000000 := by omega
  simp [d_over_in, b_over_in, hs', hq', fold_eNI, l1, overs, Function.comp_def]
def roomL (s : Store) (q : Quotas) (a : Node) : List Int := (q.filter fun p => within a p.1).map fun p => p.2 - win s p.1
def roomV (s : Store) (q : Quotas) (a : Node) : PV := if roomL s q a = [] then .non else .int (minL (roomL s q a))
@[simp] theorem roomV_pure (s : Store) (q : Quotas) (a : Node) : (roomV s q a).pure = true := by unfold roomV; split <;> simp
@[simp] theorem room_in_ok (n : Nat) (h : Hv) (s : Store) (q : Quotas) (a : Node) (hs : s.length ≤ 10000) (hq : q.length ≤ 10000) : run D WW (n + 7) f_room_in [eS s, eQ q, eN a] h = .ok (roomV s q a, h) := by
  rw [run_eq d_room_in rfl rfl]
  have hs' : s.length ≤ 100000 := by omega
  have l0 := List.length_filter_le (fun p : Node × Int => within a p.1) q
  have l1 : (q.filter (fun p => within a p.1)).length ≤ 1000000 := by omega
  by_cases z : q.filter (fun p => within a p.1) = []
  · simp [d_room_in, b_room_in, hs', z, roomV, roomL]
  · have z' : q.filter (fun p => within a p.1) ≠ [] := z
    have z2 : roomL s q a ≠ [] := by intro e; exact z (by simpa only [roomL, List.map_eq_nil_iff] using e)
    unfold roomV
    rw [if_neg z2]
    unfold roomL
    generalize hL : q.filter (fun p => within a p.1) = L at *
    simp [d_room_in, b_room_in, hs', l1, z', leastV_map, hL]
theorem srtL_len (s : Store) (a : Node) (t : Txt) : (put s a t).length ≤ s.length + 1 := by
  unfold put
  rw [srt_len]
  have := List.length_filter_le (fun p : Node × Txt => !decide (p.1 = a)) s
  simp; omega
/-- a store as the functions want it -/
def okSt (s : Store) : Prop := s.length ≤ 300 ∧ upB s = true
section
variable (n : Nat) (h : Hv) {s : Store}
@[simp] theorem weight_ok (a : Node) (hs : okSt s) : run D WW (n + 8) f_weight [eS s, eN a] h = .ok (.int (win s a), h) := by
  rw [run_eq d_weight rfl rfl]
  have hs' : s.length ≤ 100000 := by have := hs.1; omega
  simp [d_weight, b_weight, hs.1, hs.2, hs']
def weights (s : Store) (k : Nat) : List (Node × Int) := (heads s k).map fun a => (a, win s a)
theorem weights_at_ok (k : Nat) (hk : k ≤ 7) (hs : okSt s) : run D WW (n + 8) f_weights_at [eS s, .int k] h = .ok (eQ (weights s k), h) := by
  rw [run_eq d_weights_at rfl rfl]
  have l1 := heads_len s k
  have hs1 := hs.1
  have hs' : s.length ≤ 100000 := by omega
  have hs2 : s.length ≤ 10000 := by omega
  have l2 : (heads s k).length ≤ 1000000 := by omega
  have w : isWhole (.int k) 0 7 = true := by simp [isWhole, hk]
  simp [d_weights_at, b_weights_at, hs.1, hs.2, hs', hs2, w, l2, fold_eNI, eQ, weights, Function.comp_def]
theorem way_len (s : Store) : ∀ (k : Nat) (a : Node), (way s k a).length ≤ k
  | 0, a => by simp [way]
  | k + 1, a => by
    unfold way
    split
    · cases h : best s (kids s a) with
      | none => simp
      | some c => have := way_len s k c; simp; omega
    · simp
theorem heaviest_way_ok {nm : List Nat} (hn : fitsName (.str nm) = true) (hs : okSt s) : run D WW (n + 8) f_heaviest_way [eS s, .str nm] h = .ok (.tup ((way s 8 (root nm hn)).map eN), h) := by
  rw [run_eq d_heaviest_way rfl rfl]
  have hs1 := hs.1
  have hs2 : s.length ≤ 10000 := by omega
  simp [d_heaviest_way, b_heaviest_way, hs.1, hs.2, hn, way_in_ok (n + 0) _ s nm hn hs2]
def halves (s : Store) (r : Node) : List Node := (way s 8 r).filter fun a => decide (win s r ≤ 2 * win s a)
def middleV (s : Store) (r : Node) : PV := match (halves s r).getLast? with
  | some a => eN a
  | none => .non
@[simp] theorem middleV_pure (s : Store) (r : Node) : (middleV s r).pure = true := by unfold middleV; split <;> simp
theorem middle_node_ok {nm : List Nat} (hn : fitsName (.str nm) = true) (hs : okSt s) : run D WW (n + 8) f_middle_node [eS s, .str nm] h = .ok (middleV s (root nm hn), h) := by
  rw [run_eq d_middle_node rfl rfl]
  have hs1 := hs.1
  have hs' : s.length ≤ 100000 := by omega
  have hs2 : s.length ≤ 10000 := by omega
  have l0 := way_len s 8 (root nm hn)
  have l1 := List.length_filter_le (fun a => decide (win s (root nm hn) ≤ 2 * win s a)) (way s 8 (root nm hn))
  have l2 : ((way s 8 (root nm hn)).filter fun a => decide (win s (root nm hn) ≤ 2 * win s a)).length ≤ 1000000 := by omega
  have m : ∀ i : Int, mulOk 2 i = true := fun i => mulOk_l (by decide) (by decide)
  unfold middleV halves
  generalize hL : (way s 8 (root nm hn)).filter (fun a => decide (win s (root nm hn) ≤ 2 * win s a)) = L at *
  by_cases z : L = []
  · simp [d_middle_node, b_middle_node, hs.1, hs.2, hn, way_in_ok (n + 0) _ s nm hn hs2, fold_root nm hn, hs', m, hL, l2, z]
  · obtain ⟨c, hc⟩ : ∃ c, L.getLast? = some c := ⟨L.getLast z, List.getLast?_eq_some_getLast z⟩
    simp [d_middle_node, b_middle_node, hs.1, hs.2, hn, way_in_ok (n + 0) _ s nm hn hs2, fold_root nm hn, hs', m, hL, l2, z, hc]
@[simp] theorem are_quotas_ok {v : PV} (hv : v.pure = true) : run D WW (n + 6) f_are_quotas [v] h = .ok (.bl (fitsQ v), h) := by
  rw [run_eq d_are_quotas rfl rfl]
  simp [d_are_quotas, b_are_quotas, hv]
def okQ (q : Quotas) : Prop := q.length ≤ 10 ∧ fitsQ (eQ q) = true
theorem over_ok {q : Quotas} (hs : okSt s) (hq : okQ q) : run D WW (n + 8) f_over [eS s, eQ q] h = .ok (eQ (overs s q), h) := by
  rw [run_eq d_over rfl rfl]
  have hs1 := hs.1
  have hs2 : s.length ≤ 10000 := by omega
  have hq1 := hq.1
  have hq2 : q.length ≤ 10000 := by omega
  simp [d_over, b_over, hs.1, hs.2, hq.2, hs2, hq2]
  rfl
theorem room_ok {q : Quotas} {a : Node} (hs : okSt s) (hq : okQ q) : run D WW (n + 8) f_room [eS s, eQ q, eN a] h = .ok (roomV s q a, h) := by
  rw [run_eq d_room rfl rfl]
  have hs1 := hs.1
  have hs2 : s.length ≤ 10000 := by omega
  have hq1 := hq.1
  have hq2 : q.length ≤ 10000 := by omega
  simp [d_room, b_room, hs.1, hs.2, hq.2, hs2, hq2]
def canPut (s : Store) (q : Quotas) (a : Node) (t : Txt) : Bool := (roomL (put s a t) q a == []) || decide (0 ≤ minL (roomL (put s a t) q a))
theorem can_put_ok {q : Quotas} {a : Node} {t : Txt} (hs : okSt s) (hq : okQ q) : run D WW (n + 8) f_can_put [eS s, eQ q, eN a, eT t] h = .ok (.bl (canPut s q a t), h) := by
  rw [run_eq d_can_put rfl rfl]
  have hs1 := hs.1
  have hs' : s.length ≤ 100000 := by omega
  have l0 := srtL_len s a t
  have hs2 : (put s a t).length ≤ 10000 := by omega
  have hq1 := hq.1
  have hq2 : q.length ≤ 10000 := by omega
  by_cases z : roomL (put s a t) q a = []
  · simp [d_can_put, b_can_put, hs.1, hs.2, hq.2, hs2, hq2, hs', canPut, roomV, z]
  · simp [d_can_put, b_can_put, hs.1, hs.2, hq.2, hs2, hq2, hs', canPut, roomV, z]
end
end PL
set_option autoImplicit false
set_option linter.all false
namespace PL
open PySem
local macro_rules | `(thq $r $f) => `(@thx _ _ $r ⟨$f⟩)
/-! ### a law's own numbers and places -/
def sgn (b : Bool) : Int := if b then -1 else 1
theorem lnum_loop2 (n : Nat) (h : Hv) (a : PV) (ha : a.pure = true) : ∀ (rest pre : List Nat) (w : Nat) (tn : Bool), rest.length < w →
    whlC (evE (run D WW n) C2__law_number) (evSs (run D WW n) WW L2__law_number) w
      [some (.str (pre ++ rest)), some (.int (sgn tn)), some (.int pre.length), some a] h = .ok (.next [some (.str (pre ++ rest)), some (.int (sgn (turns tn (rest.takeWhile isSg)))), some (.int (pre.length + (rest.takeWhile isSg).length : Nat)), some a], h)
  | _, _, 0, _, hw => absurd hw (Nat.not_lt_zero _)
  | [], pre, w + 1, tn, hw => by
    rw [whlC_end (h1 := h)]
    · simp [turns]
    · simp [C2__law_number]
  | c :: rest, pre, w + 1, tn, hw => by
    have i1 := idx_str (h := h) (xs := pre ++ c :: rest) (k := pre.length) get_mid
    have lt : (pre.length : Int) < pre.length + (rest.length + 1) := by omega
    by_cases hc : isSg c = true
    · have ih := lnum_loop2 n h a ha rest (pre ++ [c]) w (turns tn [c]) (by simpa using hw)
      have hc' : c = 43 ∨ c = 45 := by simpa [isSg] using hc
      rw [whlC_next (h1 := h) (h2 := h) (e2 := [some (.str (pre ++ c :: rest)), some (.int (sgn (turns tn [c]))), some (.int (pre ++ [c]).length), some a])]
      · rw [gcE_self, List.append_cons, ih]
        simp [hc, turns]; omega
      · simp [C2__law_number, i1, lt, hc']
      · rcases hc' with rfl | rfl
        · simp [L2__law_number, i1, turns]
        · simp [L2__law_number, i1, turns]
          cases tn <;> rfl
    · rw [whlC_end (h1 := h)]
      · simp_all [turns]
      · simp [C2__law_number, i1, lt]
        simpa [isSg] using hc
theorem fig_index {c : Nat} (h : isDig c = true) : [48, 49, 50, 51, 52, 53, 54, 55, 56, 57].findIdx? (· == c) = some (c - 48) ∧ 48 ≤ c := by
  have := (isDig_mem c).mpr h
  rcases this with rfl | rfl | rfl | rfl | rfl | rfl | rfl | rfl | rfl | rfl <;> exact ⟨rfl, by decide⟩
def digFrom (i : Int) (x : List Nat) : Int := x.foldl (fun (n : Int) (c : Nat) => n * 10 + ((c : Int) - 48)) i
theorem isFig_dig (c : Nat) : isFig c = isDig c := by
  rw [Bool.eq_iff_iff, ← isDig_mem c]
  simp [isFig]
theorem mulOk_10 (i : Int) : mulOk i 10 = true := mulOk_r (by decide) (by decide)
theorem lnum_loop1 (n : Nat) (h : Hv) (a : PV) : ∀ (rest pre : List Nat) (w : Nat) (i : Int), rest.length < w →
    whlC (evE (run D WW n) C1__law_number) (evSs (run D WW n) WW L1__law_number) w
      [some (.str (pre ++ rest)), some a, some (.int pre.length), some (.int i)] h = .ok (.next [some (.str (pre ++ rest)), some a, some (.int (pre.length + (rest.takeWhile isDig).length : Nat)), some (.int (digFrom i (rest.takeWhile isDig)))], h)
  | _, _, 0, _, hw => absurd hw (Nat.not_lt_zero _)
  | [], pre, w + 1, i, hw => by
    rw [whlC_end (h1 := h)]
    · simp [digFrom]
    · simp [C1__law_number]
  | c :: rest, pre, w + 1, i, hw => by
    have i1 := idx_str (h := h) (xs := pre ++ c :: rest) (k := pre.length) get_mid
    have lt : (pre.length : Int) < pre.length + (rest.length + 1) := by omega
    by_cases hc : isDig c = true
    · have ih := lnum_loop1 n h a rest (pre ++ [c]) w (i * 10 + ((c : Int) - 48)) (by simpa using hw)
      obtain ⟨f1, f2⟩ := fig_index hc
      have f3 := index_s (h := h) f1
      have f4 : ((c - 48 : Nat) : Int) = (c : Int) - 48 := by omega
      rw [f4] at f3
      rw [whlC_next (h1 := h) (h2 := h) (e2 := [some (.str (pre ++ c :: rest)), some a, some (.int (pre ++ [c]).length), some (.int (i * 10 + ((c : Int) - 48)))])]
      · rw [gcE_self, List.append_cons, ih]
        simp [hc, digFrom]; omega
      · simp [C1__law_number, i1, lt, hc, isFig_dig]
      · simp [L1__law_number, i1, mulOk_10, f3]
    · rw [whlC_end (h1 := h)]
      · simp_all [digFrom]
      · simp [C1__law_number, i1, lt, hc, isFig_dig]
theorem sgn_mul (b : Bool) (i : Int) : sgn b * i = if b = true then -i else i := by cases b <;> simp [sgn]
theorem law_number_ok (n : Nat) (h : Hv) (x : List Nat) (hx : x.length ≤ 600) : run D WW (n + 1) f__law_number [.str x] h = .ok (.int (amount x), h) := by
  rw [run_eq d__law_number rfl rfl]
  have w1 := ww_big
  have ln : (x.dropWhile isSg).length ≤ x.length := (List.dropWhile_sublist _).length_le
  have l2 := lnum_loop2 n h (.int 0) (by simp) x [] WW false (by omega)
  have e1 : x = x.takeWhile isSg ++ x.dropWhile isSg := (List.takeWhile_append_dropWhile ..).symm
  have l1 := lnum_loop1 n h (.int (sgn (turns false (sgs x)))) (x.dropWhile isSg) (x.takeWhile isSg) WW 0 (by omega)
  rw [← e1] at l1
  have s0 : sgn false = 1 := rfl
  simp [s0] at l2
  have m : mulOk (sgn (turns false (sgs x))) (digFrom 0 (digs x)) = true := by
    refine mulOk_l ?_ ?_ <;> unfold sgn <;> split <;> decide
  have e3 : (x.dropWhile isSg).takeWhile isDig = digs x := rfl
  have e2 : x.takeWhile isSg = sgs x := rfl
  simp [e2, e3] at l1 l2
  simp [d__law_number, b__law_number, l2, l1, m, sgn_mul, amount]
  rfl
@[simp] theorem law_number_t (n : Nat) (h : Hv) (x : Txt) : run D WW (n + 1) f__law_number [eT x] h = .ok (.int (amount x.s), h) := law_number_ok n h x.s x.len1
theorem pow18 : (10 : Int) ^ (18 : Int).toNat = 1000000000000000000 := by decide
@[simp] theorem law_canon_t (n : Nat) (h : Hv) (x : Txt) : run D WW (n + 2) f__law_is_canonic [eT x] h = .ok (.bl (canon x.s), h) := by
  rw [run_eq d__law_is_canonic rfl rfl]
  have q : ∀ i : Int, (if i < 0 then -i else i) < 1000000000000000000 ↔ -999999999999999999 ≤ i ∧ i ≤ 999999999999999999 := fun i => by split <;> omega
  by_cases hq : -999999999999999999 ≤ amount x.s ∧ amount x.s ≤ 999999999999999999
  · have := log_small hq.1 hq.2
    simp [d__law_is_canonic, b__law_is_canonic, canon, q, hq, this, eT_def, law_number_ok n _ x.s x.len1]
  · simp [d__law_is_canonic, b__law_is_canonic, canon, q, hq]
@[simp] theorem law_place_t (n : Nat) (h : Hv) (x : Txt) : run D WW (n + 3) f__law_place [eT x] h = .ok (rk x.s, h) := by
  rw [run_eq d__law_place rfl rfl]
  by_cases h1 : x.s = []
  · simp [d__law_place, b__law_place, eT_def, h1, rk]
  · have c := fun g => law_canon_t n g x
    have d := fun g => law_number_ok (n + 1) g x.s x.len1
    simp only [eT_def] at c d
    by_cases h2 : canon x.s <;> simp [d__law_place, b__law_place, eT_def, h1, h2, rk, c, d]
@[simp] theorem law_node_place_ok (n : Nat) (h : Hv) (a : Node) : run D WW (n + 4) f__law_node_place [eN a] h = .ok (nrk a, h) := by
  rw [run_eq d__law_node_place rfl rfl]
  simp [d__law_node_place, b__law_node_place, nrk]
theorem law_sorted_ok {α : Type} (n : Nat) (h : Hv) (l : Nat) (xs : List α) (e : α → PV) (k : α → Node) (he : ∀ x g, evIdx (e x) (.int 0) g = .ok (eN (k x), g)) (hp : ∀ x, (e x).pure = true) (hl : h[l]? = some (.lst (xs.map e))) (hx : xs.length ≤ 1000000) : run D WW (n + 5) f__law_sorted [.ref l] h = .ok (.tup ((srt (fun x => nrk (k x)) xs).map e), h) := by
  rw [run_eq d__law_sorted rfl rfl]
  have := sortBy_map (fun x => nrk (k x)) e xs h (keysOk_of _ _ (fun a => nrk_key (k a)) fun a b => nrk_alk (k a) (k b)) (le_line hx)
  simp [d__law_sorted, b__law_sorted, hl, he, this, hp]
@[simp] theorem law_below_ok (n : Nat) (h : Hv) (a b : Node) : run D WW (n + 1) f__law_below [eN a, eN b] h = .ok (.bl (within a b), h) := by
  rw [run_eq d__law_below rfl rfl]
  simp [d__law_below, b__law_below, within]
@[simp] theorem law_set_ok (n : Nat) (h : Hv) (s : Store) (a : Node) (t : Txt) (hs : s.length ≤ 100000) : run D WW (n + 6) f__law_set [eS s, eN a, eT t] h = .ok (eS (put s a t), h) := by
  rw [run_eq d__law_set rfl rfl]
  have l0 := List.length_filter_le (fun p : Node × Txt => !decide (p.1 = a)) s
  have l3 : (s.filter (fun p => !decide (p.1 = a))).length ≤ 1000000 := by omega
  have l2 : (s.filter (fun p => !decide (p.1 = a))).length + 1 ≤ 1000000 := by omega
  have q := law_sorted_ok (n := n) (h := h ++ [.lst ((s.filter (fun p => !decide (p.1 = a))).map ePr), .lst [ePr (a, t)], .lst ((s.filter (fun p => !decide (p.1 = a)) ++ [(a, t)]).map ePr)]) (h.length + 2) (s.filter (fun p => !decide (p.1 = a)) ++ [(a, t)]) ePr (fun p => p.1) (fun x g => by simp) (fun x => by simp) (by simp) (by simp; omega)
  simp at q
  simp [d__law_set, b__law_set, l2, l3, q]
  rfl
end PL
set_option autoImplicit false
set_option linter.all false
namespace PL
open PySem
local macro_rules | `(thq $r $f) => `(@thx _ _ $r ⟨$f⟩)
/-! ### a law's own keys and weights -/
theorem digits_head (n : Nat) : ∃ c y, (Nat.toDigits 10 n).map Char.toNat = c :: y ∧ c ≠ 45 := by
  have h1 : Nat.toDigits 10 n ≠ [] := by
    intro h
    have := congrArg List.length h
    simp at this
  obtain ⟨d, ds, e⟩ := List.exists_cons_of_ne_nil h1
  refine ⟨d.toNat, ds.map Char.toNat, by rw [e]; rfl, ?_⟩
  have : d ∈ Nat.toDigits 10 n := by rw [e]; exact List.mem_cons_self
  have h2 := Nat.isDigit_of_mem_toDigits (by decide) (by decide) this
  intro h3
  have : d = '-' := by
    apply Char.ext
    have : d.val.toNat = 45 := h3
    exact UInt32.toNat_inj.mp this
  subst this
  exact absurd h2 (by decide)
theorem canon_neg {x : List Nat} (h : canon x = true) : amount x < 0 ↔ x.headD 0 = 45 := by
  simp only [canon, Bool.and_eq_true, decide_eq_true_eq] at h
  have e := h.2
  constructor
  · intro hn
    rw [← e]
    cases ha : amount x with
    | ofNat n => rw [ha] at hn; exact absurd hn (by simp)
    | negSucc n => rfl
  · intro hd
    rw [← e] at hd
    cases ha : amount x with
    | ofNat n =>
      rw [ha] at hd
      obtain ⟨c, y, h1, h2⟩ := digits_head n
      simp only [numText, h1] at hd
      exact absurd hd h2
    | negSucc n => exact Int.negSucc_lt_zero n
@[simp] theorem law_skey_ok (n : Nat) (h : Hv) (x : Txt) : run D WW (n + 3) f__law_subscript_key [eT x] h = .ok (.tup ((skey x.s).map .int), h) := by
  rw [run_eq d__law_subscript_key rfl rfl]
  have l0 := x.len
  have l1 : x.s.length ≤ 1000000 := by omega
  have l4 : 1 + x.s.length ≤ 1000000 := by omega
  have l2 : x.s.length + 1 + 1 ≤ 1000000 := by omega
  have l3 : x.s.length - 1 ≤ 1000000 := by omega
  have l5 : 2 + (x.s.length - 1) ≤ 1000000 := by omega
  have l6 : 2 + x.s.length ≤ 1000000 := by omega
  have c := fun g => law_canon_t (n + 0) g x
  have d := fun g => law_number_ok (n + 1) g x.s x.len1
  simp only [eT_def] at c d
  by_cases h1 : canon x.s = true
  · have hn := canon_neg h1
    by_cases h2 : x.s.headD 0 = 45
    · have h3 := hn.mpr h2
      simp at h2
      have h4 : (256 : Int) - x.s.length = 255 - ((x.s.length : Int) - 1) := by omega
      simp [d__law_subscript_key, b__law_subscript_key, eT_def, h1, skey, h2, h3, c, d, l1, l2, l3, l4, l5, h4, Function.comp_def]
    · have h3 : ¬ amount x.s < 0 := fun z => h2 (hn.mp z)
      simp at h2
      simp [d__law_subscript_key, b__law_subscript_key, eT_def, h1, skey, h2, h3, c, d, l1, l2, l6, Function.comp_def, codes]
  · simp [d__law_subscript_key, b__law_subscript_key, eT_def, h1, skey, c, d, l1, l2, l4, codes, Function.comp_def]
theorem lkey_loop (n : Nat) (h : Hv) (a : Node) : ∀ (xs : List Txt) (ac : List Int) (last : Option PV), ac.length + 300 * xs.length ≤ 1000000 →
    ∃ last', forC (stepF (run D WW (n + 3)) WW (.name 2) L1__law_key) (fun _ => true) (xs.map eT) [some (eN a), some (.tup (ac.map .int)), last, none] h = .ok (.next [some (eN a), some (.tup ((ac ++ (xs.map fun x => skey x.s).flatten).map .int)), last', none], h) := by
  intro xs
  induction xs with
  | nil => intro ac last hb; exact ⟨last, by simp [forC]⟩
  | cons x xs ih =>
    intro ac last hb
    have lx := skey_len x
    simp at hb
    obtain ⟨last', h2⟩ := ih (ac ++ skey x.s) (some (eT x)) (by simp; omega)
    refine ⟨last', ?_⟩
    have l1 : ac.length + (skey x.s).length ≤ 1000000 := by omega
    have e1 : evSs (run D WW (n + 3)) WW L1__law_key [some (eN a), some (.tup (ac.map .int)), some (eT x), none] h = .ok (.next [some (eN a), some (.tup ((ac ++ skey x.s).map .int)), some (eT x), none], h) := by
      simp [L1__law_key, l1]
    simp at e1 h2
    simp [e1, h2]
@[simp] theorem law_key_ok (n : Nat) (h : Hv) (a : Node) : run D WW (n + 4) f__law_key [eN a] h = .ok (.tup ((nkey a).map .int), h) := by
  rw [run_eq d__law_key rfl rfl]
  have l1 := a.nml
  have l2 : a.nm.length ≤ 1000000 := by omega
  have l3 : a.nm.length + 1 ≤ 1000000 := by omega
  obtain ⟨last, h2⟩ := lkey_loop n (h ++ [.lst ((codes a.nm).map .int)]) a a.subs (codes a.nm ++ [1]) none (by
    have := a.ok'.2
    simp [codes_len]; omega)
  simp [codes, Function.comp_def] at h2
  simp [d__law_key, b__law_key, l2, l3, h2, nkey, codes, Function.comp_def]
@[simp] theorem law_weight_ok (n : Nat) (h : Hv) (s : Store) (b : Node) (hs : s.length ≤ 100000) : run D WW (n + 5) f__law_weight [eS s, eN b] h = .ok (.int (win s b), h) := by
  rw [run_eq d__law_weight rfl rfl]
  have l0 := List.length_filter_le (fun p : Node × Txt => within p.1 b) s
  have l1 : (s.filter (fun p => within p.1 b)).length ≤ 1000000 := by omega
  simp [d__law_weight, b__law_weight, l1, win, wof, eT_def]
theorem headsK_eq (s : Store) (k : Nat) : headsK s k = (((s.filter fun p => decide (k ≤ p.1.subs.length)).map fun p => p.1.pre k).foldl addKey []) := by
  unfold headsK
  rw [List.foldl_map, List.foldl_filter]
  simp
theorem law_heads_ok (n : Nat) (h : Hv) (s : Store) (k : Nat) (hs : s.length ≤ 10000) : run D WW (n + 5) f__law_heads [eS s, .int k] h = .ok (.ref h.length, h ++ [.lst ((heads s k).map eN)]) := by
  rw [run_eq d__law_heads rfl rfl]
  have l3 := headsK_len s k
  have l0 := List.length_filter_le (fun p : Node × Txt => decide (k ≤ p.1.subs.length)) s
  have l1 : (s.filter (fun p => decide (k ≤ p.1.subs.length))).length ≤ 1000000 := by omega
  have pk := putAll_keys eN_inj (.int 1) ((s.filter fun p => decide (k ≤ p.1.subs.length)).map fun p => p.1.pre k) []
  rw [← headsK_eq, List.map_map] at pk
  have cast : ∀ p : Node × Txt, ((k : Int) ≤ (p.1.subs.length : Int)) = (k ≤ p.1.subs.length) := fun p => by simp
  have e := fun g : Hv => sortBy_map nrk eN (headsK s k) g (keysOk_of _ _ nrk_key nrk_alk) (le_line (by omega))
  simp [Function.comp_def] at pk
  simp [d__law_heads, b__law_heads, l1, pk, Function.comp_def, e]
  rfl
@[simp] theorem law_heads_ok1 (n : Nat) (h : Hv) (s : Store) (k : Nat) (hs : s.length ≤ 10000) : run D WW (n + 5) f__law_heads [eS s, .int ((k : Int) + 1)] h = .ok (.ref h.length, h ++ [.lst ((heads s (k + 1)).map eN)]) := law_heads_ok n h s (k + 1) hs
end PL
set_option autoImplicit false
set_option linter.all false
namespace PL
open PySem
local macro_rules | `(thq $r $f) => `(@thx _ _ $r ⟨$f⟩)
/-! ### a law's own way -/
def eNo (a : Option Node) : PV := match a with
  | some a => eN a
  | none => .non
def wayO (s : Store) (k : Nat) (a : Option Node) : List Node := match a with
  | some a => way s k a
  | none => []
theorem eN_non (a : Node) : eN a ≠ .non := by simp [eN]
theorem lway_turn (n : Nat) (h : Hv) (s : Store) (nm tn : PV) (a : Node) (ac : List Node) (l5 l6 l7 l8 : Option PV) (hs : s.length ≤ 10000) (ha : ac.length ≤ 1000) (hw : 0 < win s a) : ∃ m5 m6 g,
    evSs (run D WW (n + 6)) WW L1__law_way [some (eS s), some nm, some tn, some (eN a), some (.tup (ac.map eN)), l5, l6, l7, l8] h = .ok (.next [some (eS s), some nm, some tn, some (eNo (best s (kids s a))), some (.tup ((ac ++ [a]).map eN)), m5, m6, l7, l8], h ++ g) := by
  have l1 : ac.length + 1 ≤ 1000000 := by omega
  have hs' : s.length ≤ 100000 := by omega
  have l2 := kids_len s a
  have nn := eN_non a
  by_cases hk : kids s a = []
  · have hb : best s (kids s a) = none := by rw [hk]; rfl
    rw [hb]
    unfold kids at hk
    generalize hr : evSs (run D WW (n + 6)) WW L1__law_way [some (eS s), some nm, some tn, some (eN a), some (.tup (ac.map eN)), l5, l6, l7, l8] h = r
    simp [L1__law_way, l1, hs, hs', hk, nn, hw, eNo] at hr
    subst hr
    exact ⟨_, _, _, by simp [eNo]; exact ⟨⟨rfl, rfl⟩, rfl⟩⟩
  · obtain ⟨c, hc, _⟩ := best_some s hk
    have hb := hc
    unfold best at hb
    obtain ⟨j, j1, j2⟩ := least_idx (win s) (kids s a) c hb
    rw [hc]
    generalize hL : kids s a = L at *
    unfold kids at hL
    have l3 : L.length ≤ 1000000 := by omega
    generalize hr : evSs (run D WW (n + 6)) WW L1__law_way [some (eS s), some nm, some tn, some (eN a), some (.tup (ac.map eN)), l5, l6, l7, l8] h = r
    simp [L1__law_way, l1, hs, hs', hL, nn, hw, eNo, l3, hk, j2, j1] at hr
    subst hr
    exact ⟨_, _, _, by simp [eNo]; exact ⟨⟨rfl, rfl⟩, rfl⟩⟩
theorem way_more (s : Store) : ∀ (k : Nat) (a : Node), 8 ≤ k + a.subs.length → way s (k + 1) a = way s k a
  | 0, a, h => by have := a.ok'.2; omega
  | k + 1, a, h => by
    rw [way]
    conv => rhs; rw [way]
    split
    · cases hb : best s (kids s a) with
      | none => rfl
      | some c =>
        dsimp only
        rw [way_more s k c (by have := best_len hb; omega)]
    · rfl
theorem lway_skip (n : Nat) (h : Hv) (s : Store) (e : List (Option PV)) (a : Option Node) (hs : s.length ≤ 10000) (ha : ∀ b, a = some b → ¬ 0 < win s b) (l1 l2 l4 l5 l6 l7 l8 : Option PV) :
    evSs (run D WW (n + 6)) WW L1__law_way [some (eS s), l1, l2, some (eNo a), l4, l5, l6, l7, l8] h = .ok (.next [some (eS s), l1, l2, some (eNo a), l4, l5, l6, l7, l8], h) := by
  have hs' : s.length ≤ 100000 := by omega
  cases a with
  | none => simp [L1__law_way, eNo]
  | some b =>
    have := ha b rfl
    have nn := eN_non b
    simp [L1__law_way, eNo, nn, this, hs']
theorem lway_loop (n : Nat) (s : Store) (nm : PV) (hs : s.length ≤ 10000) : ∀ (k i : Nat) (a : Option Node) (ac : List Node) (l2 l5 l6 l7 l8 : Option PV) (h : Hv), ac.length + k ≤ 1000 →
    ∃ m2 m3 m5 m6 m7 m8 g, forC (stepF (run D WW (n + 6)) WW (.name 2) L1__law_way) (fun _ => true) ((List.range' i k).map fun (i : Nat) => PV.int i) [some (eS s), some nm, l2, some (eNo a), some (.tup (ac.map eN)), l5, l6, l7, l8] h = .ok (.next [some (eS s), some nm, m2, m3, some (.tup ((ac ++ wayO s k a).map eN)), m5, m6, m7, m8], h ++ g)
  | 0, i, a, ac, l2, l5, l6, l7, l8, h, _ => ⟨l2, some (eNo a), l5, l6, l7, l8, [], by cases a <;> simp [wayO, way]⟩
  | k + 1, i, a, ac, l2, l5, l6, l7, l8, h, hk => by
    rw [List.range'_succ]
    by_cases hp : ∃ b, a = some b ∧ 0 < win s b
    · obtain ⟨b, rfl, hw⟩ := hp
      obtain ⟨m5, m6, g, e⟩ := lway_turn n h s nm (.int i) b ac l5 l6 l7 l8 hs (by omega) hw
      obtain ⟨g', e2⟩ := gcE_ex [some (eS s), some nm, some (.int i), some (eNo (best s (kids s b))), some (.tup ((ac ++ [b]).map eN)), m5, m6, l7, l8] h g
      obtain ⟨q2, q3, q5, q6, q7, q8, g2, e3⟩ := lway_loop n s nm hs k (i + 1) (best s (kids s b)) (ac ++ [b]) (some (.int i)) m5 m6 l7 l8 (h ++ g') (by simp; omega)
      refine ⟨q2, q3, q5, q6, q7, q8, g' ++ g2, ?_⟩
      have ew : ac ++ wayO s (k + 1) (some b) = ac ++ [b] ++ wayO s k (best s (kids s b)) := by
        simp [wayO, way, hw]
        all_goals (cases best s (kids s b) <;> rfl)
      rw [ew, ← List.append_assoc, ← e3, List.map_cons, forC_cons]
      have : stepF (run D WW (n + 6)) WW (.name 2) L1__law_way (.int i) [some (eS s), some nm, l2, some (eNo (some b)), some (.tup (ac.map eN)), l5, l6, l7, l8] h = evSs (run D WW (n + 6)) WW L1__law_way [some (eS s), some nm, some (.int i), some (eN b), some (.tup (ac.map eN)), l5, l6, l7, l8] h := rfl
      rw [this, e, thx_ok, contL_next, if_pos rfl, e2]
    · have hn : ∀ b, a = some b → ¬ 0 < win s b := fun b e z => hp ⟨b, e, z⟩
      have e := lway_skip n h s [] a hs hn (some nm) (some (.int i)) (some (.tup (ac.map eN))) l5 l6 l7 l8
      obtain ⟨q2, q3, q5, q6, q7, q8, g2, e3⟩ := lway_loop n s nm hs k (i + 1) a ac (some (.int i)) l5 l6 l7 l8 h (by omega)
      refine ⟨q2, q3, q5, q6, q7, q8, g2, ?_⟩
      have ew : wayO s (k + 1) a = wayO s k a := by
        cases a with
        | none => rfl
        | some b =>
          have := hn b rfl
          cases k <;> simp [wayO, way, this]
      rw [ew, ← e3, List.map_cons, forC_cons]
      have : stepF (run D WW (n + 6)) WW (.name 2) L1__law_way (.int i) [some (eS s), some nm, l2, some (eNo a), some (.tup (ac.map eN)), l5, l6, l7, l8] h = evSs (run D WW (n + 6)) WW L1__law_way [some (eS s), some nm, some (.int i), some (eNo a), some (.tup (ac.map eN)), l5, l6, l7, l8] h := rfl
      rw [this, e, thx_ok, contL_next, if_pos rfl, gcE_self]
theorem rng_eq (k : Nat) : rngL 0 1 k = (List.range' 0 k).map fun (i : Nat) => PV.int i := by
  unfold rngL
  rw [List.range_eq_range']
  simp
theorem law_way_ok (n : Nat) (h : Hv) (s : Store) (nm : List Nat) (hn : fitsName (.str nm) = true) (hs : s.length ≤ 10000) : run D WW (n + 7) f__law_way [eS s, .str nm] h = .ok (.tup ((way s 8 (root nm hn)).map eN), h) := by
  rw [run_eq d__law_way rfl rfl]
  obtain ⟨m2, m3, m5, m6, m7, m8, g, e⟩ := lway_loop n s (.str nm) hs 9 0 (some (root nm hn)) [] none none none none none h (by simp)
  have e2 : wayO s 9 (some (root nm hn)) = way s 8 (root nm hn) := way_more s 8 _ (by omega)
  rw [e2, ← rng_eq] at e
  simp [eNo] at e
  have sm : small 9 = true := by decide
  simp [d__law_way, b__law_way, fold_root nm hn, e, sm]
end PL
set_option autoImplicit false
set_option linter.all false
namespace PL
open PySem
local macro_rules | `(thq $r $f) => `(@thx _ _ $r ⟨$f⟩)
theorem roll_ok (n : Nat) {l : Nat} {h : Hv} (c : CupAt l h) (m : Int) (h1 : 1 ≤ m) (h2 : m < 1000000) : ∃ k h', run D WW (n + 1) f__law_roll [.ref l, .int m] h = .ok (.int k, h') ∧ Step l h h' ∧ 0 ≤ k ∧ k < m := by
  rw [run_eq d__law_roll rfl rfl]
  have hl := c.lt
  have gs : ∀ o, (h.set l o)[l]? = some o := fun o => List.getElem?_set_self hl
  obtain ⟨a, b, e, b1, b2⟩ := c
  have m0 : m ≠ 0 := by omega
  have m1 : m.natAbs < 1073741824 := by omega
  by_cases hp : 0 < a
  · refine ⟨a.fmod m, h.set l (cupO (a.fdiv m) b), ?_, ⟨_, _, b1, b2, rfl⟩, Int.fmod_nonneg_of_pos _ (by omega), Int.fmod_lt_of_pos _ (by omega)⟩
    have st : Step l h (h.set l (cupO (a.fdiv m) b)) := ⟨_, _, b1, b2, rfl⟩
    have g := fun v hv => st.gcR0 (v := v) hv
    simp only [cupO] at e g ⊢
    simp [d__law_roll, b__law_roll, e, hp, m0, m1, upd, g]
  · have mr : ∀ i : Int, mulOk i 31163 = true := fun i => mulOk_r (by decide) (by decide)
    generalize hb : (b * 31163 + 8123).fmod 2147483423 = b'
    have q1 : 0 ≤ b' := by rw [← hb]; exact Int.fmod_nonneg_of_pos _ (by decide)
    have q2 : b' < 2147483423 := by rw [← hb]; exact Int.fmod_lt_of_pos _ (by decide)
    have ml : ∀ i : Int, mulOk b' i = true := fun i => mulOk_l (by omega) (by omega)
    generalize hk : (((b' * (b' + 311)).fmod 2147483587).fdiv 853).fmod m = k
    have st : Step l h (h.set l (cupO a b')) := ⟨_, _, q1, by omega, rfl⟩
    refine ⟨k, h.set l (cupO a b'), ?_, st, by rw [← hk]; exact Int.fmod_nonneg_of_pos _ (by omega), by rw [← hk]; exact Int.fmod_lt_of_pos _ (by omega)⟩
    have g := fun v hv => st.gcR0 (v := v) hv
    simp only [cupO] at e g ⊢
    simp [d__law_roll, b__law_roll, e, hp, m0, m1, upd, mr, hb, gs, ml, hk, g]
theorem some_ok (n : Nat) {l : Nat} {h : Hv} (c : CupAt l h) {m : Nat} {xs : List PV} (e : h[m]? = some (.lst xs)) (hx : xs ≠ []) (hl : xs.length ≤ 1000) (hp : PV.pures xs = true) (hm : m ≠ l) : ∃ v h', run D WW (n + 2) f__law_some [.ref l, .ref m] h = .ok (v, h') ∧ Step l h h' ∧ v ∈ xs := by
  rw [run_eq d__law_some rfl rfl]
  have h0 : 0 < xs.length := List.length_pos_iff.mpr hx
  obtain ⟨k, h', e1, st, k1, k2⟩ := roll_ok n c xs.length (by omega) (by omega)
  have e2 : h'[m]? = some (.lst xs) := by
    obtain ⟨a, b, _, _, rfl⟩ := st
    rw [List.getElem?_set_ne (fun z => hm z.symm), e]
  obtain ⟨j, rfl⟩ := Int.eq_ofNat_of_zero_le k1
  have hj : j < xs.length := by omega
  have e3 : xs[j]? = some xs[j] := List.getElem?_eq_getElem hj
  have mem : xs[j] ∈ xs := List.getElem_mem hj
  have pv := pures_memb hp _ mem
  refine ⟨xs[j], h', ?_, st, mem⟩
  generalize xs[j] = v at *
  simp [d__law_some, b__law_some, e, e1, e2, e3, st.gcR0 pv]
end PL
set_option autoImplicit false
set_option linter.all false
/-! PlOrd: the order of ranks, and of stores. -/
namespace PL
open PySem
local macro_rules | `(thq $r $f) => `(@thx _ _ $r ⟨$f⟩)
/-- a set of values that stand in a row -/
structure Lin (S : PV → Prop) : Prop where
  eq : ∀ a b, S a → S b → (eqv a b = true ↔ a = b)
  asymm : ∀ a b, S a → S b → ltv a b = true → ltv b a = false
  trans : ∀ a b c, S a → S b → S c → ltv a b = true → ltv b c = true → ltv a c = true
  total : ∀ a b, S a → S b → a ≠ b → ltv a b = true ∨ ltv b a = true
structure LinL (S : List PV → Prop) : Prop where
  eq : ∀ a b, S a → S b → (eqvs a b = true ↔ a = b)
  asymm : ∀ a b, S a → S b → ltvs a b = true → ltvs b a = false
  trans : ∀ a b c, S a → S b → S c → ltvs a b = true → ltvs b c = true → ltvs a c = true
  total : ∀ a b, S a → S b → a ≠ b → ltvs a b = true ∨ ltvs b a = true
theorem Lin.irr {S : PV → Prop} (l : Lin S) {a : PV} (h : S a) : ltv a a = false := by
  cases e : ltv a a with
  | false => rfl
  | true => have := l.asymm a a h h e; rw [e] at this; cases this
theorem lin_int : Lin (fun v => ∃ i, v = .int i) := by
  refine ⟨?_, ?_, ?_, ?_⟩
  · rintro _ _ ⟨i, rfl⟩ ⟨j, rfl⟩; simp
  · rintro _ _ ⟨i, rfl⟩ ⟨j, rfl⟩; simp; omega
  · rintro _ _ _ ⟨i, rfl⟩ ⟨j, rfl⟩ ⟨k, rfl⟩; simp; omega
  · rintro _ _ ⟨i, rfl⟩ ⟨j, rfl⟩ h; simp at h ⊢; omega
theorem lin_str : Lin (fun v => ∃ x, v = .str x) := by
  refine ⟨?_, ?_, ?_, ?_⟩
  · rintro _ _ ⟨i, rfl⟩ ⟨j, rfl⟩; simp
  · rintro _ _ ⟨i, rfl⟩ ⟨j, rfl⟩; simp only [ltv_ss, decide_eq_true_eq, decide_eq_false_iff_not]; exact fun h g => List.lt_irrefl _ (List.lt_trans h g)
  · rintro _ _ _ ⟨i, rfl⟩ ⟨j, rfl⟩ ⟨k, rfl⟩; simp only [ltv_ss, decide_eq_true_eq]; exact List.lt_trans
  · rintro _ _ ⟨i, rfl⟩ ⟨j, rfl⟩ h
    simp only [ltv_ss, decide_eq_true_eq]
    have h : i ≠ j := fun e => h (by rw [e])
    by_cases g : i < j
    · exact .inl g
    · right
      rcases List.le_iff_lt_or_eq.mp (List.not_lt.mp g) with q | q
      · exact q
      · exact absurd q.symm h
theorem linL_nil : LinL (fun xs => xs = []) := by
  refine ⟨?_, ?_, ?_, ?_⟩
  · rintro _ _ rfl rfl; simp
  · rintro _ _ rfl rfl; simp
  · rintro _ _ _ rfl rfl rfl; simp
  · rintro _ _ rfl rfl h; exact absurd rfl h
theorem ltvs_c {S : PV → Prop} (l : Lin S) {x y : PV} (hx : S x) (hy : S y) (xs ys : List PV) : ltvs (x :: xs) (y :: ys) = true ↔ (x = y ∧ ltvs xs ys = true) ∨ ltv x y = true := by
  rw [ltvs_cc]
  by_cases e : x = y
  · subst e
    rw [if_pos ((l.eq x x hx hx).mpr rfl), l.irr hx]
    simp
  · have : ¬ eqv x y = true := fun z => e ((l.eq x y hx hy).mp z)
    rw [if_neg this]
    simp [e]
theorem linL_cons {S : PV → Prop} {T : List PV → Prop} (l : Lin S) (m : LinL T) : LinL (fun v => ∃ x xs, v = x :: xs ∧ S x ∧ T xs) := by
  refine ⟨?_, ?_, ?_, ?_⟩
  · rintro _ _ ⟨x, xs, rfl, hx, hxs⟩ ⟨y, ys, rfl, hy, hys⟩
    rw [eqvs_cc, Bool.and_eq_true, l.eq x y hx hy, m.eq xs ys hxs hys, List.cons.injEq]
  · rintro _ _ ⟨x, xs, rfl, hx, hxs⟩ ⟨y, ys, rfl, hy, hys⟩ h
    rw [Bool.eq_false_iff]
    intro g
    rw [ltvs_c l hx hy] at h
    rw [ltvs_c l hy hx] at g
    rcases h with ⟨rfl, h⟩ | h <;> rcases g with ⟨e, g⟩ | g
    · have := m.asymm _ _ hxs hys h; rw [g] at this; cases this
    · rw [l.irr hx] at g; cases g
    · subst e; rw [l.irr hx] at h; cases h
    · have := l.asymm _ _ hx hy h; rw [g] at this; cases this
  · rintro _ _ _ ⟨x, xs, rfl, hx, hxs⟩ ⟨y, ys, rfl, hy, hys⟩ ⟨z, zs, rfl, hz, hzs⟩ h g
    rw [ltvs_c l hx hy] at h
    rw [ltvs_c l hy hz] at g
    rw [ltvs_c l hx hz]
    rcases h with ⟨rfl, h⟩ | h <;> rcases g with ⟨rfl, g⟩ | g
    · exact .inl ⟨rfl, m.trans _ _ _ hxs hys hzs h g⟩
    · exact .inr g
    · exact .inr h
    · exact .inr (l.trans _ _ _ hx hy hz h g)
  · rintro _ _ ⟨x, xs, rfl, hx, hxs⟩ ⟨y, ys, rfl, hy, hys⟩ h
    rw [ltvs_c l hx hy, ltvs_c l hy hx]
    by_cases e : x = y
    · subst e
      have : xs ≠ ys := fun z => h (by rw [z])
      rcases m.total _ _ hxs hys this with q | q
      · exact .inl (.inl ⟨rfl, q⟩)
      · exact .inr (.inl ⟨rfl, q⟩)
    · rcases l.total _ _ hx hy e with q | q
      · exact .inl (.inr q)
      · exact .inr (.inr q)
theorem linL_star {S : PV → Prop} (l : Lin S) : LinL (fun v => ∀ x ∈ v, S x) := by
  have hd : ∀ {x : PV} {xs : List PV}, (∀ y ∈ x :: xs, S y) → S x ∧ ∀ y ∈ xs, S y := fun h => ⟨h _ List.mem_cons_self, fun y hy => h y (List.mem_cons_of_mem _ hy)⟩
  refine ⟨?_, ?_, ?_, ?_⟩
  · intro a
    induction a with
    | nil => intro b _ _; cases b <;> simp
    | cons x xs ih =>
      intro b ha hb
      cases b with
      | nil => simp
      | cons y ys => rw [eqvs_cc, Bool.and_eq_true, l.eq x y (hd ha).1 (hd hb).1, ih ys (hd ha).2 (hd hb).2, List.cons.injEq]
  · intro a
    induction a with
    | nil => intro b _ _ _; cases b <;> simp
    | cons x xs ih =>
      intro b ha hb h
      cases b with
      | nil => simp at h
      | cons y ys =>
        rw [Bool.eq_false_iff]
        intro g
        rw [ltvs_c l (hd ha).1 (hd hb).1] at h
        rw [ltvs_c l (hd hb).1 (hd ha).1] at g
        rcases h with ⟨rfl, h⟩ | h <;> rcases g with ⟨e, g⟩ | g
        · have := ih ys (hd ha).2 (hd hb).2 h; rw [g] at this; cases this
        · rw [l.irr (hd ha).1] at g; cases g
        · subst e; rw [l.irr (hd ha).1] at h; cases h
        · have := l.asymm _ _ (hd ha).1 (hd hb).1 h; rw [g] at this; cases this
  · intro a
    induction a with
    | nil =>
      intro b c _ _ _ h g
      cases b with
      | nil => exact g
      | cons y ys => cases c <;> simp at g ⊢
    | cons x xs ih =>
      intro b c ha hb hc h g
      cases b with
      | nil => simp at h
      | cons y ys =>
        cases c with
        | nil => simp at g
        | cons z zs =>
          rw [ltvs_c l (hd ha).1 (hd hb).1] at h
          rw [ltvs_c l (hd hb).1 (hd hc).1] at g
          rw [ltvs_c l (hd ha).1 (hd hc).1]
          rcases h with ⟨rfl, h⟩ | h <;> rcases g with ⟨rfl, g⟩ | g
          · exact .inl ⟨rfl, ih ys zs (hd ha).2 (hd hb).2 (hd hc).2 h g⟩
          · exact .inr g
          · exact .inr h
          · exact .inr (l.trans _ _ _ (hd ha).1 (hd hb).1 (hd hc).1 h g)
  · intro a
    induction a with
    | nil =>
      intro b _ _ h
      cases b with
      | nil => exact absurd rfl h
      | cons y ys => left; simp
    | cons x xs ih =>
      intro b ha hb h
      cases b with
      | nil => right; simp
      | cons y ys =>
        rw [ltvs_c l (hd ha).1 (hd hb).1, ltvs_c l (hd hb).1 (hd ha).1]
        by_cases e : x = y
        · subst e
          have : xs ≠ ys := fun z => h (by rw [z])
          rcases ih ys (hd ha).2 (hd hb).2 this with q | q
          · exact .inl (.inl ⟨rfl, q⟩)
          · exact .inr (.inl ⟨rfl, q⟩)
        · rcases l.total _ _ (hd ha).1 (hd hb).1 e with q | q
          · exact .inl (.inr q)
          · exact .inr (.inr q)
theorem lin_tup {S : List PV → Prop} (l : LinL S) : Lin (fun v => ∃ xs, v = .tup xs ∧ S xs) := by
  refine ⟨?_, ?_, ?_, ?_⟩
  · rintro _ _ ⟨x, rfl, hx⟩ ⟨y, rfl, hy⟩; rw [eqv_tt, l.eq x y hx hy, PV.tup.injEq]
  · rintro _ _ ⟨x, rfl, hx⟩ ⟨y, rfl, hy⟩ h; rw [ltv_tt] at *; exact l.asymm x y hx hy h
  · rintro _ _ _ ⟨x, rfl, hx⟩ ⟨y, rfl, hy⟩ ⟨z, rfl, hz⟩ h g; rw [ltv_tt] at *; exact l.trans x y z hx hy hz h g
  · rintro _ _ ⟨x, rfl, hx⟩ ⟨y, rfl, hy⟩ h; rw [ltv_tt, ltv_tt]; exact l.total x y hx hy fun e => h (by rw [e])
/-! ### ranks -/
def RkS (v : PV) : Prop := ∃ xs, v = .tup xs ∧ ∃ x ys, xs = x :: ys ∧ (∃ i, x = .int i) ∧ ∃ y zs, ys = y :: zs ∧ (∃ i, y = .int i) ∧ ∃ z ws, zs = z :: ws ∧ (∃ i, z = .str i) ∧ ws = []
theorem lin_rk : Lin RkS := lin_tup (linL_cons lin_int (linL_cons lin_int (linL_cons lin_str linL_nil)))
theorem rk_in (x : List Nat) : RkS (rk x) := by
  unfold rk
  split
  · exact ⟨_, rfl, _, _, rfl, ⟨_, rfl⟩, _, _, rfl, ⟨_, rfl⟩, _, _, rfl, ⟨_, rfl⟩, rfl⟩
  · split <;> exact ⟨_, rfl, _, _, rfl, ⟨_, rfl⟩, _, _, rfl, ⟨_, rfl⟩, _, _, rfl, ⟨_, rfl⟩, rfl⟩
def NrS (v : PV) : Prop := ∃ xs, v = .tup xs ∧ ∃ x ys, xs = x :: ys ∧ (∃ i, x = .str i) ∧ ∃ y zs, ys = y :: zs ∧ (∃ q, y = .tup q ∧ ∀ z ∈ q, RkS z) ∧ zs = []
theorem lin_nr : Lin NrS := lin_tup (linL_cons lin_str (linL_cons (lin_tup (linL_star lin_rk)) linL_nil))
theorem nrk_in (a : Node) : NrS (nrk a) := by
  refine ⟨_, rfl, _, _, rfl, ⟨_, rfl⟩, _, _, rfl, ⟨_, rfl, fun z hz => ?_⟩, rfl⟩
  obtain ⟨t, _, rfl⟩ := List.mem_map.mp hz
  exact rk_in t.s
theorem rk_inj {x y : List Nat} (h : rk x = rk y) : x = y := by
  unfold rk at h
  by_cases hx : x = [] <;> by_cases hy : y = []
  · rw [hx, hy]
  · rw [if_pos hx, if_neg hy] at h
    split at h <;> simp at h
  · rw [if_neg hx, if_pos hy] at h
    split at h <;> simp at h
  · rw [if_neg hx, if_neg hy] at h
    by_cases cx : canon x <;> by_cases cy : canon y <;> simp [cx, cy] at h
    · simp only [canon, Bool.and_eq_true, decide_eq_true_eq] at cx cy
      rw [← cx.2, ← cy.2, h]
    · exact h
theorem nrk_inj {a b : Node} (h : nrk a = nrk b) : a = b := by
  unfold nrk at h
  simp only [PV.tup.injEq, List.cons.injEq, PV.str.injEq, and_true] at h
  refine Node.inj.mp ⟨h.1, ?_⟩
  have h2 := h.2
  have : ∀ xs ys : List Txt, (xs.map fun x => rk x.s) = ys.map (fun x => rk x.s) → xs = ys := by
    intro xs
    induction xs with
    | nil => intro ys e; cases ys <;> simp at e ⊢
    | cons x xs ih =>
      intro ys e
      cases ys with
      | nil => simp at e
      | cons y ys =>
        simp only [List.map_cons, List.cons.injEq] at e
        rw [Txt.inj.mp (rk_inj e.1), ih ys e.2]
  exact this _ _ h2
/-! ### what is sorted -/
def nlt (a b : Node) : Bool := ltv (nrk a) (nrk b)
theorem nlt_trans {a b c : Node} (h : nlt a b = true) (g : nlt b c = true) : nlt a c = true := lin_nr.trans _ _ _ (nrk_in a) (nrk_in b) (nrk_in c) h g
theorem nlt_asymm {a b : Node} (h : nlt a b = true) : nlt b a = false := lin_nr.asymm _ _ (nrk_in a) (nrk_in b) h
theorem nlt_irr (a : Node) : nlt a a = false := lin_nr.irr (nrk_in a)
theorem nlt_total {a b : Node} (h : a ≠ b) : nlt a b = true ∨ nlt b a = true := lin_nr.total _ _ (nrk_in a) (nrk_in b) fun e => h (nrk_inj e)
theorem srt_pairwise {α : Type} (k : α → Node) (xs : List α) : (srt (fun x => nrk (k x)) xs).Pairwise fun a b => nlt (k b) (k a) = false := by
  have := List.pairwise_mergeSort (le := fun a b : α => !ltv (nrk (k b)) (nrk (k a))) (fun a b c h1 h2 => ?_) (fun a b => ?_) xs
  · refine List.Pairwise.imp (fun {a b} h => ?_) this
    simpa [nlt] using h
  · simp only [Bool.not_eq_true'] at h1 h2 ⊢
    rw [Bool.eq_false_iff] at h1 h2 ⊢
    intro h3
    have h3 : nlt (k c) (k a) = true := h3
    by_cases e : k a = k b
    · rw [e] at h3; exact h2 h3
    · rcases nlt_total e with q | q
      · exact h2 (nlt_trans h3 q)
      · exact h1 q
  · cases h : ltv (nrk (k b)) (nrk (k a)) with
    | false => rfl
    | true =>
      have : ltv (nrk (k a)) (nrk (k b)) = false := nlt_asymm (a := k b) (b := k a) h
      simp [this]
theorem srt_strict {α : Type} (k : α → Node) (xs : List α) (h : (xs.map k).Nodup) : (srt (fun x => nrk (k x)) xs).Pairwise fun a b => nlt (k a) (k b) = true := by
  have h1 := srt_pairwise k xs
  have h2 : ((srt (fun x => nrk (k x)) xs).map k).Nodup := ((List.mergeSort_perm xs _).map k).nodup_iff.mpr h
  have h3 : (srt (fun x => nrk (k x)) xs).Pairwise fun a b => k a ≠ k b := List.pairwise_map.mp h2
  refine List.Pairwise.imp (fun {a b} q => ?_) (h1.and h3)
  rcases nlt_total q.2 with z | z
  · exact z
  · rw [q.1] at z; cases z
theorem zip_up {α : Type} (r : α → α → Bool) (tr : ∀ a b c, r a b = true → r b c = true → r a c = true) : ∀ xs : List α, ((xs.zip xs.tail).all fun q => r q.1 q.2) = true ↔ xs.Pairwise fun a b => r a b = true
  | [] => by simp
  | [x] => by simp
  | x :: y :: xs => by
    have ih := zip_up r tr (y :: xs)
    simp only [List.tail_cons, List.zip_cons_cons, List.all_cons, Bool.and_eq_true] at ih ⊢
    rw [ih, List.pairwise_cons (a := x)]
    constructor
    · rintro ⟨h1, h2⟩
      refine ⟨fun z hz => ?_, h2⟩
      rcases List.mem_cons.mp hz with rfl | hz
      · exact h1
      · exact tr _ _ _ h1 ((List.pairwise_cons.mp h2).1 z hz)
    · rintro ⟨h1, h2⟩
      exact ⟨h1 y List.mem_cons_self, h2⟩
theorem upB_iff (s : Store) : upB s = true ↔ s.Pairwise fun p q => nlt p.1 q.1 = true := zip_up (fun p q : Node × Txt => nlt p.1 q.1) (fun _ _ _ => nlt_trans) s
theorem up_nodup {α : Type} {k : α → Node} {xs : List α} (h : xs.Pairwise fun a b => nlt (k a) (k b) = true) : (xs.map k).Nodup := by
  refine List.pairwise_map.mpr (List.Pairwise.imp (fun {a b} q e => ?_) h)
  rw [e, nlt_irr] at q
  cases q
theorem mem_put {s : Store} {a : Node} {t : Txt} {p : Node × Txt} : p ∈ put s a t ↔ p = (a, t) ∨ (p ∈ s ∧ p.1 ≠ a) := by
  unfold put srt
  rw [List.mem_mergeSort, List.mem_append, List.mem_filter, List.mem_singleton]
  simp
  constructor
  · rintro (h | h)
    · exact .inr h
    · exact .inl h
  · rintro (h | h)
    · exact .inr h
    · exact .inl h
theorem upB_put {s : Store} (h : upB s = true) (a : Node) (t : Txt) : upB (put s a t) = true := by
  rw [upB_iff] at h ⊢
  have h1 := up_nodup (k := fun p : Node × Txt => p.1) h
  refine srt_strict (fun p : Node × Txt => p.1) _ ?_
  rw [List.map_append, List.nodup_append]
  refine ⟨?_, by simp, ?_⟩
  · exact (List.filter_sublist.map _).nodup h1
  · intro x hx y hy e
    obtain ⟨p, hp, rfl⟩ := List.mem_map.mp hx
    obtain ⟨q, hq, rfl⟩ := List.mem_map.mp hy
    rw [List.mem_singleton.mp hq] at e
    have := (List.mem_filter.mp hp).2
    simp [e] at this
end PL
set_option autoImplicit false
set_option linter.all false
namespace PL
open PySem
local macro_rules | `(thq $r $f) => `(@thx _ _ $r ⟨$f⟩)
/-- a draw of some things, at the end of the heap -/
theorem pick_ok (n : Nat) {l : Nat} {h : Hv} (c : CupAt l h) (g : Hv) (xs : List PV) (hx : xs ≠ []) (hl : xs.length ≤ 1000) (hp : PV.pures xs = true) : ∃ v h', run D WW (n + 2) f__law_some [.ref l, .ref (h.length + g.length)] (h ++ (g ++ [.lst xs])) = .ok (v, h' ++ (g ++ [.lst xs])) ∧ Step l h h' ∧ v ∈ xs := by
  have e : (h ++ (g ++ [PL.PO.lst xs]))[h.length + g.length]? = some (.lst xs) := by simp
  obtain ⟨v, h1, e1, st, m⟩ := some_ok n (c.app (g ++ [.lst xs])) e hx hl hp (by have := c.lt; omega)
  obtain ⟨h', rfl, st'⟩ := st.app c
  exact ⟨v, h', e1, st', m⟩
theorem pick0_ok (n : Nat) {l : Nat} {h : Hv} (c : CupAt l h) (xs : List PV) (hx : xs ≠ []) (hl : xs.length ≤ 1000) (hp : PV.pures xs = true) : ∃ v h', run D WW (n + 2) f__law_some [.ref l, .ref h.length] (h ++ [.lst xs]) = .ok (v, h' ++ [.lst xs]) ∧ Step l h h' ∧ v ∈ xs := pick_ok n c [] xs hx hl hp
/-- a row of draws -/
theorem mapCm_step {α : Type} {l : Nat} {P : PV → Prop} {f : α → Hv → R (Option PV)} {ok : Hv → Bool} (hk : ∀ g, ok g = true) (hf : ∀ x h, CupAt l h → ∃ v h' g, f x h = .ok (some v, h' ++ g) ∧ Step l h h' ∧ v.pure = true ∧ P v) : ∀ (xs : List α) (h : Hv), CupAt l h → ∃ vs h', mapCm f ok xs h = .ok (vs, h') ∧ Step l h h' ∧ vs.length = xs.length ∧ ∀ v ∈ vs, v.pure = true ∧ P v
  | [], h, c => ⟨[], h, rfl, c.refl, rfl, fun _ z => nomatch z⟩
  | x :: xs, h, c => by
    obtain ⟨v, h1, g, e1, s1, p1, p2⟩ := hf x h c
    obtain ⟨vs, h2, e2, s2, l2, q⟩ := mapCm_step hk hf xs h1 (s1.cup c)
    refine ⟨v :: vs, h2, ?_, s1.trans s2, by simp [l2], fun z hz => ?_⟩
    · rw [mapCm_cons, e1, thx_ok, pickV_some, s1.gcR p1, if_pos (hk _), e2, thx_ok]
    · rcases List.mem_cons.mp hz with rfl | hz
      · exact ⟨p1, p2⟩
      · exact q z hz
theorem subs_lift {vs : List PV} (h : ∀ v ∈ vs, fitsSub v = true) : ∃ ts : List Txt, vs = ts.map eT := by
  induction vs with
  | nil => exact ⟨[], rfl⟩
  | cons x xs ih =>
    obtain ⟨ts, rfl⟩ := ih fun y hy => h y (List.mem_cons_of_mem _ hy)
    have := h x List.mem_cons_self
    cases x <;> first | (simp [fitsSub] at this; done) | skip
    rename_i s
    simp only [fitsSub, Bool.and_eq_true] at this
    exact ⟨⟨s, this.1⟩ :: ts, rfl⟩
theorem node_of {nm : PV} {vs : List PV} (hn : fitsName nm = true) (hl : vs.length ≤ 7) (hv : ∀ v ∈ vs, fitsSub v = true ∧ slen v ≤ 14) : ∃ a : Node, PV.tup [nm, .tup vs] = eN a := by
  obtain ⟨ts, rfl⟩ := subs_lift fun v h => (hv v h).1
  cases nm <;> first | (simp [fitsName] at hn; done) | skip
  rename_i nm
  have hs : ∀ xs : List PV, (∀ v ∈ xs, slen v ≤ 14) → (xs.map slen).sum ≤ 14 * xs.length := by
    intro xs
    induction xs with
    | nil => intro _; simp
    | cons x xs ih =>
      intro h
      have := ih fun v hv => h v (List.mem_cons_of_mem _ hv)
      have := h x List.mem_cons_self
      simp; omega
  have h2 := hs _ fun v h => (hv v h).2
  have h3 : fitsNode (.tup [.str nm, .tup (ts.map eT)]) = true := by
    simp only [fitsNode, fitsSubs, hn, Bool.true_and, Bool.and_eq_true, decide_eq_true_eq, List.all_eq_true]
    refine ⟨⟨hl, fun v h => (hv v h).1⟩, by omega⟩
  exact ⟨⟨nm, ts, h3⟩, rfl⟩
theorem sub_pick (n : Nat) {l : Nat} (x : PV) (g : Hv) (cg : CupAt l g) : ∃ v h' j, (fun (x : PV) (g : Hv) => thq (run D WW (n + 2) f__law_some [.ref l, .ref (List.length g)] (g ++ [.lst [.str [49], .str [50], .str [49, 48], .str [45, 51], .str [120]]])) fun y g2 => (.ok (some y, g2) : R (Option PV))) x g = .ok (some v, h' ++ j) ∧ Step l g h' ∧ v.pure = true ∧ (fitsSub v = true ∧ slen v ≤ 14) := by
  obtain ⟨v, h', e, s, m⟩ := pick0_ok n cg [.str [49], .str [50], .str [49, 48], .str [45, 51], .str [120]] (by simp) (by simp) (by simp)
  refine ⟨v, h', [.lst [.str [49], .str [50], .str [49, 48], .str [45, 51], .str [120]]], by simp only [e, thx_ok], s, ?_⟩
  simp at m
  rcases m with rfl | rfl | rfl | rfl | rfl <;> exact ⟨by simp, by decide, by decide⟩
theorem name_pick {v1 : PV} (m1 : v1 ∈ [PV.str [97], PV.str [97], PV.str [97], PV.str [98]]) : fitsName v1 = true ∧ v1.pure = true := by
  simp at m1
  rcases m1 with rfl | rfl <;> exact ⟨by decide, by simp⟩
theorem small_le {k : Nat} (h : k ≤ 1000000) : small k = true := by
  unfold small
  rw [decide_eq_true_eq]
  omega
theorem tree_node_ok (n : Nat) {l : Nat} {h : Hv} (c : CupAt l h) : ∃ a h', run D WW (n + 3) f__law_tree_node [.ref l] h = .ok (eN a, h') ∧ Step l h h' := by
  rw [run_eq d__law_tree_node rfl rfl]
  obtain ⟨v1, h1, e1, s1, m1⟩ := pick0_ok n c [.str [97], .str [97], .str [97], .str [98]] (by simp) (by simp) (by simp)
  have c1 := s1.cup c
  have L1 := s1.len
  obtain ⟨v2, h2, e2, s2, m2⟩ := pick_ok n c1 [.lst [.str [97], .str [97], .str [97], .str [98]]] [.int 0, .int 1, .int 2, .int 2, .int 3] (by simp) (by simp) (by simp)
  have L2 := s2.len
  have c2 := s2.cup c1
  have hk : ∃ k : Nat, v2 = .int k ∧ k ≤ 3 := by
    simp at m2
    rcases m2 with rfl | rfl | rfl | rfl
    · exact ⟨0, rfl, by decide⟩
    · exact ⟨1, rfl, by decide⟩
    · exact ⟨2, rfl, by decide⟩
    · exact ⟨3, rfl, by decide⟩
  obtain ⟨k, rfl, hk⟩ := hk
  have sm : small k = true := small_le (by omega)
  obtain ⟨vs, h3, e3, s3, l3, q3⟩ := mapCm_step (ok := fun _ => true) (fun _ => rfl) (sub_pick n) (rngL 0 1 k) _ (c2.app [.lst [.str [97], .str [97], .str [97], .str [98]], .lst [.int 0, .int 1, .int 2, .int 2, .int 3]])
  obtain ⟨h4, rfl, s4⟩ := s3.app c2
  have l4 : vs.length = k := by rw [l3]; simp [rngL]
  have l5 : vs.length ≤ 1000000 := by omega
  have pv : PV.pures vs = true := pures_by fun v hv => (q3 v hv).1
  have n1 := name_pick m1
  obtain ⟨a, ha⟩ := node_of n1.1 (by omega) fun v hv => (q3 v hv).2
  have st := (s1.trans s2).trans s4
  refine ⟨a, h4, ?_, st⟩
  have g := fun j => st.gcR (eN_pure a) j
  simp at e1 e2 e3
  simp -implicitDefEqProofs [d__law_tree_node, b__law_tree_node, e1, e2, sm, e3, l5, ha, g]
theorem repN_fits (k c : Nat) (hk : k ≤ 255) (hc : okSign c = true) : fitsText (.str (repN k [c])) = true := by
  have h1 : repN k [c] = List.replicate k c := by
    unfold repN
    induction k with
    | zero => rfl
    | succ k ih => rw [List.replicate_succ, List.flatten_cons, ih (by omega), List.replicate_succ]; rfl
  rw [h1]
  simp [fitsText, hk, hc]
theorem text_pick {k : Nat} (hk : k ≤ 255) {v : PV} (h : v ∈ [PV.str [], .str [120], .str (repN 9 [121]), .str (repN k [122])]) : ∃ t : Txt, v = eT t := by
  simp at h
  rcases h with rfl | rfl | rfl | rfl
  · exact ⟨⟨[], by decide⟩, rfl⟩
  · exact ⟨⟨[120], by decide⟩, rfl⟩
  · exact ⟨⟨repN 9 [121], repN_fits 9 121 (by decide) (by decide)⟩, rfl⟩
  · exact ⟨⟨repN k [122], repN_fits k 122 hk (by decide)⟩, rfl⟩
theorem put_len (s : Store) (a : Node) (t : Txt) : (put s a t).length ≤ s.length + 1 := srtL_len s a t
theorem tstore_turn (n : Nat) {l : Nat} {h : Hv} (c : CupAt l h) (s : Store) (m tn : PV) (hs : s.length ≤ 100) : ∃ a t h' g, evSs (run D WW (n + 6)) WW L1__law_tree_store [some (.ref l), some m, some (eS s), some tn] h = .ok (.next [some (.ref l), some m, some (eS (put s a t)), some tn], h' ++ g) ∧ Step l h h' := by
  obtain ⟨a, h1, e1, s1⟩ := tree_node_ok (n + 3) c
  have c1 := s1.cup c
  obtain ⟨k, h2, e2, s2, k1, k2⟩ := roll_ok (n + 5) c1 60 (by decide) (by decide)
  obtain ⟨k, rfl⟩ := Int.eq_ofNat_of_zero_le k1
  have c2 := s2.cup c1
  obtain ⟨v, h3, e3, s3, m3⟩ := pick0_ok (n + 4) c2 [.str [], .str [120], .str (repN 9 [121]), .str (repN k [122])] (by simp) (by simp) (by simp)
  obtain ⟨t, rfl⟩ := text_pick (by omega) m3
  refine ⟨a, t, h3, [.lst [.str [], .str [120], .str (repN 9 [121]), .str (repN k [122])]], ?_, (s1.trans s2).trans s3⟩
  have r1 : k < 2 ^ 62 := by omega
  have r2 : k ≤ 1000000 := by omega
  have hs' : s.length ≤ 100000 := by omega
  have r3 : ((k : Int) < 4611686018427387904) := by omega
  have r4 : (-4611686018427387904 < (k : Int)) := by omega
  simp -implicitDefEqProofs [L1__law_tree_store, e1, e2, e3, r2, r3, r4, hs']
theorem tree_store_ok (n : Nat) {l : Nat} {h : Hv} (c : CupAt l h) (m : Nat) (hm : m ≤ 90) : ∃ s h', run D WW (n + 7) f__law_tree_store [.ref l, .int m] h = .ok (eS s, h') ∧ Step l h h' ∧ s.length ≤ m ∧ upB s = true := by
  rw [run_eq d__law_tree_store rfl rfl]
  obtain ⟨k, h1, e1, s1, k1, k2⟩ := roll_ok (n + 5) c ((m : Int) + 1) (by omega) (by omega)
  obtain ⟨k, rfl⟩ := Int.eq_ofNat_of_zero_le k1
  have c1 := s1.cup c
  have lp := forC_inv (f := stepF (run D WW (n + 6)) WW (.name 3) L1__law_tree_store) (ok := fun _ => true) (e := fun (i : Nat) => PV.int i)
    (fun rest env g => ∃ s last, env = [some (.ref l), some (.int m), some (eS s), last] ∧ Step l h1 g ∧ upB s = true ∧ s.length + rest.length ≤ m) (by
      rintro x rest env g ⟨s, last, rfl, st, up, hl⟩
      simp at hl
      obtain ⟨a, t, h', j, e, st'⟩ := tstore_turn n (st.cup c1) s (.int m) (.int x) (by omega)
      refine ⟨_, _, e, rfl, put s a t, _, rfl, ?_, upB_put up a t, by have := put_len s a t; omega⟩
      rw [st'.gcE]
      · exact st.trans st'
      · have := c1.lt
        have := st.len
        simp; omega) (List.range' 0 k) [some (.ref l), some (.int m), some (eS []), none] h1 ⟨[], none, rfl, c1.refl, by decide, by simp; omega⟩
  obtain ⟨env, h2, e2, s, last, rfl, s2, up, hl⟩ := lp
  rw [← rng_eq] at e2
  have st := s1.trans s2
  refine ⟨s, h2, ?_, st, by simpa using hl, up⟩
  have sm : small k = true := small_le (by omega)
  have es : eS [] = .tup [] := rfl
  rw [es] at e2
  simp -implicitDefEqProofs [d__law_tree_store, b__law_tree_store, e1, e2, sm, st.gcR0]
/-! ### quotas that are drawn -/
def kv (p : Node × Int) : PV × PV := (eN p.1, .int p.2)
def kvD (q : Quotas) : PL.PO := .dct (q.map kv)
def putQ (a : Node) (v : Int) : Quotas → Quotas
  | [] => [(a, v)]
  | p :: ps => if p.1 = a then (p.1, v) :: ps else p :: putQ a v ps
theorem putQ_kv (a : Node) (v : Int) : ∀ q : Quotas, putAt (eN a) (.int v) (q.map kv) = (putQ a v q).map kv
  | [] => rfl
  | p :: ps => by
    have ih := putQ_kv a v ps
    rw [List.map_cons, putAt, putQ]
    by_cases h : p.1 = a
    · rw [if_pos h]
      simp [kv, h]
    · have h1 : ¬ eN p.1 = eN a := fun z => h (eN_inj _ _ z)
      rw [if_neg h]
      simp [kv, h1]
      exact ih
theorem putQ_len (a : Node) (v : Int) : ∀ q : Quotas, (putQ a v q).length ≤ q.length + 1
  | [] => by simp [putQ]
  | p :: ps => by
    have := putQ_len a v ps
    rw [putQ]
    split <;> simp <;> omega
theorem putQ_mem {a : Node} {v : Int} : ∀ {q : Quotas} {p : Node × Int}, p ∈ putQ a v q → p = (a, v) ∨ p ∈ q
  | [], p, h => by simp [putQ] at h; exact .inl h
  | x :: xs, p, h => by
    rw [putQ] at h
    split at h
    · rename_i e
      rcases List.mem_cons.mp h with h | h
      · exact .inl (by rw [h, e])
      · exact .inr (List.mem_cons_of_mem _ h)
    · rcases List.mem_cons.mp h with h | h
      · exact .inr (by rw [h]; exact List.mem_cons_self)
      · exact (putQ_mem h).imp id (List.mem_cons_of_mem _)
theorem putQ_nodup {a : Node} {v : Int} : ∀ {q : Quotas}, (q.map (·.1)).Nodup → ((putQ a v q).map (·.1)).Nodup
  | [], _ => by simp [putQ]
  | x :: xs, h => by
    rw [List.map_cons, List.nodup_cons] at h
    rw [putQ]
    split
    · rw [List.map_cons, List.nodup_cons]; exact h
    · rename_i e
      rw [List.map_cons, List.nodup_cons]
      refine ⟨fun z => ?_, putQ_nodup h.2⟩
      obtain ⟨p, hp, e2⟩ := List.mem_map.mp z
      rcases putQ_mem hp with rfl | q
      · exact e e2.symm
      · exact h.1 (List.mem_map.mpr ⟨p, q, e2⟩)
theorem kind_kv (q : Quotas) (a : Node) : kindOk (q.map kv) (eN a) = true := by
  unfold kindOk
  simp [kv]
theorem nkey_len (a : Node) : (nkey a).length ≤ 2200 := by
  have h1 := a.nml
  have h2 := a.ok'.2
  have : ∀ xs : List Txt, ((xs.map fun x => skey x.s).flatten).length ≤ 300 * xs.length := by
    intro xs
    induction xs with
    | nil => simp
    | cons x xs ih =>
      have := skey_len x
      simp at ih ⊢; omega
  have := this a.subs
  unfold nkey
  simp [codes_len] at this ⊢
  omega
theorem wof_le (a : Node) (t : Txt) : 0 < wof a t ∧ wof a t ≤ 3000 := by
  have := nkey_len a
  have := t.len
  unfold wof
  omega
theorem win_le (s : Store) (b : Node) : 0 ≤ win s b ∧ win s b ≤ 3000 * s.length := by
  have h : ∀ s : Store, 0 ≤ (s.map fun p => wof p.1 p.2).sum ∧ (s.map fun p => wof p.1 p.2).sum ≤ 3000 * s.length := by
    intro s
    induction s with
    | nil => simp
    | cons p s ih =>
      have := wof_le p.1 p.2
      simp; omega
  have h1 := h (s.filter fun p => within p.1 b)
  have h2 := List.length_filter_le (fun p : Node × Txt => within p.1 b) s
  unfold win
  omega
theorem quotas_turn (n : Nat) {l m : Nat} {h : Hv} (c : CupAt l h) (hm : h.length = m) (s : Store) (q : Quotas) (tn : PV) (l4 l5 : Option PV) (hs : s.length ≤ 20) (hq : q.length ≤ 100) : ∃ a v w h' g, evSs (run D WW (n + 6)) WW L1__law_quotas [some (.ref l), some (eS s), some (.ref m), some tn, l4, l5] (h ++ [kvD q]) = .ok (.next [some (.ref l), some (eS s), some (.ref m), some tn, some (eN a), some (.int w)], h' ++ kvD (putQ a v q) :: g) ∧ Step l h h' ∧ 0 ≤ v ∧ v ≤ 200000 := by
  obtain ⟨a, x1, e1, s1⟩ := tree_node_ok (n + 3) (c.app [kvD q])
  obtain ⟨h1, rfl, t1⟩ := s1.app c
  have c1 := t1.cup c
  obtain ⟨k, x2, e2, s2, k1, k2⟩ := roll_ok (n + 5) (c1.app [kvD q]) 20 (by decide) (by decide)
  obtain ⟨h2, rfl, t2⟩ := s2.app c1
  have c2 := t2.cup c1
  obtain ⟨j, x3, e3, s3, j1, j2⟩ := roll_ok (n + 5) (c2.app [kvD q]) 80 (by decide) (by decide)
  obtain ⟨h3, rfl, t3⟩ := s3.app c2
  have c3 := t3.cup c2
  have hw := win_le s a
  generalize hw2 : win s a = w at *
  obtain ⟨v, h4, e4, s4, m4⟩ := pick_ok (n + 4) c3 [kvD q] [.int w, .int (if w - 1 > 0 then w - 1 else 0), .int (w + k), .int j, .int 200000] (by simp) (by simp) (by simp)
  have st := ((t1.trans t2).trans t3).trans s4
  have hv : ∃ i : Int, v = .int i ∧ 0 ≤ i ∧ i ≤ 200000 := by
    simp at m4
    rcases m4 with rfl | rfl | rfl | rfl | rfl
    · exact ⟨_, rfl, by omega, by omega⟩
    · exact ⟨_, rfl, by split <;> omega, by split <;> omega⟩
    · exact ⟨_, rfl, by omega, by omega⟩
    · exact ⟨_, rfl, by omega, by omega⟩
    · exact ⟨_, rfl, by omega, by omega⟩
  obtain ⟨i, rfl, i1, i2⟩ := hv
  refine ⟨a, i, w, h4, [.lst [.int w, .int (if w - 1 > 0 then w - 1 else 0), .int (w + k), .int j, .int 200000]], ?_, st, i1, i2⟩
  have lm : h4.length = m := by rw [st.len, hm]
  have g0 := get_m lm
  have u0 := upd_m lm
  have hs' : s.length ≤ 100000 := by omega
  have ql : q.length < line := by unfold line; omega
  have kk := kind_kv q a
  have pq := putQ_kv a i q
  simp at e1 e2 e3 e4
  simp only [kvD] at *
  simp -implicitDefEqProofs [L1__law_quotas, e1, e2, e3, hs', hw2, g0, u0, kk, pq, ql, e4]
theorem valAt_kv {q : Quotas} (h : (q.map (·.1)).Nodup) : ∀ p ∈ q, valAt (q.map kv) (eN p.1) = some (.int p.2) := by
  induction q with
  | nil => intro p hp; cases hp
  | cons x xs ih =>
    intro p hp
    rw [List.map_cons, List.nodup_cons] at h
    unfold valAt at ih ⊢
    rw [List.map_cons, List.find?_cons]
    rcases List.mem_cons.mp hp with rfl | hp
    · simp [kv]
    · have : ¬ x.1 = p.1 := fun e => h.1 (by rw [e]; exact List.mem_map_of_mem hp)
      have h1 : ¬ eN x.1 = eN p.1 := fun e => this (eN_inj _ _ e)
      have h2 : ((kv x).1 == eN p.1) = false := by simp [kv, h1]
      rw [h2]
      exact ih h.2 p hp
theorem quotas_ok (n : Nat) {l : Nat} {h : Hv} (c : CupAt l h) (s : Store) (hs : s.length ≤ 20) : ∃ q h', run D WW (n + 7) f__law_quotas [.ref l, eS s] h = .ok (eQ q, h') ∧ Step l h h' ∧ okQ q ∧ ∀ p ∈ q, 0 ≤ p.2 ∧ p.2 ≤ 200000 := by
  rw [run_eq d__law_quotas rfl rfl]
  obtain ⟨k, x1, e1, s1, k1, k2⟩ := roll_ok (n + 5) (c.app [kvD []]) 5 (by decide) (by decide)
  obtain ⟨h1, rfl, t1⟩ := s1.app c
  obtain ⟨k, rfl⟩ := Int.eq_ofNat_of_zero_le k1
  have c1 := t1.cup c
  have lp := forC_inv (f := stepF (run D WW (n + 6)) WW (.name 3) L1__law_quotas) (ok := fun _ => true) (e := fun (i : Nat) => PV.int i)
    (fun rest env g => ∃ q l3 l4 l5 x, env = [some (.ref l), some (eS s), some (.ref h.length), l3, l4, l5] ∧ envP [l3, l4, l5] = true ∧ g = x ++ [kvD q] ∧ Step l h1 x ∧ (q.map (·.1)).Nodup ∧ (∀ p ∈ q, 0 ≤ p.2 ∧ p.2 ≤ 200000) ∧ q.length + rest.length ≤ 5) (by
      rintro y rest env g ⟨q, l3, l4, l5, x, rfl, ep, rfl, st, nd, rg, hl⟩
      simp at hl
      have lx : x.length = h.length := by rw [st.len, t1.len]
      obtain ⟨a, v, w, h', j, e, st', v1, v2⟩ := quotas_turn n (st.cup c1) lx s q (.int y) l4 l5 hs (by omega)
      refine ⟨_, _, e, rfl, putQ a v q, _, _, _, h', rfl, by simp, ?_, st.trans st', putQ_nodup nd, ?_, by have := putQ_len a v q; omega⟩
      · have hlt := c.lt
        refine st'.gcE1 ?_ ?_
        · simp; omega
        · simp [kvD, kv]
      · intro p hp
        rcases putQ_mem hp with rfl | z
        · exact ⟨v1, v2⟩
        · exact rg p z) (List.range' 0 k) [some (.ref l), some (eS s), some (.ref h.length), none, none, none] (h1 ++ [kvD []]) ⟨[], none, none, none, h1, rfl, by simp, rfl, c1.refl, by simp, (by intro p hp; cases hp), by simp; omega⟩
  obtain ⟨env, h2, e2, q, l3, l4, l5, x, rfl, ep, rfl, st, nd, rg, hl⟩ := lp
  rw [← rng_eq] at e2
  have sm : small k = true := small_le (by omega)
  have lx : x.length = h.length := by rw [st.len, t1.len]
  have st2 := t1.trans st
  have g0 := get_m lx
  have u0 := upd_m lx
  have lq : q.length ≤ 5 := by simpa using hl
  simp only [kvD, List.map_nil] at e1 e2
  have so := law_sorted_ok (n := n + 1) (h := x ++ [.dct (q.map kv), .lst (q.map eNI)]) (h.length + 1) q eNI (fun p => p.1) (fun p g => by simp) (fun p => by simp) (by rw [get_mk lx]; rfl) (by omega)
  have up := srt_strict (fun p : Node × Int => p.1) q nd
  have lq1 : q.length ≤ 1000000 := by omega
  have lm : (srt (fun p : Node × Int => nrk p.1) q).length = q.length := srt_len _ _
  have mq : ∀ p, p ∈ srt (fun p : Node × Int => nrk p.1) q → 0 ≤ p.2 ∧ p.2 ≤ 200000 := fun p hp => rg p (by unfold srt at hp; exact List.mem_mergeSort.mp hp)
  have fq := fitsQ_typed (srt (fun p : Node × Int => nrk p.1) q) mq
  have uq : upQ (srt (fun p : Node × Int => nrk p.1) q) = true := (zip_up (fun p q : Node × Int => nlt p.1 q.1) (fun _ _ _ => nlt_trans) _).mpr up
  rw [uq, lm, decide_eq_true (by omega)] at fq
  refine ⟨srt (fun p => nrk p.1) q, x, ?_, st2, ⟨by omega, by simpa using fq⟩, mq⟩
  have gp := fun j => st2.gcR (eQ_pure (srt (fun p : Node × Int => nrk p.1) q)) j
  unfold eQ at *
  simp -implicitDefEqProofs [d__law_quotas, b__law_quotas, e1, e2, sm, g0, u0]
  rw [mapCm_opt (r := fun p => some (eNI p))]
  · simp -implicitDefEqProofs [g0, u0, lq1, lx, so, gp]
  · simp [g0]
  · intro p hp
    have v := valAt_kv nd p hp
    have kk := kind_kv q p.1
    refine ⟨[], ?_⟩
    have kv1 : (kv p).1 = eN p.1 := rfl
    simp [g0, kv1, v, kk, eNI]
  · intro p hp v e
    cases e
    simp
end PL
set_option autoImplicit false
set_option linter.all false
/-! PlRepr: what is short enough to be shown. -/
namespace PL
open PySem
local macro_rules | `(thq $r $f) => `(@thx _ _ $r ⟨$f⟩)
@[simp] theorem shSz_tup (xs : List PV) : shSz (.tup xs) = shSzs xs + 3 := by rw [shSz]
@[simp] theorem shSz_str (x : List Nat) : shSz (.str x) = 10 * x.length + 2 := by simp only [shSz]
@[simp] theorem shSz_bl (b : Bool) : shSz (.bl b) = 5 := by simp only [shSz]
@[simp] theorem shSz_non : shSz .non = 5 := by simp only [shSz]
@[simp] theorem shSzs_nil : shSzs [] = 0 := by simp only [shSzs]
@[simp] theorem shSzs_cons (x : PV) (xs : List PV) : shSzs (x :: xs) = shSz x + 2 + shSzs xs := by rw [shSzs]
@[simp] theorem shSzs_append (xs ys : List PV) : shSzs (xs ++ ys) = shSzs xs + shSzs ys := by
  induction xs with
  | nil => simp
  | cons x xs ih => simp [ih]; omega
theorem shSzs_map {α : Type} (e : α → PV) (k : Nat) (xs : List α) (h : ∀ x ∈ xs, shSz (e x) ≤ k) : shSzs (xs.map e) ≤ (k + 2) * xs.length := by
  induction xs with
  | nil => simp
  | cons x xs ih =>
    have h1 := h x List.mem_cons_self
    have h2 := ih fun y hy => h y (List.mem_cons_of_mem _ hy)
    simp
    rw [Nat.mul_add]
    omega
theorem shSz_int {i : Int} (h : i.natAbs < 1000000000000) : shSz (.int i) = 1002 := by
  have h1 : i.natAbs < 2 ^ 40 := Nat.lt_of_lt_of_le h (by decide)
  rw [shSz, if_pos (Nat.lt_of_lt_of_le h1 (Nat.pow_le_pow_right (by decide) (by decide)))]
theorem shSz_T (t : Txt) : shSz (eT t) ≤ 2560 := by
  have := t.len
  simp [eT]; omega
theorem shSz_N (a : Node) : shSz (eN a) ≤ 20000 := by
  have h1 := a.nml
  have h2 := a.ok'.2
  have h3 := shSzs_map eT 2560 a.subs fun t _ => shSz_T t
  have h4 : (2560 + 2) * a.subs.length ≤ (2560 + 2) * 7 := Nat.mul_le_mul_left _ h2
  simp [eN]; omega
theorem shSz_NI {p : Node × Int} (h : p.2.natAbs < 1000000000000) : shSz (eNI p) ≤ 22000 := by
  have := shSz_N p.1
  simp [eNI, shSz_int h]; omega
theorem reprOk_of {v : PV} (h : PV.fit v = true) (k : shSz v ≤ 16000000) : reprOk v = true := by
  unfold reprOk line
  rw [h, Bool.true_and, decide_eq_true_eq]
  omega
theorem reprOk_Q {q : Quotas} (h : ∀ p ∈ q, p.2.natAbs < 1000000000000) (l : q.length ≤ 500) : reprOk (eQ q) = true := by
  have h3 := shSzs_map eNI 22000 q fun p hp => shSz_NI (h p hp)
  have h4 : (22000 + 2) * q.length ≤ (22000 + 2) * 500 := Nat.mul_le_mul_left _ l
  refine reprOk_of (fit_of (eQ_pure q) ?_) ?_
  · have := depths_map (e := eNI) (xs := q) (k := 3) fun p _ => by
      have := eN_depth p.1
      simp [eNI]
      try omega
    simp [eQ]; omega
  · simp [eQ]; omega
theorem Ns_fit (xs : List Node) : PV.fit (.tup (xs.map eN)) = true := by
  have := depths_map (e := eN) (xs := xs) (k := 2) fun p _ => eN_depth p
  refine fit_of (by simp) ?_
  simp; omega
theorem Ns_sz (xs : List Node) (l : xs.length ≤ 500) : shSz (.tup (xs.map eN)) ≤ 10100000 := by
  have h3 := shSzs_map eN 20000 xs fun p _ => shSz_N p
  have h4 : (20000 + 2) * xs.length ≤ (20000 + 2) * 500 := Nat.mul_le_mul_left _ l
  simp; omega
end PL
set_option autoImplicit false
set_option linter.all false
namespace PL
open PySem
local macro_rules | `(thq $r $f) => `(@thx _ _ $r ⟨$f⟩)
/-! ### sums by heads -/
theorem within_self (a : Node) : within a a = true := by simp [within]
theorem sum_one (p : Node) (w : Int) (k : Nat) : ∀ H : List Node, H.Nodup → (∀ a ∈ H, a.subs.length = k) → ((H.filter fun a => within p a).map fun _ => w).sum = if k ≤ p.subs.length ∧ p.pre k ∈ H then w else 0
  | [], _, _ => by simp
  | a :: H, nd, hk => by
    rw [List.nodup_cons] at nd
    have ih := sum_one p w k H nd.2 fun b hb => hk b (List.mem_cons_of_mem _ hb)
    have ha := hk a List.mem_cons_self
    have key : within p a = true ↔ k ≤ p.subs.length ∧ p.pre k = a := by
      simp only [within, Bool.and_eq_true, decide_eq_true_eq]
      constructor
      · rintro ⟨h1, h2⟩
        rw [ha] at h2
        refine ⟨?_, Node.inj.mp ⟨h1, h2⟩⟩
        have := congrArg List.length h2
        rw [List.length_take, ha] at this
        omega
      · rintro ⟨h1, rfl⟩
        refine ⟨rfl, ?_⟩
        show List.take (List.length (List.take k p.subs)) p.subs = List.take k p.subs
        rw [List.length_take, Nat.min_eq_left h1]
    by_cases h : within p a = true
    · obtain ⟨h1, h2⟩ := key.mp h
      rw [List.filter_cons, if_pos h, List.map_cons, List.sum_cons, ih]
      have n : ¬ (k ≤ p.subs.length ∧ p.pre k ∈ H) := fun z => nd.1 (h2 ▸ z.2)
      rw [if_neg n, if_pos ⟨h1, h2 ▸ List.mem_cons_self⟩]
      omega
    · rw [List.filter_cons, if_neg h, ih]
      have : (k ≤ p.subs.length ∧ p.pre k ∈ a :: H) ↔ (k ≤ p.subs.length ∧ p.pre k ∈ H) := by
        constructor
        · rintro ⟨h1, h2⟩
          rcases List.mem_cons.mp h2 with h2 | h2
          · exact absurd (key.mpr ⟨h1, h2⟩) h
          · exact ⟨h1, h2⟩
        · rintro ⟨h1, h2⟩
          exact ⟨h1, List.mem_cons_of_mem _ h2⟩
      simp only [this]
theorem sum_swap (k : Nat) (H : List Node) (nd : H.Nodup) (hk : ∀ a ∈ H, a.subs.length = k) : ∀ s : Store, (H.map (win s)).sum = (s.map fun p => if k ≤ p.1.subs.length ∧ p.1.pre k ∈ H then wof p.1 p.2 else 0).sum
  | [] => by
    have : ∀ H : List Node, (H.map (win [])).sum = 0 := by
      intro H
      induction H with
      | nil => rfl
      | cons a H ih => simp [win] at ih ⊢; exact ih
    simp [this]
  | p :: s => by
    have ih := sum_swap k H nd hk s
    have h1 := sum_one p.1 (wof p.1 p.2) k H nd hk
    rw [List.map_cons, List.sum_cons, ← ih, ← h1]
    have : ∀ H : List Node, (H.map (win (p :: s))).sum = ((H.filter fun a => within p.1 a).map fun _ => wof p.1 p.2).sum + (H.map (win s)).sum := by
      intro H
      induction H with
      | nil => rfl
      | cons a H ih =>
        have e : win (p :: s) a = (if within p.1 a = true then wof p.1 p.2 else 0) + win s a := by
          unfold win
          by_cases h : within p.1 a = true <;> simp [h]
        rw [List.map_cons, List.sum_cons, ih, e, List.filter_cons]
        by_cases h : within p.1 a = true <;> simp [h] <;> omega
    exact this H
theorem addKey_mem {α : Type} [DecidableEq α] {ks : List α} {a b : α} : b ∈ addKey ks a ↔ b = a ∨ b ∈ ks := by
  unfold addKey
  split
  · constructor
    · exact .inr
    · rintro (rfl | h)
      · assumption
      · exact h
  · simp [or_comm]
theorem addKey_nodup {α : Type} [DecidableEq α] {ks : List α} {a : α} (h : ks.Nodup) : (addKey ks a).Nodup := by
  unfold addKey
  split
  · exact h
  · rw [List.nodup_append]
    refine ⟨h, by simp, ?_⟩
    intro x hx y hy e
    rw [List.mem_singleton.mp hy] at e
    subst e
    contradiction
theorem foldKey_mem {α : Type} [DecidableEq α] : ∀ (xs ks : List α) (b : α), b ∈ xs.foldl addKey ks ↔ b ∈ xs ∨ b ∈ ks
  | [], ks, b => by simp
  | x :: xs, ks, b => by
    rw [List.foldl_cons, foldKey_mem xs, addKey_mem, List.mem_cons]
    constructor
    · rintro (h | h | h)
      · exact .inl (.inr h)
      · exact .inl (.inl h)
      · exact .inr h
    · rintro ((h | h) | h)
      · exact .inr (.inl h)
      · exact .inl h
      · exact .inr (.inr h)
theorem foldKey_nodup {α : Type} [DecidableEq α] : ∀ (xs ks : List α), ks.Nodup → (xs.foldl addKey ks).Nodup
  | [], ks, h => h
  | x :: xs, ks, h => foldKey_nodup xs _ (addKey_nodup h)
theorem perm_sum {xs ys : List Int} (h : xs.Perm ys) : xs.sum = ys.sum := by
  induction h with
  | nil => rfl
  | cons x _ ih => simp [ih]
  | swap x y l => simp; omega
  | trans _ _ h1 h2 => rw [h1, h2]
theorem sum_heads (s : Store) (k : Nat) : ((heads s k).map (win s)).sum = ((s.filter fun p => decide (k ≤ p.1.subs.length)).map fun p => wof p.1 p.2).sum := by
  have pm : (heads s k).Perm (headsK s k) := List.mergeSort_perm _ _
  have e1 : ((heads s k).map (win s)).sum = ((headsK s k).map (win s)).sum := perm_sum (pm.map _)
  have nd : (headsK s k).Nodup := by rw [headsK_eq]; exact foldKey_nodup _ _ (by simp)
  have mem : ∀ p ∈ s, k ≤ p.1.subs.length → p.1.pre k ∈ headsK s k := by
    intro p hp h
    rw [headsK_eq, foldKey_mem]
    exact .inl (List.mem_map.mpr ⟨p, List.mem_filter.mpr ⟨hp, by simpa using h⟩, rfl⟩)
  have hk : ∀ a ∈ headsK s k, a.subs.length = k := fun a ha => heads_mem s k a (pm.mem_iff.mpr ha)
  rw [e1, sum_swap k _ nd hk s]
  generalize headsK s k = H at *
  clear e1 pm nd hk
  induction s with
  | nil => rfl
  | cons p s ih =>
    have ih := ih fun q hq => mem q (List.mem_cons_of_mem _ hq)
    have hp := mem p List.mem_cons_self
    rw [List.map_cons, List.sum_cons, ih, List.filter_cons]
    by_cases h : k ≤ p.1.subs.length
    · rw [if_pos ⟨h, hp h⟩, if_pos (by simpa using h)]; rfl
    · rw [if_neg (fun z => h z.1), if_neg (by simpa using h)]; simp
/-! ### quotas and puts -/
theorem win_put {s : Store} {a own : Node} (t : Txt) (h : within a own = false) : win (put s a t) own = win s own := by
  have pm : (put s a t).Perm (s.filter (fun p => !decide (p.1 = a)) ++ [(a, t)]) := List.mergeSort_perm _ _
  have e1 : win (put s a t) own = win (s.filter (fun p => !decide (p.1 = a)) ++ [(a, t)]) own := perm_sum ((pm.filter _).map _)
  rw [e1]
  unfold win
  rw [List.filter_append, List.filter_filter]
  have e2 : [(a, t)].filter (fun p => within p.1 own) = [] := by simp [h]
  rw [e2, List.append_nil]
  congr 2
  refine List.filter_congr fun p _ => ?_
  by_cases e : p.1 = a
  · simp [e, h]
  · simp [e]
theorem minI_le : ∀ (xs : List Int) (i : Int), minI i xs ≤ i ∧ ∀ x ∈ xs, minI i xs ≤ x
  | [], i => ⟨Int.le_refl _, fun _ h => nomatch h⟩
  | x :: xs, i => by
    have h1 : minI i (x :: xs) = minI (if x < i then x else i) xs := rfl
    rw [h1]
    obtain ⟨a, b⟩ := minI_le xs (if x < i then x else i)
    refine ⟨by split at a <;> (rename_i h; simp only [h, if_true, if_false]; omega), fun y hy => ?_⟩
    rcases List.mem_cons.mp hy with rfl | hy
    · split at a <;> (rename_i h; simp only [h, if_true, if_false]; omega)
    · exact b y hy
theorem minI_mem : ∀ (xs : List Int) (i : Int), minI i xs ∈ i :: xs
  | [], i => by simp [minI]
  | x :: xs, i => by
    have h1 : minI i (x :: xs) = minI (if x < i then x else i) xs := rfl
    rw [h1]
    have := minI_mem xs (if x < i then x else i)
    by_cases h : x < i
    · rw [if_pos h] at this ⊢
      exact List.mem_cons_of_mem _ this
    · rw [if_neg h] at this ⊢
      rcases List.mem_cons.mp this with e | e
      · rw [e]; exact List.mem_cons_self
      · exact List.mem_cons_of_mem _ (List.mem_cons_of_mem _ e)
theorem minL_ge {xs : List Int} (h : xs ≠ []) : 0 ≤ minL xs ↔ ∀ x ∈ xs, 0 ≤ x := by
  cases xs with
  | nil => exact absurd rfl h
  | cons x xs =>
    constructor
    · intro hm y hy
      obtain ⟨a, b⟩ := minI_le xs x
      have hm : 0 ≤ minI x xs := hm
      rcases List.mem_cons.mp hy with rfl | hy
      · omega
      · have := b y hy; omega
    · intro ha
      exact ha _ (minI_mem xs x)
def goodB (s : Store) (q : Quotas) (a : Node) (t : Txt) : Bool := decide ((q.filter fun p => within a p.1 && decide (p.2 < win (put s a t) p.1)) = [])
theorem canPut_good (s : Store) (q : Quotas) (a : Node) (t : Txt) : canPut s q a t = goodB s q a t := by
  unfold canPut goodB
  rw [Bool.eq_iff_iff, Bool.or_eq_true, decide_eq_true_eq, decide_eq_true_eq, List.filter_eq_nil_iff, beq_iff_eq]
  constructor
  · intro h p hp z
    rw [Bool.and_eq_true, decide_eq_true_eq] at z
    have hm : p.2 - win (put s a t) p.1 ∈ roomL (put s a t) q a := List.mem_map.mpr ⟨p, List.mem_filter.mpr ⟨hp, z.1⟩, rfl⟩
    rcases h with h | h
    · rw [h] at hm; cases hm
    · have ne : roomL (put s a t) q a ≠ [] := fun e => by rw [e] at hm; cases hm
      have := (minL_ge ne).mp h _ hm
      omega
  · intro h
    by_cases e : roomL (put s a t) q a = []
    · exact .inl e
    · right
      rw [minL_ge e]
      intro x hx
      obtain ⟨p, hp, rfl⟩ := List.mem_map.mp hx
      obtain ⟨h1, h2⟩ := List.mem_filter.mp hp
      have := h p h1
      simp [h2] at this
      omega
theorem good_none {s : Store} {q : Quotas} {a : Node} {t : Txt} (h : goodB s q a t = true) : (q.filter fun p => decide (win s p.1 ≤ p.2) && decide (p.2 < win (put s a t) p.1)) = [] := by
  unfold goodB at h
  rw [decide_eq_true_eq, List.filter_eq_nil_iff] at h
  rw [List.filter_eq_nil_iff]
  intro p hp z
  rw [Bool.and_eq_true, decide_eq_true_eq, decide_eq_true_eq] at z
  by_cases w : within a p.1 = true
  · exact h p hp (by simp [w, z.2])
  · rw [win_put t (by simpa using w)] at z
    omega
end PL
set_option autoImplicit false
set_option linter.all false
namespace PL
open PySem
local macro_rules | `(thq $r $f) => `(@thx _ _ $r ⟨$f⟩)
@[simp] theorem map_not (b : Bool) : Option.map (fun x => !x) (some b) = some (!b) := rfl
theorem weights_ok {s : Store} (k : Nat) (hs : s.length ≤ 20) : reprOk (eQ (weights s k)) = true := by
  have l1 := heads_len s k
  refine reprOk_Q (fun p hp => ?_) (by simp [weights]; omega)
  obtain ⟨a, _, rfl⟩ := List.mem_map.mp hp
  have := win_le s a
  show (win s a).natAbs < _
  omega
theorem weights_fold (s : Store) (k : Nat) : PV.tup (List.map (fun x => eNI (x, win s x)) (heads s k)) = eQ (weights s k) := by
  simp [eQ, weights, Function.comp_def]
@[simp] theorem fold_one (p : Node × Txt) : PV.tup [ePr p] = eS [p] := rfl
theorem win_one (p : Node × Txt) : win [p] p.1 = wof p.1 p.2 := by simp [win, within_self]
theorem turn3 (n : Nat) {l : Nat} (h : Hv) {s : Store} (k : Nat) (hk : k ≤ 7) (hs : s.length ≤ 20) (up : upB s = true) : ∃ g,
    evSs (run D WW (n + 8)) WW L3__law_right [some (.ref l), some (eS s), some (.int k), none, none, none, none, none, none, none, none, none, none, none, none, none, none, none, none, none, none, none] h = .ok (.next [some (.ref l), some (eS s), some (.int k), none, none, none, none, none, none, none, none, none, none, none, none, none, none, none, none, none, none, none], h ++ g) := by
  have ok : okSt s := ⟨by omega, up⟩
  have wa := fun g => weights_at_ok n g k hk ok
  have lh := fun g => law_heads_ok (n + 3) g s k (by omega)
  have hs' : s.length ≤ 100000 := by omega
  have l1 := heads_len s k
  have l2 : (heads s k).length ≤ 1000000 := by omega
  have ro := weights_ok k hs
  have sh := sum_heads s k
  have lf := List.length_filter_le (fun p : Node × Txt => decide (k ≤ p.1.subs.length)) s
  have l4 : (s.filter fun p => decide (k ≤ p.1.subs.length)).length ≤ 1000000 := by omega
  have l3 : (weights s k).length ≤ 1000000 := by simp [weights]; omega
  have sw : (List.map Prod.snd (weights s k)).sum = (List.map (fun p : Node × Txt => wof p.1 p.2) (s.filter fun p => decide (k ≤ p.1.subs.length))).sum := by
    rw [← sh]
    simp [weights, Function.comp_def]
  generalize hr : evSs (run D WW (n + 8)) WW L3__law_right [some (.ref l), some (eS s), some (.int k), none, none, none, none, none, none, none, none, none, none, none, none, none, none, none, none, none, none, none] h = r
  simp -implicitDefEqProofs [L3__law_right, wa, lh, hs', l2, ro, fold_eNI, weights_fold, l3, l4, sw, win_one] at hr
  subst hr
  exact ⟨_, rfl⟩
theorem middle_half (s : Store) (r : Node) : middleV s r = (match (halves s r).getLast? with | some a => eN a | none => .non) := rfl
theorem turn2 (n : Nat) {l : Nat} (h : Hv) {s : Store} {nm : List Nat} (hn : fitsName (.str nm) = true) (m2 m9 m10 : Option PV) (hs : s.length ≤ 20) (up : upB s = true) : ∃ m9' m10' g,
    evSs (run D WW (n + 8)) WW L2__law_right [some (.ref l), some (eS s), m2, some (.str nm), none, none, none, none, none, m9, m10, none, none, none, none, none, none, none, none, none, none, none] h = .ok (.next [some (.ref l), some (eS s), m2, some (.str nm), none, none, none, none, none, m9', m10', none, none, none, none, none, none, none, none, none, none, none], h ++ g) := by
  have ok : okSt s := ⟨by omega, up⟩
  have hs2 : s.length ≤ 10000 := by omega
  have hs' : s.length ≤ 100000 := by omega
  have hw := fun g => heaviest_way_ok n g hn ok
  have md := fun g => middle_node_ok n g hn ok
  have lw := fun g => law_way_ok (n + 1) g s nm hn hs2
  have fr := fold_root nm hn
  have wl := way_len s 8 (root nm hn)
  have l0 := List.length_filter_le (fun a => decide (win s (root nm hn) ≤ 2 * win s a)) (way s 8 (root nm hn))
  have l2 : (halves s (root nm hn)).length ≤ 1000000 := by unfold halves; omega
  have m : ∀ i : Int, mulOk i 2 = true := fun i => mulOk_r (by decide) (by decide)
  have e2 : (way s 8 (root nm hn)).filter (fun a => decide (win s (root nm hn) ≤ win s a * 2)) = halves s (root nm hn) := by
    unfold halves
    refine List.filter_congr fun a _ => ?_
    rw [Int.mul_comm]
  have rp : reprOk (.tup [.tup ((way s 8 (root nm hn)).map eN), middleV s (root nm hn)]) = true := by
    have h1 := Ns_fit (way s 8 (root nm hn))
    have h2 := Ns_sz (way s 8 (root nm hn)) (by omega)
    have h3 : depth (middleV s (root nm hn)) ≤ 2 ∧ shSz (middleV s (root nm hn)) ≤ 20000 := by
      unfold middleV
      split
      · exact ⟨eN_depth _, shSz_N _⟩
      · simp
    have h4 : depth (.tup ((way s 8 (root nm hn)).map eN)) ≤ 60 := by
      unfold PV.fit at h1
      rw [Bool.and_eq_true, decide_eq_true_eq] at h1
      exact h1.2
    have h5 := depths_map (e := eN) (xs := way s 8 (root nm hn)) (k := 2) fun p _ => eN_depth p
    refine reprOk_of ?_ ?_
    · refine fit_of (by simp) ?_
      simp; omega
    · rw [shSz_tup, shSzs_cons, shSzs_cons, shSzs_nil]; omega
  generalize hr : evSs (run D WW (n + 8)) WW L2__law_right [some (.ref l), some (eS s), m2, some (.str nm), none, none, none, none, none, m9, m10, none, none, none, none, none, none, none, none, none, none, none] h = r
  by_cases z : halves s (root nm hn) = []
  · have mv : middleV s (root nm hn) = .non := by unfold middleV; rw [z]; rfl
    rw [mv] at rp md
    simp -implicitDefEqProofs [L2__law_right, hw, md, lw, fr, hs', m, e2, z, rp] at hr
    subst hr
    exact ⟨_, _, _, rfl⟩
  · obtain ⟨c, hc⟩ : ∃ c, (halves s (root nm hn)).getLast? = some c := ⟨_, List.getLast?_eq_some_getLast z⟩
    have mv : middleV s (root nm hn) = eN c := by unfold middleV; rw [hc]
    rw [mv] at rp md
    simp -implicitDefEqProofs [L2__law_right, hw, md, lw, fr, hs', m, e2, z, rp, l2, hc] at hr
    subst hr
    exact ⟨_, _, _, rfl⟩
theorem text_pick2 {k : Nat} (hk : k ≤ 255) {v : PV} (h : v ∈ [PV.str [], .str (repN k [120])]) : ∃ t : Txt, v = eT t := by
  simp at h
  rcases h with rfl | rfl
  · exact ⟨⟨[], by decide⟩, rfl⟩
  · exact ⟨⟨repN k [120], repN_fits k 120 hk (by decide)⟩, rfl⟩
theorem room_int {s : Store} {q : Quotas} {a : Node} (hs : s.length ≤ 20) (hq : ∀ p ∈ q, 0 ≤ p.2 ∧ p.2 ≤ 200000) : depth (roomV s q a) = 0 ∧ shSz (roomV s q a) ≤ 1002 := by
  unfold roomV
  split
  · simp
  · rename_i h
    have : minL (roomL s q a) ∈ roomL s q a := by
      cases e : roomL s q a with
      | nil => exact absurd e h
      | cons x xs => exact minI_mem xs x
    obtain ⟨p, hp, e⟩ := List.mem_map.mp this
    have h1 := hq p (List.mem_filter.mp hp).1
    have h2 := win_le s p.1
    rw [shSz_int (by omega)]
    simp
theorem turn1 (n : Nat) {l : Nat} {h : Hv} (c : CupAt l h) {s : Store} {q : Quotas} (tn : PV) (m2 m3 m5 m9 m10 m11 m12 m13 m14 m15 : Option PV) (hs : s.length ≤ 13) (up : upB s = true) (hq : okQ q) (rg : ∀ p ∈ q, 0 ≤ p.2 ∧ p.2 ≤ 200000) : ∃ m11' m12' m13' m14' m15' h' g,
    evSs (run D WW (n + 8)) WW L1__law_right [some (.ref l), some (eS s), m2, m3, some (eQ q), m5, some tn, none, none, m9, m10, m11, m12, m13, m14, m15, none, none, none, none, none, none] h = .ok (.next [some (.ref l), some (eS s), m2, m3, some (eQ q), m5, some tn, none, none, m9, m10, m11', m12', m13', m14', m15', none, none, none, none, none, none], h' ++ g) ∧ Step l h h' := by
  obtain ⟨a, h1, e1, s1⟩ := tree_node_ok (n + 5) c
  have c1 := s1.cup c
  obtain ⟨k, h2, e2, s2, k1, k2⟩ := roll_ok (n + 7) c1 80 (by decide) (by decide)
  obtain ⟨k, rfl⟩ := Int.eq_ofNat_of_zero_le k1
  have c2 := s2.cup c1
  obtain ⟨v, h3, e3, s3, m3'⟩ := pick0_ok (n + 6) c2 [.str [], .str (repN k [120])] (by simp) (by simp) (by simp)
  obtain ⟨t, rfl⟩ := text_pick2 (by omega) m3'
  have st := (s1.trans s2).trans s3
  have r2 : k ≤ 1000000 := by omega
  have r3 : ((k : Int) < 4611686018427387904) := by omega
  have r4 : (-4611686018427387904 < (k : Int)) := by omega
  have ok : okSt s := ⟨by omega, up⟩
  have hs' : s.length ≤ 100000 := by omega
  have pl := put_len s a t
  have hp : (put s a t).length ≤ 100000 := by omega
  have lq := hq.1
  have f1 := List.length_filter_le (fun p : Node × Int => within a p.1) q
  have f2 : (q.filter (fun p => within a p.1)).length ≤ 1000000 := by omega
  have wo := fun g => weight_ok n g a ok
  have ro := fun g => room_ok (a := a) n g ok hq
  have cp := fun g => can_put_ok (a := a) (t := t) n g ok hq
  have cg := canPut_good s q a t
  have rm := room_int (a := a) (by omega : s.length ≤ 20) rg
  have rp : ∀ b : Bool, reprOk (.tup [.int (win s a), roomV s q a, .bl b]) = true := fun b => by
    have := win_le s a
    refine reprOk_of (fit_of (by simp) (by simp [rm.1])) ?_
    rw [shSz_tup, shSzs_cons, shSzs_cons, shSzs_cons, shSzs_nil, shSz_int (by omega)]
    simp; omega
  have gd : decide ((q.filter fun p => within a p.1 && decide (p.2 < win (put s a t) p.1)) = []) = goodB s q a t := rfl
  have f3 := List.length_filter_le (fun p : Node × Int => within a p.1 && decide (p.2 < win (put s a t) p.1)) q
  have f4 : (q.filter fun p => within a p.1 && decide (p.2 < win (put s a t) p.1)).length ≤ 1000000 := by omega
  have gn := good_none (s := s) (q := q) (a := a) (t := t)
  have key : ∃ m11' g, evSs (run D WW (n + 8)) WW L1__law_right [some (.ref l), some (eS s), m2, m3, some (eQ q), m5, some tn, none, none, m9, m10, m11, m12, m13, m14, m15, none, none, none, none, none, none] h = .ok (.next [some (.ref l), some (eS s), m2, m3, some (eQ q), m5, some tn, none, none, m9, m10, m11', some (eS (put s a t)), some (.bl (goodB s q a t)), some (eN a), some (eT t), none, none, none, none, none, none], h3 ++ g) := by
    generalize hr : evSs (run D WW (n + 8)) WW L1__law_right [some (.ref l), some (eS s), m2, m3, some (eQ q), m5, some tn, none, none, m9, m10, m11, m12, m13, m14, m15, none, none, none, none, none, none] h = r
    by_cases z : q.filter (fun p => within a p.1) = []
    · have rv : roomV s q a = .non := by unfold roomV roomL; rw [z]; rfl
      rw [rv] at rp ro
      cases g : goodB s q a t with
      | true =>
        have gn := gn g
        rw [g] at gd cg
        simp -implicitDefEqProofs [L1__law_right, e1, e2, e3, r2, r3, r4, hs', hp, f2, f4, wo, ro, cp, cg, gd, gn, z, rp] at hr
        subst hr
        exact ⟨_, _, rfl⟩
      | false =>
        rw [g] at gd cg
        simp -implicitDefEqProofs [L1__law_right, e1, e2, e3, r2, r3, r4, hs', hp, f2, f4, wo, ro, cp, cg, gd, z, rp] at hr
        subst hr
        exact ⟨_, _, rfl⟩
    · have z2 : roomL s q a ≠ [] := by intro e; exact z (by simpa only [roomL, List.map_eq_nil_iff] using e)
      have rv : roomV s q a = .int (minL (roomL s q a)) := by unfold roomV; rw [if_neg z2]
      rw [rv] at rp ro
      unfold roomL at rp ro
      have lm := fun g : Hv => leastV_map g (fun p : Node × Int => p.2 - win s p.1) z
      cases g : goodB s q a t with
      | true =>
        have gn := gn g
        rw [g] at gd cg
        simp -implicitDefEqProofs [L1__law_right, e1, e2, e3, r2, r3, r4, hs', hp, f2, f4, wo, ro, cp, cg, gd, gn, z, rp, lm] at hr
        subst hr
        exact ⟨_, _, rfl⟩
      | false =>
        rw [g] at gd cg
        simp -implicitDefEqProofs [L1__law_right, e1, e2, e3, r2, r3, r4, hs', hp, f2, f4, wo, ro, cp, cg, gd, z, rp, lm] at hr
        subst hr
        exact ⟨_, _, rfl⟩
  obtain ⟨m11', g, e⟩ := key
  exact ⟨_, _, _, _, _, _, _, e, st⟩
end PL
set_option autoImplicit false
set_option linter.all false
namespace PL
open PySem
local macro_rules | `(thq $r $f) => `(@thx _ _ $r ⟨$f⟩)
theorem tuple_of_lst (n : Nat) (h : Hv) {l : Nat} {xs : List PV} (e : h[l]? = some (.lst xs)) (lo hi : Int) : run D WW (n + 1) f_is_tuple_of [.ref l, .int lo, .int hi] h = .ok (.bl false, h) := by
  rw [run_eq d_is_tuple_of rfl rfl]
  have t := ty_ref h e .tuple
  simp [d_is_tuple_of, b_is_tuple_of, t]
theorem are_quotas_lst (n : Nat) (h : Hv) {l : Nat} {xs : List PV} (e : h[l]? = some (.lst xs)) : run D WW (n + 6) f_are_quotas [.ref l] h = .ok (.bl false, h) := by
  rw [run_eq d_are_quotas rfl rfl]
  have q : run D WW (n + 5) f_fits_quotas [.ref l] h = .ok (.bl false, h) := by
    rw [run_eq d_fits_quotas rfl rfl]
    have t := tuple_of_lst (n + 3) h e 0 10
    simp [d_fits_quotas, b_fits_quotas, t]
  simp [d_are_quotas, b_are_quotas, q]
def oNode : PV := .tup [.str [97], .tup []]
def oOne : PV := .tup [oNode, .int 5]
def digN (k : Nat) (c : Int) : PV := .tup ((List.range k).map fun (i : Nat) => PV.tup [.tup [.str [97], .tup [.str (numText (i : Int))]], .int c])
/-- what is no quotas -/
def oddsP : List PV := [.non, oOne, .tup [oOne, oOne], .tup [.tup [.tup [.str [97], .tup [.str [49, 48]]], .int 1], .tup [.tup [.str [97], .tup [.str [57]]], .int 1]],
  .tup [.tup [.tup [.str [98], .tup []], .int 1], oOne], .tup [.tup [oNode, .int 5, .int 0]], .tup [.tup [oNode]], .tup [.tup [.non, .int 5]], .tup [.tup [.tup [.str [97], .tup [.str []]], .int 5]],
  .tup [.tup [oNode, .int (-1)]], .tup [.tup [oNode, .int 200001]], .tup [.tup [oNode, .bl true]], .tup [.tup [oNode, .str [53]]], .tup [.tup [oNode, .non]], digN 11 5]
theorem oddsP_no : oddsP.all (fun v => !fitsQ v && v.pure) = true := by decide +kernel
theorem tens_yes : fitsQ (digN 10 0) = true := by decide +kernel
theorem odds_no (n : Nat) (h : Hv) {v : PV} (hv : v ∈ oddsP) : run D WW (n + 6) f_are_quotas [v] h = .ok (.bl false, h) := by
  have := List.all_eq_true.mp oddsP_no v hv
  simp only [Bool.and_eq_true, Bool.not_eq_true'] at this
  rw [are_quotas_ok n h this.2, this.1]
theorem rng11 : rngL 0 1 11 = [.int 0, .int 1, .int 2, .int 3, .int 4, .int 5, .int 6, .int 7, .int 8, .int 9, .int 10] := by decide
theorem rng10 : rngL 0 1 10 = [.int 0, .int 1, .int 2, .int 3, .int 4, .int 5, .int 6, .int 7, .int 8, .int 9] := by decide
/-- the last rows of the law's look -/
def tailR : Sts := match b__law_right with
  | .cons _ (.cons _ (.cons _ (.cons _ (.cons _ (.cons _ (.cons _ r)))))) => r
  | _ => .nil
theorem odds_el (n : Nat) (h : Hv) (xs : List PV) (hx : ∀ v ∈ xs, v ∈ oddsP ∨ ∃ l ys, v = .ref l ∧ h[l]? = some (.lst ys)) (ok : Hv → Bool) (hk : ok h = true) : mapCm (fun x g => thq (thq (run D WW (n + 6) f_are_quotas [x] g) fun x h1 => retB (Option.map (fun x => !x) (evIs x (.bl false))) h1) fun y g1 => iteV y (.ok (some x, g1) : R (Option PV)) (.ok (none, g1))) ok xs h = .ok ([], h) := by
  rw [mapCm_opt (r := fun _ => none) hk]
  · simp
  · intro v hv
    refine ⟨[], ?_⟩
    rcases hx v hv with q | ⟨l, ys, rfl, e⟩
    · simp [odds_no n h q]
    · simp [are_quotas_lst n h e]
  · intro v _ w e
    cases e
theorem tail_ok (n : Nat) (h : Hv) (e0 e1 e2 e3 e4 e5 e6 e7 e8 e9 e10 e11 e12 e13 e14 e15 e16 e17 e18 e19 e20 e21 : Option PV) : ∃ g, evSs (run D WW (n + 8)) WW tailR [e0, e1, e2, e3, e4, e5, e6, e7, e8, e9, e10, e11, e12, e13, e14, e15, e16, e17, e18, e19, e20, e21] h = .ok (.ret (.bl true), h ++ g) := by
  have f := oddsP_no
  have f10 := tens_yes
  have lg : ∀ k, k ≤ 1000 → Nat.log2 k < 1920 := fun k hk => by
    by_cases z : k = 0
    · rw [z]; decide
    · exact (Nat.log2_lt z).mpr (Nat.lt_of_le_of_lt hk (Nat.lt_of_lt_of_le (by decide : 1000 < 2 ^ 10) (Nat.pow_le_pow_right (by decide) (by decide))))
  simp [oddsP, digN, oOne, oNode, List.range_succ] at f f10
  have ql : ∀ (h : Hv) (xs : List PV) (g : Hv), run D WW (n + 8) f_are_quotas [.ref h.length] (h ++ .lst xs :: g) = .ok (.bl false, h ++ .lst xs :: g) := fun h xs g => are_quotas_lst (n + 2) _ (xs := xs) (by simp)
  generalize hr : evSs (run D WW (n + 8)) WW tailR [e0, e1, e2, e3, e4, e5, e6, e7, e8, e9, e10, e11, e12, e13, e14, e15, e16, e17, e18, e19, e20, e21] h = r
  have sm : small 11 = true := by decide
  have sm2 : small 10 = true := by decide
  simp -implicitDefEqProofs [tailR, b__law_right, sm, sm2, rng11, rng10, lg, f, f10, ql] at hr
  subst hr
  exact ⟨_, rfl⟩
theorem law_right_ok (n : Nat) {l : Nat} {h : Hv} (c : CupAt l h) : ∃ h', run D WW (n + 9) f__law_right [.ref l] h = .ok (.bl true, h') ∧ Step l h h' := by
  rw [run_eq d__law_right rfl rfl]
  obtain ⟨s, h1, e1, s1, hs, up⟩ := tree_store_ok (n + 1) c 12 (by decide)
  have c1 := s1.cup c
  have L3 := forC_inv (f := stepF (run D WW (n + 8)) WW (.name 2) L3__law_right) (ok := fun _ => true) (e := fun (i : Nat) => PV.int i)
    (fun rest env g => (∀ k ∈ rest, k ≤ 7) ∧ ∃ m2, env = [some (.ref l), some (eS s), m2, none, none, none, none, none, none, none, none, none, none, none, none, none, none, none, none, none, none, none] ∧ g = h1) (by
      rintro k rest env g ⟨hk, m2, rfl, rfl⟩
      obtain ⟨j, e⟩ := turn3 n (l := l) g k (hk k List.mem_cons_self) (by omega) up
      refine ⟨_, _, e, rfl, fun k hk' => hk k (List.mem_cons_of_mem _ hk'), _, rfl, ?_⟩
      rw [gcE_gen]
      · simp
      · have := c1.lt
        simp; omega
      · simp) (List.range' 0 5) [some (.ref l), some (eS s), none, none, none, none, none, none, none, none, none, none, none, none, none, none, none, none, none, none, none, none] h1 ⟨by decide, none, rfl, rfl⟩
  obtain ⟨env, h2, e2, -, m2, rfl, rfl⟩ := L3
  rw [← rng_eq] at e2
  have L2 := forC_inv (f := stepF (run D WW (n + 8)) WW (.name 3) L2__law_right) (ok := fun _ => true) (e := fun (x : List Nat) => PV.str x)
    (fun rest env g => (∀ k ∈ rest, fitsName (.str k) = true) ∧ ∃ m3 m9 m10 j, env = [some (.ref l), some (eS s), m2, m3, none, none, none, none, none, m9, m10, none, none, none, none, none, none, none, none, none, none, none] ∧ g = h2 ++ j) (by
      rintro k rest env g ⟨hk, m3, m9, m10, j, rfl, rfl⟩
      obtain ⟨m9', m10', j', e⟩ := turn2 n (l := l) (h2 ++ j) (hk k List.mem_cons_self) m2 m9 m10 (by omega) up
      obtain ⟨g', e'⟩ := gcE_ex [some (.ref l), some (eS s), m2, some (.str k), none, none, none, none, none, m9', m10', none, none, none, none, none, none, none, none, none, none, none] (h2 ++ j) j'
      exact ⟨_, _, e, rfl, fun k hk' => hk k (List.mem_cons_of_mem _ hk'), _, _, _, j ++ g', rfl, by rw [e', List.append_assoc]⟩) [[97], [98], [99]] [some (.ref l), some (eS s), m2, none, none, none, none, none, none, none, none, none, none, none, none, none, none, none, none, none, none, none] h2 ⟨by decide, _, _, _, [], rfl, by simp⟩
  obtain ⟨env, h3', e3, -, m3, m9, m10, j, rfl, rfl⟩ := L2
  obtain ⟨q, x, e4, s4, hq, rg⟩ := quotas_ok (n + 1) (c1.app j) s (by omega)
  obtain ⟨h4, rfl, t4⟩ := s4.app c1
  have c4 := t4.cup c1
  have hs' : s.length ≤ 100000 := by omega
  have hq1 := hq.1
  have ok : okSt s := ⟨by omega, up⟩
  have f1 := List.length_filter_le (fun p : Node × Int => decide (p.2 < win s p.1)) q
  have f2 : (q.filter fun p => decide (p.2 < win s p.1)).length ≤ 1000000 := by omega
  have ov := fun g => over_ok n g ok hq
  have fo : PV.tup ((q.filter fun p => decide (p.2 < win s p.1)).map fun p => eNI (p.1, win s p.1 - p.2)) = eQ (overs s q) := by
    simp [eQ, overs, Function.comp_def]
  have ro : reprOk (eQ (overs s q)) = true := by
    refine reprOk_Q (fun p hp => ?_) (by simp [overs]; omega)
    obtain ⟨z, hz, rfl⟩ := List.mem_map.mp hp
    have h1 := rg z (List.mem_filter.mp hz).1
    have h2 := win_le s z.1
    show (win s z.1 - z.2).natAbs < _
    omega
  have aq := fun g => are_quotas_ok (n + 2) g (eQ_pure q)
  rw [hq.2] at aq
  have L1 := forC_inv (f := stepF (run D WW (n + 8)) WW (.name 6) L1__law_right) (ok := fun _ => true) (e := fun (i : Nat) => PV.int i)
    (fun rest env g => ∃ m6 m11 m12 m13 m14 m15 y i, env = [some (.ref l), some (eS s), m2, m3, some (eQ q), some (eQ (overs s q)), m6, none, none, m9, m10, m11, m12, m13, m14, m15, none, none, none, none, none, none] ∧ g = y ++ i ∧ Step l h4 y) (by
      rintro k rest env g ⟨m6, m11, m12, m13, m14, m15, y, i, rfl, rfl, st⟩
      have cy := st.cup c4
      obtain ⟨n11, n12, n13, n14, n15, y2, i2, e, st2⟩ := turn1 n (cy.app i) (s := s) (q := q) (.int k) m2 m3 (some (eQ (overs s q))) m9 m10 m11 m12 m13 m14 m15 (by omega) up hq rg
      obtain ⟨y3, rfl, t3⟩ := st2.app cy
      rw [List.append_assoc] at e
      refine ⟨_, _, e, rfl, _, _, _, _, _, _, y3, ?_, rfl, ?_, st.trans t3⟩
      · exact (if (envR (y ++ i).length [some (.ref l), some (eS s), m2, m3, some (eQ q), some (eQ (overs s q)), some (.int k), none, none, m9, m10, n11, n12, n13, n14, n15, none, none, none, none, none, none] && clean (y ++ i).length (y ++ i) (y3 ++ (i ++ i2))) = true then i else i ++ i2)
      · unfold gcE
        show (if (envR (y ++ i).length _ && _) = true then _ else _) = _
        split
        · rw [List.length_append, ← t3.len, ← List.append_assoc, ← List.length_append, List.take_left]
        · rfl) (List.range' 0 4) [some (.ref l), some (eS s), m2, m3, some (eQ q), some (eQ (overs s q)), none, none, none, m9, m10, none, none, none, none, none, none, none, none, none, none, none] (h4 ++ (j ++ [.lst ((q.filter fun p => decide (p.2 < win s p.1)).map fun p => eNI (p.1, win s p.1 - p.2))])) ⟨_, _, _, _, _, _, h4, _, rfl, rfl, c4.refl⟩
  obtain ⟨env, h5', e5, m6, m11, m12, m13, m14, m15, h5, i5, rfl, rfl, s5⟩ := L1
  rw [← rng_eq] at e5
  obtain ⟨g6, e6⟩ := tail_ok n (h5 ++ i5) (some (.ref l)) (some (eS s)) m2 m3 (some (eQ q)) (some (eQ (overs s q))) m6 none none m9 m10 m11 m12 m13 m14 m15 none none none none none none
  have st := (s1.trans t4).trans s5
  refine ⟨h5, ?_, st⟩
  have eb : b__law_right = .cons (b__law_right.at 0) (.cons (b__law_right.at 1) (.cons (b__law_right.at 2) (.cons (b__law_right.at 3) (.cons (b__law_right.at 4) (.cons (b__law_right.at 5) (.cons (b__law_right.at 6) tailR)))))) := rfl
  have ed : d__law_right.body = b__law_right := rfl
  have a0 : b__law_right.at 0 = .set 1 (.call f__law_tree_store (.cons (.var 0) (.cons (.lit (.int 12)) .nil))) := rfl
  rw [ed, eb]
  have sm5 : small 5 = true := by decide
  have sm4 : small 4 = true := by decide
  have i12 : ((12 : Nat) : Int) = 12 := rfl
  rw [i12] at e1
  simp only [List.map_cons, List.map_nil] at e3
  simp -implicitDefEqProofs [-forC_cons, d__law_right, b__law_right, e1, e2, e3, e4, hs', f2, fold_eNI, ov, fo, ro, aq, e5, e6, st.gcR, sm5, sm4]
end PL
set_option autoImplicit false
set_option linter.all false
namespace PL
open PySem
local macro_rules | `(thq $r $f) => `(@thx _ _ $r ⟨$f⟩)
/-! ### stores by nodes -/
def hkN (ns : List Node) (k : Nat) : List Node := ((ns.filter fun a => decide (k ≤ a.subs.length)).map fun a => a.pre k).foldl addKey []
def kidsN (ns : List Node) (a : Node) : List Node := (hkN ns (a.subs.length + 1)).filter fun b => within b a
def upN (ns : List Node) : Bool := (ns.zip ns.tail).all fun q => nlt q.1 q.2
theorem srt_same {ns : List Node} (h : upN ns = true) : srt nrk ns = ns := by
  have := (zip_up nlt (fun _ _ _ => nlt_trans) ns).mp h
  refine List.mergeSort_of_pairwise (this.imp fun {a b} q => ?_)
  have : ltv (nrk b) (nrk a) = false := nlt_asymm q
  simp [this]
theorem headsK_nodes (s : Store) (k : Nat) : headsK s k = hkN (s.map (·.1)) k := by
  rw [headsK_eq]
  unfold hkN
  rw [List.filter_map, List.map_map]
  rfl
theorem heads_nodes {s : Store} {k : Nat} (h : upN (hkN (s.map (·.1)) k) = true) : heads s k = hkN (s.map (·.1)) k := by
  unfold heads
  rw [headsK_nodes, srt_same h]
theorem kids_nodes {s : Store} {a : Node} (h : upN (hkN (s.map (·.1)) (a.subs.length + 1)) = true) : kids s a = kidsN (s.map (·.1)) a := by
  unfold kids
  rw [heads_nodes h]
  rfl
theorem upB_nodes (s : Store) : upB s = upN (s.map (·.1)) := by
  unfold upB upN
  rw [zip_tail, List.all_map]
  rfl
theorem win_nodes {s : Store} {b : Node} {w : Int} (h : ∀ p ∈ s, wof p.1 p.2 = w) : win s b = (((s.map (·.1)).filter fun a => within a b).length : Int) * w := by
  unfold win
  rw [List.filter_map, List.length_map]
  have : ∀ xs : Store, (∀ p ∈ xs, wof p.1 p.2 = w) → (xs.map fun p => wof p.1 p.2).sum = (xs.length : Int) * w := by
    intro xs
    induction xs with
    | nil => intro _; simp
    | cons x xs ih =>
      intro h
      rw [List.map_cons, List.sum_cons, h x List.mem_cons_self, ih fun p hp => h p (List.mem_cons_of_mem _ hp), List.length_cons]
      rw [Int.natCast_add, Int.add_mul]
      simp; omega
  rw [this _ fun p hp => h p (List.mem_filter.mp hp).1]
  rfl
theorem maxI_same {w : Int} : ∀ xs : List Int, (∀ x ∈ xs, x = w) → maxI w xs = w
  | [], _ => rfl
  | x :: xs, h => by
    have h1 : maxI w (x :: xs) = maxI (if w < x then x else w) xs := rfl
    have := h x List.mem_cons_self
    rw [h1, this, if_neg (by omega)]
    exact maxI_same xs fun y hy => h y (List.mem_cons_of_mem _ hy)
theorem best_same {s : Store} {w : Int} {c : Node} {L : List Node} (h : ∀ a ∈ c :: L, win s a = w) : best s (c :: L) = some c := by
  unfold best
  have e : maxL ((c :: L).map (win s)) = w := by
    show maxI (win s c) (L.map (win s)) = w
    rw [h c List.mem_cons_self]
    refine maxI_same _ fun x hx => ?_
    obtain ⟨a, ha, rfl⟩ := List.mem_map.mp hx
    exact h a (List.mem_cons_of_mem _ ha)
  rw [e, List.filter_cons, if_pos (by simpa using h c List.mem_cons_self)]
  rfl
/-! ### the law's own stores -/
def nA (i : List Nat) (h : fitsText (.str i) = true) (f : fitsNode (.tup [.str [97], .tup [.str i, .str [120]]]) = true) : Node := ⟨[97], [⟨i, h⟩, ⟨[120], by decide⟩], f⟩
def ns10 : List Node := [nA [48] (by decide) (by decide), nA [49] (by decide) (by decide), nA [50] (by decide) (by decide), nA [51] (by decide) (by decide), nA [52] (by decide) (by decide), nA [53] (by decide) (by decide), nA [54] (by decide) (by decide), nA [55] (by decide) (by decide), nA [56] (by decide) (by decide), nA [57] (by decide) (by decide)]
def st1 (k : Nat) (t : Txt) : Store := (ns10.take k).map fun a => (a, t)
theorem st1_nodes (k : Nat) (t : Txt) : (st1 k t).map (·.1) = ns10.take k := by
  unfold st1
  rw [List.map_map]
  exact List.map_id _
def rA : Node := root [97] (by decide)
def rA0 : Node := ⟨[97], [⟨[48], by decide⟩], by decide⟩
def rA0x : Node := nA [48] (by decide) (by decide)
theorem key8 : ∀ a ∈ ns10, (nkey a).length = 8 := by decide +kernel
theorem ns_up : ∀ k ∈ [2, 3, 4, 5, 6, 7, 8, 9], upN (ns10.take k) = true ∧ upN (hkN (ns10.take k) 1) = true ∧ upN (hkN (ns10.take k) 2) = true ∧ upN (hkN (ns10.take k) 3) = true := by decide +kernel
theorem ns_kids : ∀ k ∈ [2, 3, 4, 5, 6, 7, 8, 9], (kidsN (ns10.take k) rA).head? = some rA0 ∧ kidsN (ns10.take k) rA0 = [rA0x] ∧ hkN (ns10.take k) 3 = [] ∧ (∀ c ∈ kidsN (ns10.take k) rA, ((ns10.take k).filter fun a => within a c).length = 1) ∧ ((ns10.take k).filter fun a => within a rA).length = k ∧ ((ns10.take k).filter fun a => within a rA0).length = 1 ∧ ((ns10.take k).filter fun a => within a rA0x).length = 1 := by decide +kernel
section
variable {k : Nat} {t : Txt}
theorem st1_wof (k : Nat) (t : Txt) : ∀ p ∈ st1 k t, wof p.1 p.2 = 10 + (t.s.length : Int) := by
  intro p hp
  obtain ⟨a, ha, rfl⟩ := List.mem_map.mp hp
  have := key8 a (List.mem_of_mem_take ha)
  show 2 + ((nkey a).length : Int) + _ = _
  rw [this]
  show 2 + 8 + (t.s.length : Int) = _
  omega
theorem st1_len (hk : k ∈ [2, 3, 4, 5, 6, 7, 8, 9]) : (st1 k t).length = k := by
  simp at hk
  unfold st1
  rw [List.length_map, List.length_take]
  show min k 10 = k
  omega
theorem st1_ok (hk : k ∈ [2, 3, 4, 5, 6, 7, 8, 9]) : okSt (st1 k t) := by
  refine ⟨?_, ?_⟩
  · rw [st1_len hk]; simp at hk; omega
  · rw [upB_nodes, st1_nodes]; exact (ns_up k hk).1
theorem st1_kids (hk : k ∈ [2, 3, 4, 5, 6, 7, 8, 9]) : ∃ L, kids (st1 k t) rA = rA0 :: L ∧ ∀ c ∈ rA0 :: L, win (st1 k t) c = 10 + (t.s.length : Int) := by
  obtain ⟨u1, u2, u3, u4⟩ := ns_up k hk
  obtain ⟨k1, k2, k3, k4, k5, k6, k7⟩ := ns_kids k hk
  have e : kids (st1 k t) rA = kidsN (ns10.take k) rA := by
    rw [kids_nodes, st1_nodes]
    rw [st1_nodes]; exact u2
  cases h : kidsN (ns10.take k) rA with
  | nil => rw [h] at k1; cases k1
  | cons c L =>
    rw [h] at k1 k4 e
    have : c = rA0 := Option.some.inj k1
    subst this
    refine ⟨L, e, fun c hc => ?_⟩
    rw [win_nodes (st1_wof k t), st1_nodes, k4 c hc]
    omega
theorem st1_win (hk : k ∈ [2, 3, 4, 5, 6, 7, 8, 9]) : win (st1 k t) rA = (k : Int) * (10 + (t.s.length : Int)) ∧ win (st1 k t) rA0 = 10 + (t.s.length : Int) ∧ win (st1 k t) rA0x = 10 + (t.s.length : Int) := by
  obtain ⟨k1, k2, k3, k4, k5, k6, k7⟩ := ns_kids k hk
  refine ⟨?_, ?_, ?_⟩ <;> rw [win_nodes (st1_wof k t), st1_nodes]
  · rw [k5]
  · rw [k6]; omega
  · rw [k7]; omega
theorem st1_way (hk : k ∈ [2, 3, 4, 5, 6, 7, 8, 9]) : way (st1 k t) 8 rA = [rA, rA0, rA0x] := by
  obtain ⟨u1, u2, u3, u4⟩ := ns_up k hk
  obtain ⟨k1, k2, k3, k4, k5, k6, k7⟩ := ns_kids k hk
  obtain ⟨w1, w2, w3⟩ := st1_win (t := t) hk
  obtain ⟨L, e, hL⟩ := st1_kids (t := t) hk
  have b1 : best (st1 k t) (kids (st1 k t) rA) = some rA0 := by rw [e]; exact best_same hL
  have e2 : kids (st1 k t) rA0 = [rA0x] := by
    rw [kids_nodes, st1_nodes, k2]
    rw [st1_nodes]; exact u3
  have b2 : best (st1 k t) (kids (st1 k t) rA0) = some rA0x := by
    rw [e2]
    exact best_same (w := 10 + (t.s.length : Int)) fun a ha => by rw [List.mem_singleton.mp ha]; exact w3
  have e3 : kids (st1 k t) rA0x = [] := by
    rw [kids_nodes, st1_nodes]
    · show (hkN (ns10.take k) 3).filter _ = []
      rw [k3]; rfl
    · rw [st1_nodes]; exact u4
  have b3 : best (st1 k t) (kids (st1 k t) rA0x) = none := by rw [e3]; rfl
  have p1 : 0 < win (st1 k t) rA := by
    rw [w1]
    have : 2 ≤ k := by simp at hk; omega
    exact Int.mul_pos (by omega) (by omega)
  have p2 : 0 < win (st1 k t) rA0 := by rw [w2]; omega
  have p3 : 0 < win (st1 k t) rA0x := by rw [w3]; omega
  rw [way, if_pos p1, b1]
  dsimp only
  rw [way, if_pos p2, b2]
  dsimp only
  rw [way, if_pos p3, b3]
theorem st1_mid (hk : k ∈ [2, 3, 4, 5, 6, 7, 8, 9]) : middleV (st1 k t) rA = if k = 2 then eN rA0x else eN rA := by
  obtain ⟨w1, w2, w3⟩ := st1_win (t := t) hk
  unfold middleV halves
  rw [st1_way hk]
  have hk2 : 2 ≤ k := by simp at hk; omega
  by_cases h : k = 2
  · subst h
    simp [w1, w2, w3]
  · have h3 : 3 ≤ k := by omega
    have n1 : ¬ (k : Int) * (10 + (t.s.length : Int)) ≤ 2 * (10 + (t.s.length : Int)) := by
      intro z
      have : (3 : Int) * (10 + (t.s.length : Int)) ≤ (k : Int) * (10 + (t.s.length : Int)) := Int.mul_le_mul_of_nonneg_right (by omega) (by omega)
      omega
    have n2 : (k : Int) * (10 + (t.s.length : Int)) ≤ 2 * ((k : Int) * (10 + (t.s.length : Int))) := by
      have : 0 ≤ (k : Int) * (10 + (t.s.length : Int)) := Int.mul_nonneg (by omega) (by omega)
      omega
    simp [w1, w2, w3, n1, n2, h]
theorem st1_three (hk : k ∈ [2, 3, 4, 5, 6, 7, 8, 9]) : weights (st1 k t) 3 = [] := by
  obtain ⟨u1, u2, u3, u4⟩ := ns_up k hk
  obtain ⟨k1, k2, k3, k4, k5, k6, k7⟩ := ns_kids k hk
  unfold weights
  rw [heads_nodes, st1_nodes, k3]
  · rfl
  · rw [st1_nodes]; exact u4
theorem st1_fold (hk : k ∈ [2, 3, 4, 5, 6, 7, 8, 9]) : ((List.range' 0 k).map fun (i : Nat) => PV.tup [.tup [.str [97], .tup [.str (numText i), .str [120]]], .str t.s]) = (st1 k t).map ePr := by
  simp at hk
  rcases hk with rfl | rfl | rfl | rfl | rfl | rfl | rfl | rfl <;> rfl
end
/-! ### and the second -/
def a1 : Node := ⟨[97], [⟨[49], by decide⟩], by decide⟩
def a2 : Node := ⟨[97], [⟨[50], by decide⟩], by decide⟩
def nB : Node := root [98] (by decide)
def st2 (t u : Txt) : Store := [(rA, t), (a1, u)]
theorem st2_facts : upN [rA, a1] = true ∧ upN (hkN [rA, a1] 1) = true ∧ upN (hkN [rA, a1] 2) = true ∧ kidsN [rA, a1] rA = [a1] ∧ kidsN [rA, a1] a1 = [] ∧ (nkey rA).length = 2 ∧ (nkey a1).length = 5 ∧ within rA rA = true ∧ within a1 rA = true ∧ within rA a1 = false ∧ within a1 a1 = true ∧ within a2 rA = true ∧ within a2 a1 = false ∧ within nB rA = false ∧ within nB a1 = false ∧ rA ≠ a1 ∧ nlt rA a1 = true := by decide +kernel
section
variable {t u : Txt}
theorem st2_ok : okSt (st2 t u) := ⟨by simp [st2], by rw [upB_nodes]; exact st2_facts.1⟩
theorem st2_win : win (st2 t u) rA = 11 + (t.s.length : Int) + u.s.length ∧ win (st2 t u) a1 = 7 + (u.s.length : Int) := by
  obtain ⟨f1, f2, f3, f4, f5, f6, f7, f8, f9, f10, f11, f12, f13, f14, f15, f16, f17⟩ := st2_facts
  constructor
  · simp [win, st2, f8, f9, wof, f6, f7]; omega
  · simp [win, st2, f10, f11, wof, f7]
theorem st2_way : way (st2 t u) 8 rA = [rA, a1] := by
  obtain ⟨f1, f2, f3, f4, f5, f6, f7, f8, f9, f10, f11, f12, f13, f14, f15, f16, f17⟩ := st2_facts
  obtain ⟨w1, w2⟩ := st2_win (t := t) (u := u)
  have k1 : kids (st2 t u) rA = [a1] := by rw [kids_nodes (s := st2 t u) (a := rA) f2]; exact f4
  have k2 : kids (st2 t u) a1 = [] := by rw [kids_nodes (s := st2 t u) (a := a1) f3]; exact f5
  have b1 : best (st2 t u) (kids (st2 t u) rA) = some a1 := by
    rw [k1]
    exact best_same (w := win (st2 t u) a1) fun a ha => by rw [List.mem_singleton.mp ha]
  have b2 : best (st2 t u) (kids (st2 t u) a1) = none := by rw [k2]; rfl
  rw [way, if_pos (by rw [w1]; omega), b1]
  dsimp only
  rw [way, if_pos (by rw [w2]; omega), b2]
theorem st2_mid (h : u.s.length = t.s.length + 3) : middleV (st2 t u) rA = eN a1 := by
  obtain ⟨w1, w2⟩ := st2_win (t := t) (u := u)
  unfold middleV halves
  rw [st2_way]
  have n1 : (11 : Int) + t.s.length + u.s.length ≤ 2 * (11 + t.s.length + u.s.length) := by omega
  have n2 : (11 : Int) + t.s.length + u.s.length ≤ 2 * (7 + u.s.length) := by omega
  simp [w1, w2, n1, n2]
def q2 (z : Nat) : Quotas := [(rA, 2 * (z : Int) + 14), (a1, (z : Int) + 9)]
theorem q2_ok {z : Nat} (h : z ≤ 99) : okQ (q2 z) := by
  obtain ⟨f1, f2, f3, f4, f5, f6, f7, f8, f9, f10, f11, f12, f13, f14, f15, f16, f17⟩ := st2_facts
  refine ⟨by simp [q2], ?_⟩
  rw [fitsQ_typed]
  · have e : upQ (q2 z) = true := by
      unfold upQ q2
      simp
      exact f17
    rw [e]
    simp [q2]
  · intro p hp
    simp [q2] at hp
    rcases hp with rfl | rfl <;> simp <;> omega
theorem q2_over (h : u.s.length = t.s.length + 3) : overs (st2 t u) (q2 t.s.length) = [(a1, 1)] := by
  obtain ⟨w1, w2⟩ := st2_win (t := t) (u := u)
  have n1 : ¬ (2 * (t.s.length : Int) + 14 < win (st2 t u) rA) := by rw [w1]; omega
  have n2 : (t.s.length : Int) + 9 < win (st2 t u) a1 := by rw [w2]; omega
  have n3 : win (st2 t u) a1 - ((t.s.length : Int) + 9) = 1 := by rw [w2]; omega
  simp [overs, q2, n1, n2, n3]
theorem q2_room (h : u.s.length = t.s.length + 3) : roomV (st2 t u) (q2 t.s.length) a2 = .int 0 := by
  obtain ⟨f1, f2, f3, f4, f5, f6, f7, f8, f9, f10, f11, f12, f13, f14, f15, f16, f17⟩ := st2_facts
  obtain ⟨w1, w2⟩ := st2_win (t := t) (u := u)
  have e : roomL (st2 t u) (q2 t.s.length) a2 = [0] := by
    simp [roomL, q2, f12, f13, w1]; omega
  unfold roomV
  rw [e]
  rfl
theorem win_put_list (s : Store) (a own : Node) (t : Txt) : win (put s a t) own = win (s.filter (fun p => !decide (p.1 = a)) ++ [(a, t)]) own := perm_sum (((List.mergeSort_perm _ _ : (put s a t).Perm _).filter _).map _)
theorem q2_put (h : u.s.length = t.s.length + 3) (v : Txt) : canPut (st2 t u) (q2 t.s.length) rA v = decide (v.s.length ≤ t.s.length) := by
  obtain ⟨f1, f2, f3, f4, f5, f6, f7, f8, f9, f10, f11, f12, f13, f14, f15, f16, f17⟩ := st2_facts
  have n : ¬ a1 = rA := fun e => f16 e.symm
  have e1 : win (put (st2 t u) rA v) rA = 11 + (v.s.length : Int) + u.s.length := by
    rw [win_put_list]
    simp [st2, n, win, f8, f9, wof, f6, f7]; omega
  have e2 : roomL (put (st2 t u) rA v) (q2 t.s.length) rA = [(t.s.length : Int) - v.s.length] := by
    simp [roomL, q2, f8, f10, e1]; omega
  unfold canPut
  rw [e2]
  have e3 : minL [(t.s.length : Int) - v.s.length] = (t.s.length : Int) - v.s.length := rfl
  rw [e3, Bool.eq_iff_iff]
  simp
theorem q2_putB (v : Txt) : canPut (st2 t u) (q2 t.s.length) nB v = true := by
  obtain ⟨f1, f2, f3, f4, f5, f6, f7, f8, f9, f10, f11, f12, f13, f14, f15, f16, f17⟩ := st2_facts
  unfold canPut
  have e2 : roomL (put (st2 t u) nB v) (q2 t.s.length) nB = [] := by
    simp [roomL, q2, f14, f15]
  rw [e2]; rfl
end
def txR (k : Nat) (h : k ≤ 255) : Txt := ⟨repN k [116], repN_fits k 116 h (by decide)⟩
theorem txR_len (k : Nat) (h : k ≤ 255) : (txR k h).s.length = k := by
  unfold txR
  show (repN k [116]).length = k
  unfold repN
  simp
theorem rp_gen (a b c v : Node) {i j : Int} (hi : i.natAbs < 1000000000000) (hj : j.natAbs < 1000000000000) : reprOk (.tup [.int i, .tup [eN a, eN b, eN c], eN v, .int j, .tup []]) = true := by
  have d1 := eN_depth a
  have d2 := eN_depth b
  have d3 := eN_depth c
  have d4 := eN_depth v
  have z1 := shSz_N a
  have z2 := shSz_N b
  have z3 := shSz_N c
  have z4 := shSz_N v
  have i1 := shSz_int hi
  have i2 := shSz_int hj
  refine reprOk_of (fit_of (by simp) ?_) ?_
  · simp only [depth_tup, depths_cons, depths_nil, depth_int]; omega
  · simp only [shSz_tup, shSzs_cons, shSzs_nil, i1, i2]; omega
theorem written_ok (n : Nat) {l : Nat} {h : Hv} (c : CupAt l h) : ∃ h', run D WW (n + 9) f__law_written_right [.ref l] h = .ok (.bl true, h') ∧ Step l h h' := by
  rw [run_eq d__law_written_right rfl rfl]
  obtain ⟨i, h1, e1, s1, i1, i2⟩ := roll_ok (n + 7) c 8 (by decide) (by decide)
  obtain ⟨i, rfl⟩ := Int.eq_ofNat_of_zero_le i1
  have c1 := s1.cup c
  obtain ⟨z, h2, e2, s2, z1, z2⟩ := roll_ok (n + 7) c1 99 (by decide) (by decide)
  obtain ⟨z, rfl⟩ := Int.eq_ofNat_of_zero_le z1
  have st := s1.trans s2
  obtain ⟨k, hk⟩ : ∃ k, k = 2 + i := ⟨_, rfl⟩
  have hk' : (2 : Int) + (i : Int) = (k : Int) := by omega
  have km : k ∈ [2, 3, 4, 5, 6, 7, 8, 9] := by simp; omega
  have zl : z ≤ 255 := by omega
  have zl3 : z + 3 ≤ 255 := by omega
  have zl1 : z + 1 ≤ 255 := by omega
  have smk : small k = true := small_le (by omega)
  obtain ⟨t, ht⟩ : ∃ t, t = txR z zl := ⟨_, rfl⟩
  obtain ⟨t3, ht3⟩ : ∃ t, t = txR (z + 3) zl3 := ⟨_, rfl⟩
  have tl : t.s.length = z := by rw [ht]; exact txR_len z zl
  have tl3 : t3.s.length = t.s.length + 3 := by rw [ht3, tl]; exact txR_len (z + 3) zl3
  have ets : repN z [116] = t.s := by rw [ht]; rfl
  have ets3 : repN (z + 3) [116] = t3.s := by rw [ht3]; rfl
  have lg : ∀ k, k ≤ 1000 → Nat.log2 k < 1920 := fun k hk => by
    by_cases z : k = 0
    · rw [z]; decide
    · exact (Nat.log2_lt z).mpr (Nat.lt_of_le_of_lt hk (Nat.lt_of_lt_of_le (by decide : 1000 < 2 ^ 10) (Nat.pow_le_pow_right (by decide) (by decide))))
  have r1 : z ≤ 1000000 := by omega
  have r2 : z < 4611686018427387904 := by omega
  have r3 : -4611686018427387904 < (z : Int) := by omega
  have em : mapCm (fun (x : Nat) (g : Hv) => if x.log2 < 1920 then (.ok (some (.tup [.tup [.str [97], .tup [.str (numText x), .str [120]]], .str t.s]), g) : R (Option PV)) else stk) (fun _ => true) (List.range' 0 k) h2 = .ok ((st1 k t).map ePr, h2) := by
    rw [mapCm_opt (r := fun x : Nat => some (PV.tup [.tup [.str [97], .tup [.str (numText x), .str [120]]], .str t.s])) rfl]
    · rw [← st1_fold km]
      simp
    · intro x hx
      have : x < k := by
        obtain ⟨j, hj, e⟩ := List.mem_range'.mp hx
        omega
      exact ⟨[], by rw [if_pos (lg x (by omega)), List.append_nil]⟩
    · intro x _ v e
      cases e
      simp
  have ok1 := st1_ok (t := t) km
  obtain ⟨w1, w2, w3⟩ := st1_win (t := t) km
  rw [tl] at w1 w2 w3
  have fS : PV.tup ((st1 k t).map ePr) = eS (st1 k t) := rfl
  have sl : (st1 k t).length ≤ 1000000 := by have := ok1.1; omega
  have fA : PV.tup [.str [97], .tup []] = eN rA := rfl
  have fA0 : PV.tup [.str [97], .tup [.str [48]]] = eN rA0 := rfl
  have fA0x : PV.tup [.str [97], .tup [.str [48], .str [120]]] = eN rA0x := rfl
  have fa1 : PV.tup [.str [97], .tup [.str [49]]] = eN a1 := rfl
  have fa2 : PV.tup [.str [97], .tup [.str [50]]] = eN a2 := rfl
  have fnB : PV.tup [.str [98], .tup []] = eN nB := rfl
  have c1w := fun g => weight_ok n g rA ok1
  have c2w := fun g => weight_ok n g rA0 ok1
  rw [w1] at c1w
  rw [w2] at c2w
  have c3 : ∀ g, run D WW (n + 8) f_heaviest_way [eS (st1 k t), .str [97]] g = .ok (.tup [eN rA, eN rA0, eN rA0x], g) := fun g => by
    have := heaviest_way_ok (nm := [97]) n g (by decide) ok1
    rw [show root [97] _ = rA from rfl, st1_way km] at this
    exact this
  have c4 : ∀ g, run D WW (n + 8) f_middle_node [eS (st1 k t), .str [97]] g = .ok (if k = 2 then eN rA0x else eN rA, g) := fun g => by
    have := middle_node_ok (nm := [97]) n g (by decide) ok1
    rw [show root [97] _ = rA from rfl, st1_mid km] at this
    exact this
  have c5 : ∀ g, run D WW (n + 8) f_weights_at [eS (st1 k t), .int 3] g = .ok (.tup [], g) := fun g => by
    have := weights_at_ok n g 3 (by decide) ok1
    rw [st1_three km] at this
    exact this
  have mk : mulOk (k : Int) (10 + (z : Int)) = true := mulOk_l (by omega) (by simp at km; omega)
  obtain ⟨t1, ht1⟩ : ∃ t, t = txR (z + 1) zl1 := ⟨_, rfl⟩
  have tl1 : t1.s.length = z + 1 := by rw [ht1]; exact txR_len (z + 1) zl1
  have ets1 : repN (z + 1) [116] = t1.s := by rw [ht1]; rfl
  have rn3 : ((z : Int) + 3).toNat = z + 3 := by omega
  have fS2 : PV.tup [.tup [eN rA, .str t.s], .tup [eN a1, .str t3.s]] = eS (st2 t t3) := rfl
  have fQ2 : PV.tup [.tup [eN rA, .int (2 * (z : Int) + 14)], .tup [eN a1, .int ((z : Int) + 9)]] = eQ (q2 z) := rfl
  have ok2 := st2_ok (t := t) (u := t3)
  have okq := q2_ok (z := z) (by omega)
  have cp1 : ∀ g, run D WW (n + 8) f_can_put [eS (st2 t t3), eQ (q2 z), eN rA, .str t.s] g = .ok (.bl true, g) := fun g => by
    have := can_put_ok (a := rA) (t := t) n g ok2 okq
    rw [← tl, q2_put tl3 t, decide_eq_true (Nat.le_refl _)] at this
    rw [← tl]
    exact this
  have cp2 : ∀ g, run D WW (n + 8) f_can_put [eS (st2 t t3), eQ (q2 z), eN rA, .str t1.s] g = .ok (.bl false, g) := fun g => by
    have := can_put_ok (a := rA) (t := t1) n g ok2 okq
    rw [← tl, q2_put tl3 t1, decide_eq_false (by omega)] at this
    rw [← tl]
    exact this
  have cp3 : ∀ g, run D WW (n + 8) f_can_put [eS (st2 t t3), eQ (q2 z), eN nB, .str [120]] g = .ok (.bl true, g) := fun g => by
    have := can_put_ok (a := nB) (t := ⟨[120], by decide⟩) n g ok2 okq
    rw [← tl, q2_putB] at this
    rw [← tl]
    exact this
  have c6 : ∀ g, run D WW (n + 8) f_middle_node [eS (st2 t t3), .str [97]] g = .ok (eN a1, g) := fun g => by
    have := middle_node_ok (nm := [97]) n g (by decide) ok2
    rw [show root [97] _ = rA from rfl, st2_mid tl3] at this
    exact this
  have c7 : ∀ g, run D WW (n + 8) f_over [eS (st2 t t3), eQ (q2 z)] g = .ok (.tup [.tup [eN a1, .int 1]], g) := fun g => by
    have := over_ok n g ok2 okq
    rw [← tl, q2_over tl3] at this
    rw [← tl]
    exact this
  have c8 : ∀ g, run D WW (n + 8) f_room [eS (st2 t t3), eQ (q2 z), eN a2] g = .ok (.int 0, g) := fun g => by
    have := room_ok (a := a2) n g ok2 okq
    rw [← tl, q2_room tl3] at this
    rw [← tl]
    exact this
  have rp2 : reprOk (.tup [eN a1, .tup [.tup [eN a1, .int 1]], .int 0, .bl true, .bl false, .bl true]) = true := by decide +kernel
  have rp1 : ∀ v : PV, v = eN rA ∨ v = eN rA0x → reprOk (.tup [.int ((k : Int) * (10 + (z : Int))), .tup [eN rA, eN rA0, eN rA0x], v, .int (10 + (z : Int)), .tup []]) = true := by
    intro v hv
    have b1 : (k : Int) * (10 + (z : Int)) ≤ 9 * 200 := Int.mul_le_mul (by simp at km; omega) (by omega) (by omega) (by omega)
    have b0 : 0 ≤ (k : Int) * (10 + (z : Int)) := Int.mul_nonneg (by omega) (by omega)
    rcases hv with rfl | rfl
    · exact rp_gen _ _ _ _ (by omega) (by omega)
    · exact rp_gen _ _ _ _ (by omega) (by omega)
  have rpA := rp1 _ (.inl rfl)
  have rpX := rp1 _ (.inr rfl)
  have gp := st.gcR (v := .bl true) (by simp)
  refine ⟨h2, ?_, st⟩
  by_cases k2 : k = 2
  · rw [if_pos k2] at c4
    simp -implicitDefEqProofs [d__law_written_right, b__law_written_right, e1, e2, hk', smk, rng_eq, r1, r2, r3, ets, em, fS, sl, fA, fA0, fA0x, fa1, fa2, fnB, c1w, c2w, c3, c4, c5, mk, rn3, ets3, ets1, fS2, fQ2, cp1, cp2, cp3, c6, c7, c8, rp2, rpX, gp]
    rw [if_pos k2, if_pos ⟨⟨le_line (by omega), by omega⟩, by omega⟩, if_pos (mulOk_l (by decide) (by decide)), if_pos ⟨⟨le_line (by omega), by omega⟩, by omega⟩]
  · rw [if_neg k2] at c4
    simp -implicitDefEqProofs [d__law_written_right, b__law_written_right, e1, e2, hk', smk, rng_eq, r1, r2, r3, ets, em, fS, sl, fA, fA0, fA0x, fa1, fa2, fnB, c1w, c2w, c3, c4, c5, mk, rn3, ets3, ets1, fS2, fQ2, cp1, cp2, cp3, c6, c7, c8, rp2, rpA, gp]
    rw [if_neg k2, if_pos ⟨⟨le_line (by omega), by omega⟩, by omega⟩, if_pos (mulOk_l (by decide) (by decide)), if_pos ⟨⟨le_line (by omega), by omega⟩, by omega⟩]
end PL
set_option autoImplicit false
set_option linter.all false
namespace PL
open PySem
local macro_rules | `(thq $r $f) => `(@thx _ _ $r ⟨$f⟩)
@[simp] theorem rb_fl (n : Nat) (xs : List PV) : PV.rb n (.fl xs) = PV.rbs n xs := by rw [PV.rb]
@[simp] theorem list_fl (x : List PV) (h : Hv) : evBl1 .list (.fl x) h = .ok (.ref h.length, h ++ [.lst x]) := rfl
theorem cup_ok (n : Nat) (h : Hv) (xs : List Int) (hx : xs.length ≤ 1000) : ∃ a b, run D WW (n + 1) f__law_cup [.fl (xs.map .int)] h = .ok (.ref h.length, h ++ [cupO a b]) ∧ 0 ≤ b ∧ b < 2 ^ 62 := by
  rw [run_eq d__law_cup rfl rfl]
  obtain ⟨c, hc⟩ : ∃ c : Int, (xs.map PV.int ++ [PV.int 0]).head? = some (.int c) := by
    cases xs with
    | nil => exact ⟨0, rfl⟩
    | cons x xs => exact ⟨x, rfl⟩
  have l1 : xs.length + 1 ≤ 1000000 := by omega
  generalize hz : (if c < 0 then -c else c) = z
  have z0 : 0 ≤ z := by rw [← hz]; split <;> omega
  have m1 : mulOk z 349 = true := mulOk_r (by decide) (by decide)
  generalize hb : (z * 349 + 3851).fmod 2077503101 = b
  have b0 : 0 ≤ b := by rw [← hb]; exact Int.fmod_nonneg_of_pos _ (by decide)
  have b1 : b < 2077503101 := by rw [← hb]; exact Int.fmod_lt_of_pos _ (by decide)
  refine ⟨if 1000000000000000000 ≤ z then z.fdiv 131 else 0, b + 227, ?_, by omega, by omega⟩
  by_cases g : 1000000000000000000 ≤ z
  · simp [d__law_cup, b__law_cup, l1, hc, hz, g, m1, hb, cupO]
  · simp [d__law_cup, b__law_cup, l1, hc, hz, g, m1, hb, cupO]
theorem law_ok (n : Nat) (h : Hv) (xs : List Int) (hx : xs.length ≤ 1000) : run D WW (n + 10) f_law [.fl (xs.map .int)] h = .ok (.bl true, h) := by
  rw [run_eq d_law rfl rfl]
  obtain ⟨a, b, e1, b0, b1⟩ := cup_ok (n + 8) h xs hx
  have c : CupAt h.length (h ++ [cupO a b]) := ⟨a, b, by simp, b0, b1⟩
  have lp := forC_inv (f := stepF (run D WW (n + 9)) WW (.name 2) L1_law) (ok := fun _ => true) (e := fun (i : Nat) => PV.int i)
    (fun rest env g => ∃ m, env = [some (.fl (xs.map .int)), some (.ref h.length), m] ∧ Step h.length (h ++ [cupO a b]) g) (by
      rintro k rest env g ⟨m, rfl, st⟩
      obtain ⟨h', e, s⟩ := law_right_ok n (st.cup c)
      refine ⟨[some (.fl (xs.map .int)), some (.ref h.length), some (.int k)], h', ?_, rfl, _, rfl, ?_⟩
      · simp [L1_law, e]
      · rw [s.gcE0]
        · exact st.trans s
        · have := (st.cup c).lt
          simp [this]) (List.range' 0 5) [some (.fl (xs.map .int)), some (.ref h.length), none] (h ++ [cupO a b]) ⟨none, rfl, c.refl⟩
  obtain ⟨env, h2, e2, m, rfl, s2⟩ := lp
  rw [← rng_eq] at e2
  obtain ⟨h3, e3, s3⟩ := written_ok n (s2.cup c)
  have st := s2.trans s3
  have sm : small 5 = true := by decide
  obtain ⟨a', b', _, _, rfl⟩ := st
  have g : gcR (.bl true) h ((h ++ [cupO a b]).set h.length (cupO a' b')) = (.bl true, h) := by
    have : (h ++ [cupO a b]).set h.length (cupO a' b') = h ++ [cupO a' b'] := by simp [List.set_append]
    rw [this, gcR_app (by simp)]
  simp -implicitDefEqProofs [d_law, b_law, e1, e2, e3, sm, g]
end PL
set_option Elab.async false
set_option linter.all false
set_option maxRecDepth 100000
set_option maxHeartbeats 0
namespace HeadT
open PySem PySem.Spec PyProof.Rows L2
def top (i : Nat) : Stmt := PySem.Challenge.pw_deskgrove_k84_whole_weights_and_quotas.main.body.getD i (.Pass ⟨0, 0, 0, 0⟩)
def dd (x : Str) (i : Nat) : He.DefD := ⟨(x, none), x, x, defArgs (top i), defBody (top i), defScope (top i), [], []⟩
def fn : List He.DefD := [dd "is_whole" 13, dd "is_tuple_of" 14, dd "is_sign" 15, dd "fits_text" 16, dd "amount_in" 17, dd "is_canonic_text" 18, dd "rank" 19, dd "need_text" 20, dd "is_name" 26, dd "fits_subscripts" 27, dd "fits_node" 28, dd "node_rank" 29, dd "is_within" 30, dd "need_node" 31, dd "codes_of" 39, dd "subscript_key" 40, dd "key_in" 41, dd "fits_store" 44, dd "put" 45, dd "need_store" 46, dd "need_both" 47, dd "weight_of" 52, dd "weight_in" 53, dd "heads_in" 54, dd "children_of" 55, dd "way_in" 56, dd "fits_quotas" 57, dd "need_quotas" 58, dd "over_in" 59, dd "room_in" 60, dd "weight" 61, dd "weights_at" 62, dd "heaviest_way" 63, dd "middle_node" 64, dd "are_quotas" 65, dd "over" 66, dd "room" 67, dd "can_put" 68, dd "_law_cup" 70, dd "_law_roll" 71, dd "_law_some" 72, dd "_law_number" 73, dd "_law_is_canonic" 74, dd "_law_place" 75, dd "_law_node_place" 76, dd "_law_sorted" 77, dd "_law_set" 78, dd "_law_below" 79, dd "_law_subscript_key" 80, dd "_law_key" 81, dd "_law_tree_node" 82, dd "_law_tree_store" 83, dd "_law_weight" 84, dd "_law_heads" 85, dd "_law_quotas" 86, dd "_law_way" 87, dd "_law_right" 88, dd "_law_written_right" 89, dd "law" 90]
def fa : List He.Fa := [.glo "is_whole",
  .glo "is_tuple_of",
  .glo "is_sign",
  .glo "fits_text",
  .glo "amount_in",
  .glo "is_canonic_text",
  .glo "rank",
  .glo "need_text",
  .glo "is_name",
  .glo "fits_subscripts",
  .glo "fits_node",
  .glo "node_rank",
  .glo "is_within",
  .glo "need_node",
  .glo "codes_of",
  .glo "subscript_key",
  .glo "key_in",
  .glo "fits_store",
  .glo "put",
  .glo "need_store",
  .glo "need_both",
  .glo "weight_of",
  .glo "weight_in",
  .glo "heads_in",
  .glo "children_of",
  .glo "way_in",
  .glo "fits_quotas",
  .glo "need_quotas",
  .glo "over_in",
  .glo "room_in",
  .glo "weight",
  .glo "weights_at",
  .glo "heaviest_way",
  .glo "middle_node",
  .glo "are_quotas",
  .glo "over",
  .glo "room",
  .glo "can_put",
  .glo "_law_cup",
  .glo "_law_roll",
  .glo "_law_some",
  .glo "_law_number",
  .glo "_law_is_canonic",
  .glo "_law_place",
  .glo "_law_node_place",
  .glo "_law_sorted",
  .glo "_law_set",
  .glo "_law_below",
  .glo "_law_subscript_key",
  .glo "_law_key",
  .glo "_law_tree_node",
  .glo "_law_tree_store",
  .glo "_law_weight",
  .glo "_law_heads",
  .glo "_law_quotas",
  .glo "_law_way",
  .glo "_law_right",
  .glo "_law_written_right",
  .glo "law",
  .free "ValueError",
  .free "abs",
  .free "all",
  .free "bool",
  .free "dict",
  .free "enumerate",
  .free "int",
  .free "isinstance",
  .free "len",
  .free "list",
  .free "max",
  .free "min",
  .free "ord",
  .free "range",
  .free "repr",
  .free "sorted",
  .free "str",
  .free "sum",
  .free "tuple",
  .free "zip",
  .int "LONGEST" (255),
  .int "MOST_texts" (999999999999999999),
  .str "FIGURES" "0123456789",
  .str "SIGNS" "+-",
  .int "PERCENT" (37),
  .int "NAME" (8),
  .int "SUBSCRIPTS" (7),
  .int "TOGETHER" (100),
  .str "LETTERS" "ABCDEFGHIJKLMNOPQRSTUVWXYZabcdefghijklmnopqrstuvwxyz",
  .int "END" (1),
  .int "BELOW" (2),
  .int "NUMBER" (3),
  .int "OTHER" (4),
  .int "TURNED" (105),
  .int "GREATEST" (255),
  .int "NODES" (300),
  .int "QUOTAS" (10),
  .int "MOST_weights" (200000),
  .int "ROUND" (2)]
def names : List Str := (["DeskError", "InvalidText", "InvalidNode", "InvalidStore", "InvalidNumber", "InvalidQuotas", "LONGEST", "MOST_texts", "FIGURES", "SIGNS", "PERCENT", "is_whole", "is_tuple_of", "is_sign", "fits_text", "amount_in", "is_canonic_text", "rank", "need_text", "NAME", "SUBSCRIPTS", "TOGETHER", "LETTERS", "is_name", "fits_subscripts", "fits_node", "node_rank", "is_within", "need_node", "END"] : List Str) ++ (["BELOW", "NUMBER", "OTHER", "TURNED", "GREATEST", "codes_of", "subscript_key", "key_in", "NODES", "fits_store", "put", "need_store", "need_both", "QUOTAS", "MOST_weights", "ROUND", "weight_of", "weight_in", "heads_in", "children_of", "way_in", "fits_quotas", "need_quotas", "over_in", "room_in", "weight", "weights_at", "heaviest_way", "middle_node", "are_quotas"] : List Str) ++ (["over", "room", "can_put", "_law_cup", "_law_roll", "_law_some", "_law_number", "_law_is_canonic", "_law_place", "_law_node_place", "_law_sorted", "_law_set", "_law_below", "_law_subscript_key", "_law_key", "_law_tree_node", "_law_tree_store", "_law_weight", "_law_heads", "_law_quotas", "_law_way", "_law_right", "_law_written_right"] : List Str)
abbrev R : PySem.W.OpenRow := PySem.W.OpenLaw.row PySem.Challenge.rw_deskgrove_k84_whole_weights_and_quotas
def tf : List He.Defn := [("put", none), ("_law_sorted", none)]
def ex (K : PySem.W.Frag) : Bool := decide ((tf.map fun p => (He.cT K p).2).Nodup)
abbrev hk : PySem.W.Hook := He.hookX 4 fa fn [] tf ex
def ob (s : PySem.W.SharedT) : He.AlX := He.obsX 4 fa fn [] tf ex (HandSHeadRun.getT s)
theorem ob_eq (s : PySem.W.SharedT) : ob s = hk.obs s.abs := He.obsX_eq (HandSHeadRun.getT_eq s)
theorem run (w : World) : HandSHeadRun.RunEq R (PySem.W.view R.prog [90]) hk ob 20000 names w := by
  intro os
  kernel_rfl
end HeadT
set_option Elab.async false
set_option autoImplicit false
set_option linter.all false
set_option maxRecDepth 100000
set_option maxHeartbeats 0
namespace PL
open PySem PySem.Spec PyProof.Rows L2 HeadT
def consC : List (Str × PV) := [("LONGEST", .int (255)), ("MOST_texts", .int (999999999999999999)), ("FIGURES", .str [48, 49, 50, 51, 52, 53, 54, 55, 56, 57]), ("SIGNS", .str [43, 45]), ("PERCENT", .int (37)), ("NAME", .int (8)), ("SUBSCRIPTS", .int (7)), ("TOGETHER", .int (100)), ("LETTERS", .str [65, 66, 67, 68, 69, 70, 71, 72, 73, 74, 75, 76, 77, 78, 79, 80, 81, 82, 83, 84, 85, 86, 87, 88, 89, 90, 97, 98, 99, 100, 101, 102, 103, 104, 105, 106, 107, 108, 109, 110, 111, 112, 113, 114, 115, 116, 117, 118, 119, 120, 121, 122]), ("END", .int (1)), ("BELOW", .int (2)), ("NUMBER", .int (3)), ("OTHER", .int (4)), ("TURNED", .int (105)), ("GREATEST", .int (255)), ("NODES", .int (300)), ("QUOTAS", .int (10)), ("MOST_weights", .int (200000)), ("ROUND", .int (2))]
def bltB : List Str := ["ValueError", "abs", "all", "bool", "dict", "enumerate", "int", "isinstance", "len", "list", "max", "min", "ord", "range", "repr", "sorted", "str", "sum", "tuple", "zip"]
def nmsM : List Str := D.map (·.name)
section
variable {w : World} {K : PySem.W.Frag} {h base : Heap} {mg : Str → Option Value}
theorem all_con (X : K.In h) (G : h.Ns mainGlobals mg) (c : He.SaysD fa fn K) : ∀ x v, (x, v) ∈ consC → ∃ u y, mg x = some u ∧ RelV y u ∧ ∀ μ H, VR K μ H y v := by
  intro x v hx
  unfold consC at hx
  simp only [List.mem_cons, Prod.mk.injEq, List.not_mem_nil, or_false] at hx
  rcases hx with ⟨rfl, rfl⟩ | ⟨rfl, rfl⟩ | ⟨rfl, rfl⟩ | ⟨rfl, rfl⟩ | ⟨rfl, rfl⟩ | ⟨rfl, rfl⟩ | ⟨rfl, rfl⟩ | ⟨rfl, rfl⟩ | ⟨rfl, rfl⟩ | ⟨rfl, rfl⟩ | ⟨rfl, rfl⟩ | ⟨rfl, rfl⟩ | ⟨rfl, rfl⟩ | ⟨rfl, rfl⟩ | ⟨rfl, rfl⟩ | ⟨rfl, rfl⟩ | ⟨rfl, rfl⟩ | ⟨rfl, rfl⟩ | ⟨rfl, rfl⟩
  · exact con_int X G c 79 rfl
  · exact con_int X G c 80 rfl
  · exact con_str X G c 81 (by rfl) (by decide +kernel)
  · exact con_str X G c 82 (by rfl) (by decide +kernel)
  · exact con_int X G c 83 rfl
  · exact con_int X G c 84 rfl
  · exact con_int X G c 85 rfl
  · exact con_int X G c 86 rfl
  · exact con_str X G c 87 (by rfl) (by decide +kernel)
  · exact con_int X G c 88 rfl
  · exact con_int X G c 89 rfl
  · exact con_int X G c 90 rfl
  · exact con_int X G c 91 rfl
  · exact con_int X G c 92 rfl
  · exact con_int X G c 93 rfl
  · exact con_int X G c 94 rfl
  · exact con_int X G c 95 rfl
  · exact con_int X G c 96 rfl
  · exact con_int X G c 97 rfl
theorem all_blt (X : K.In h) (G : h.Ns mainGlobals mg) (c : He.SaysD fa fn K) : ∀ x ∈ bltB, mg x = none := by
  intro x hx
  unfold bltB at hx
  simp only [List.mem_cons, List.not_mem_nil, or_false] at hx
  rcases hx with rfl | rfl | rfl | rfl | rfl | rfl | rfl | rfl | rfl | rfl | rfl | rfl | rfl | rfl | rfl | rfl | rfl | rfl | rfl | rfl
  · exact free_of X G c 59 rfl
  · exact free_of X G c 60 rfl
  · exact free_of X G c 61 rfl
  · exact free_of X G c 62 rfl
  · exact free_of X G c 63 rfl
  · exact free_of X G c 64 rfl
  · exact free_of X G c 65 rfl
  · exact free_of X G c 66 rfl
  · exact free_of X G c 67 rfl
  · exact free_of X G c 68 rfl
  · exact free_of X G c 69 rfl
  · exact free_of X G c 70 rfl
  · exact free_of X G c 71 rfl
  · exact free_of X G c 72 rfl
  · exact free_of X G c 73 rfl
  · exact free_of X G c 74 rfl
  · exact free_of X G c 75 rfl
  · exact free_of X G c 76 rfl
  · exact free_of X G c 77 rfl
  · exact free_of X G c 78 rfl
theorem okd_is_whole : defB consC nmsM bltB d_is_whole ⟨(d_is_whole.name, none), d_is_whole.name, d_is_whole.name, defArgs (top 13), defBody (top 13), defScope (top 13), [], []⟩ false = true := by decide +kernel
theorem bnd_is_whole (kV doc pm cdv ct : Value) (an : Option Addr) (us : List Value) (hl : us.length = d_is_whole.ar) : bindArgs (PySem.W.fnOf d_is_whole.name d_is_whole.name (defArgs (top 13)) (defBody (top 13)) (defScope (top 13)) .none kV doc pm an cdv ct) ⟨us, []⟩ = pure ((d_is_whole.nm.take d_is_whole.ar).zip us) :=
  match us, hl with
  | [_, _, _], _ => rfl
theorem okd_is_tuple_of : defB consC nmsM bltB d_is_tuple_of ⟨(d_is_tuple_of.name, none), d_is_tuple_of.name, d_is_tuple_of.name, defArgs (top 14), defBody (top 14), defScope (top 14), [], []⟩ false = true := by decide +kernel
theorem bnd_is_tuple_of (kV doc pm cdv ct : Value) (an : Option Addr) (us : List Value) (hl : us.length = d_is_tuple_of.ar) : bindArgs (PySem.W.fnOf d_is_tuple_of.name d_is_tuple_of.name (defArgs (top 14)) (defBody (top 14)) (defScope (top 14)) .none kV doc pm an cdv ct) ⟨us, []⟩ = pure ((d_is_tuple_of.nm.take d_is_tuple_of.ar).zip us) :=
  match us, hl with
  | [_, _, _], _ => rfl
theorem okd_is_sign : defB consC nmsM bltB d_is_sign ⟨(d_is_sign.name, none), d_is_sign.name, d_is_sign.name, defArgs (top 15), defBody (top 15), defScope (top 15), [], []⟩ false = true := by decide +kernel
theorem bnd_is_sign (kV doc pm cdv ct : Value) (an : Option Addr) (us : List Value) (hl : us.length = d_is_sign.ar) : bindArgs (PySem.W.fnOf d_is_sign.name d_is_sign.name (defArgs (top 15)) (defBody (top 15)) (defScope (top 15)) .none kV doc pm an cdv ct) ⟨us, []⟩ = pure ((d_is_sign.nm.take d_is_sign.ar).zip us) :=
  match us, hl with
  | [_], _ => rfl
theorem okd_fits_text : defB consC nmsM bltB d_fits_text ⟨(d_fits_text.name, none), d_fits_text.name, d_fits_text.name, defArgs (top 16), defBody (top 16), defScope (top 16), [], []⟩ false = true := by decide +kernel
theorem bnd_fits_text (kV doc pm cdv ct : Value) (an : Option Addr) (us : List Value) (hl : us.length = d_fits_text.ar) : bindArgs (PySem.W.fnOf d_fits_text.name d_fits_text.name (defArgs (top 16)) (defBody (top 16)) (defScope (top 16)) .none kV doc pm an cdv ct) ⟨us, []⟩ = pure ((d_fits_text.nm.take d_fits_text.ar).zip us) :=
  match us, hl with
  | [_], _ => rfl
theorem okd_amount_in : defB consC nmsM bltB d_amount_in ⟨(d_amount_in.name, none), d_amount_in.name, d_amount_in.name, defArgs (top 17), defBody (top 17), defScope (top 17), [], []⟩ false = true := by decide +kernel
theorem bnd_amount_in (kV doc pm cdv ct : Value) (an : Option Addr) (us : List Value) (hl : us.length = d_amount_in.ar) : bindArgs (PySem.W.fnOf d_amount_in.name d_amount_in.name (defArgs (top 17)) (defBody (top 17)) (defScope (top 17)) .none kV doc pm an cdv ct) ⟨us, []⟩ = pure ((d_amount_in.nm.take d_amount_in.ar).zip us) :=
  match us, hl with
  | [_], _ => rfl
theorem okd_is_canonic_text : defB consC nmsM bltB d_is_canonic_text ⟨(d_is_canonic_text.name, none), d_is_canonic_text.name, d_is_canonic_text.name, defArgs (top 18), defBody (top 18), defScope (top 18), [], []⟩ false = true := by decide +kernel
theorem bnd_is_canonic_text (kV doc pm cdv ct : Value) (an : Option Addr) (us : List Value) (hl : us.length = d_is_canonic_text.ar) : bindArgs (PySem.W.fnOf d_is_canonic_text.name d_is_canonic_text.name (defArgs (top 18)) (defBody (top 18)) (defScope (top 18)) .none kV doc pm an cdv ct) ⟨us, []⟩ = pure ((d_is_canonic_text.nm.take d_is_canonic_text.ar).zip us) :=
  match us, hl with
  | [_], _ => rfl
theorem okd_rank : defB consC nmsM bltB d_rank ⟨(d_rank.name, none), d_rank.name, d_rank.name, defArgs (top 19), defBody (top 19), defScope (top 19), [], []⟩ false = true := by decide +kernel
theorem bnd_rank (kV doc pm cdv ct : Value) (an : Option Addr) (us : List Value) (hl : us.length = d_rank.ar) : bindArgs (PySem.W.fnOf d_rank.name d_rank.name (defArgs (top 19)) (defBody (top 19)) (defScope (top 19)) .none kV doc pm an cdv ct) ⟨us, []⟩ = pure ((d_rank.nm.take d_rank.ar).zip us) :=
  match us, hl with
  | [_], _ => rfl
theorem okd_need_text : defB consC nmsM bltB d_need_text ⟨(d_need_text.name, none), d_need_text.name, d_need_text.name, defArgs (top 20), defBody (top 20), defScope (top 20), [], []⟩ false = true := by decide +kernel
theorem bnd_need_text (kV doc pm cdv ct : Value) (an : Option Addr) (us : List Value) (hl : us.length = d_need_text.ar) : bindArgs (PySem.W.fnOf d_need_text.name d_need_text.name (defArgs (top 20)) (defBody (top 20)) (defScope (top 20)) .none kV doc pm an cdv ct) ⟨us, []⟩ = pure ((d_need_text.nm.take d_need_text.ar).zip us) :=
  match us, hl with
  | [_], _ => rfl
theorem okd_is_name : defB consC nmsM bltB d_is_name ⟨(d_is_name.name, none), d_is_name.name, d_is_name.name, defArgs (top 26), defBody (top 26), defScope (top 26), [], []⟩ false = true := by decide +kernel
theorem bnd_is_name (kV doc pm cdv ct : Value) (an : Option Addr) (us : List Value) (hl : us.length = d_is_name.ar) : bindArgs (PySem.W.fnOf d_is_name.name d_is_name.name (defArgs (top 26)) (defBody (top 26)) (defScope (top 26)) .none kV doc pm an cdv ct) ⟨us, []⟩ = pure ((d_is_name.nm.take d_is_name.ar).zip us) :=
  match us, hl with
  | [_], _ => rfl
theorem okd_fits_subscripts : defB consC nmsM bltB d_fits_subscripts ⟨(d_fits_subscripts.name, none), d_fits_subscripts.name, d_fits_subscripts.name, defArgs (top 27), defBody (top 27), defScope (top 27), [], []⟩ false = true := by decide +kernel
theorem bnd_fits_subscripts (kV doc pm cdv ct : Value) (an : Option Addr) (us : List Value) (hl : us.length = d_fits_subscripts.ar) : bindArgs (PySem.W.fnOf d_fits_subscripts.name d_fits_subscripts.name (defArgs (top 27)) (defBody (top 27)) (defScope (top 27)) .none kV doc pm an cdv ct) ⟨us, []⟩ = pure ((d_fits_subscripts.nm.take d_fits_subscripts.ar).zip us) :=
  match us, hl with
  | [_], _ => rfl
theorem okd_fits_node : defB consC nmsM bltB d_fits_node ⟨(d_fits_node.name, none), d_fits_node.name, d_fits_node.name, defArgs (top 28), defBody (top 28), defScope (top 28), [], []⟩ false = true := by decide +kernel
theorem bnd_fits_node (kV doc pm cdv ct : Value) (an : Option Addr) (us : List Value) (hl : us.length = d_fits_node.ar) : bindArgs (PySem.W.fnOf d_fits_node.name d_fits_node.name (defArgs (top 28)) (defBody (top 28)) (defScope (top 28)) .none kV doc pm an cdv ct) ⟨us, []⟩ = pure ((d_fits_node.nm.take d_fits_node.ar).zip us) :=
  match us, hl with
  | [_], _ => rfl
theorem okd_node_rank : defB consC nmsM bltB d_node_rank ⟨(d_node_rank.name, none), d_node_rank.name, d_node_rank.name, defArgs (top 29), defBody (top 29), defScope (top 29), [], []⟩ false = true := by decide +kernel
theorem bnd_node_rank (kV doc pm cdv ct : Value) (an : Option Addr) (us : List Value) (hl : us.length = d_node_rank.ar) : bindArgs (PySem.W.fnOf d_node_rank.name d_node_rank.name (defArgs (top 29)) (defBody (top 29)) (defScope (top 29)) .none kV doc pm an cdv ct) ⟨us, []⟩ = pure ((d_node_rank.nm.take d_node_rank.ar).zip us) :=
  match us, hl with
  | [_], _ => rfl
theorem okd_is_within : defB consC nmsM bltB d_is_within ⟨(d_is_within.name, none), d_is_within.name, d_is_within.name, defArgs (top 30), defBody (top 30), defScope (top 30), [], []⟩ false = true := by decide +kernel
theorem bnd_is_within (kV doc pm cdv ct : Value) (an : Option Addr) (us : List Value) (hl : us.length = d_is_within.ar) : bindArgs (PySem.W.fnOf d_is_within.name d_is_within.name (defArgs (top 30)) (defBody (top 30)) (defScope (top 30)) .none kV doc pm an cdv ct) ⟨us, []⟩ = pure ((d_is_within.nm.take d_is_within.ar).zip us) :=
  match us, hl with
  | [_, _], _ => rfl
theorem okd_need_node : defB consC nmsM bltB d_need_node ⟨(d_need_node.name, none), d_need_node.name, d_need_node.name, defArgs (top 31), defBody (top 31), defScope (top 31), [], []⟩ false = true := by decide +kernel
theorem bnd_need_node (kV doc pm cdv ct : Value) (an : Option Addr) (us : List Value) (hl : us.length = d_need_node.ar) : bindArgs (PySem.W.fnOf d_need_node.name d_need_node.name (defArgs (top 31)) (defBody (top 31)) (defScope (top 31)) .none kV doc pm an cdv ct) ⟨us, []⟩ = pure ((d_need_node.nm.take d_need_node.ar).zip us) :=
  match us, hl with
  | [_], _ => rfl
theorem okd_codes_of : defB consC nmsM bltB d_codes_of ⟨(d_codes_of.name, none), d_codes_of.name, d_codes_of.name, defArgs (top 39), defBody (top 39), defScope (top 39), [], []⟩ false = true := by decide +kernel
theorem bnd_codes_of (kV doc pm cdv ct : Value) (an : Option Addr) (us : List Value) (hl : us.length = d_codes_of.ar) : bindArgs (PySem.W.fnOf d_codes_of.name d_codes_of.name (defArgs (top 39)) (defBody (top 39)) (defScope (top 39)) .none kV doc pm an cdv ct) ⟨us, []⟩ = pure ((d_codes_of.nm.take d_codes_of.ar).zip us) :=
  match us, hl with
  | [_], _ => rfl
theorem okd_subscript_key : defB consC nmsM bltB d_subscript_key ⟨(d_subscript_key.name, none), d_subscript_key.name, d_subscript_key.name, defArgs (top 40), defBody (top 40), defScope (top 40), [], []⟩ false = true := by decide +kernel
theorem bnd_subscript_key (kV doc pm cdv ct : Value) (an : Option Addr) (us : List Value) (hl : us.length = d_subscript_key.ar) : bindArgs (PySem.W.fnOf d_subscript_key.name d_subscript_key.name (defArgs (top 40)) (defBody (top 40)) (defScope (top 40)) .none kV doc pm an cdv ct) ⟨us, []⟩ = pure ((d_subscript_key.nm.take d_subscript_key.ar).zip us) :=
  match us, hl with
  | [_], _ => rfl
theorem okd_key_in : defB consC nmsM bltB d_key_in ⟨(d_key_in.name, none), d_key_in.name, d_key_in.name, defArgs (top 41), defBody (top 41), defScope (top 41), [], []⟩ false = true := by decide +kernel
theorem bnd_key_in (kV doc pm cdv ct : Value) (an : Option Addr) (us : List Value) (hl : us.length = d_key_in.ar) : bindArgs (PySem.W.fnOf d_key_in.name d_key_in.name (defArgs (top 41)) (defBody (top 41)) (defScope (top 41)) .none kV doc pm an cdv ct) ⟨us, []⟩ = pure ((d_key_in.nm.take d_key_in.ar).zip us) :=
  match us, hl with
  | [_], _ => rfl
theorem okd_fits_store : defB consC nmsM bltB d_fits_store ⟨(d_fits_store.name, none), d_fits_store.name, d_fits_store.name, defArgs (top 44), defBody (top 44), defScope (top 44), [], []⟩ false = true := by decide +kernel
theorem bnd_fits_store (kV doc pm cdv ct : Value) (an : Option Addr) (us : List Value) (hl : us.length = d_fits_store.ar) : bindArgs (PySem.W.fnOf d_fits_store.name d_fits_store.name (defArgs (top 44)) (defBody (top 44)) (defScope (top 44)) .none kV doc pm an cdv ct) ⟨us, []⟩ = pure ((d_fits_store.nm.take d_fits_store.ar).zip us) :=
  match us, hl with
  | [_], _ => rfl
theorem okd_put : defB consC nmsM bltB d_put ⟨(d_put.name, none), d_put.name, d_put.name, defArgs (top 45), defBody (top 45), defScope (top 45), [], []⟩ true = true := by decide +kernel
theorem bnd_put (kV doc pm cdv ct : Value) (an : Option Addr) (us : List Value) (hl : us.length = d_put.ar) : bindArgs (PySem.W.fnOf d_put.name d_put.name (defArgs (top 45)) (defBody (top 45)) (defScope (top 45)) .none kV doc pm an cdv ct) ⟨us, []⟩ = pure ((d_put.nm.take d_put.ar).zip us) :=
  match us, hl with
  | [_, _, _], _ => rfl
theorem okd_need_store : defB consC nmsM bltB d_need_store ⟨(d_need_store.name, none), d_need_store.name, d_need_store.name, defArgs (top 46), defBody (top 46), defScope (top 46), [], []⟩ false = true := by decide +kernel
theorem bnd_need_store (kV doc pm cdv ct : Value) (an : Option Addr) (us : List Value) (hl : us.length = d_need_store.ar) : bindArgs (PySem.W.fnOf d_need_store.name d_need_store.name (defArgs (top 46)) (defBody (top 46)) (defScope (top 46)) .none kV doc pm an cdv ct) ⟨us, []⟩ = pure ((d_need_store.nm.take d_need_store.ar).zip us) :=
  match us, hl with
  | [_], _ => rfl
theorem okd_need_both : defB consC nmsM bltB d_need_both ⟨(d_need_both.name, none), d_need_both.name, d_need_both.name, defArgs (top 47), defBody (top 47), defScope (top 47), [], []⟩ false = true := by decide +kernel
theorem bnd_need_both (kV doc pm cdv ct : Value) (an : Option Addr) (us : List Value) (hl : us.length = d_need_both.ar) : bindArgs (PySem.W.fnOf d_need_both.name d_need_both.name (defArgs (top 47)) (defBody (top 47)) (defScope (top 47)) .none kV doc pm an cdv ct) ⟨us, []⟩ = pure ((d_need_both.nm.take d_need_both.ar).zip us) :=
  match us, hl with
  | [_, _], _ => rfl
theorem okd_weight_of : defB consC nmsM bltB d_weight_of ⟨(d_weight_of.name, none), d_weight_of.name, d_weight_of.name, defArgs (top 52), defBody (top 52), defScope (top 52), [], []⟩ false = true := by decide +kernel
theorem bnd_weight_of (kV doc pm cdv ct : Value) (an : Option Addr) (us : List Value) (hl : us.length = d_weight_of.ar) : bindArgs (PySem.W.fnOf d_weight_of.name d_weight_of.name (defArgs (top 52)) (defBody (top 52)) (defScope (top 52)) .none kV doc pm an cdv ct) ⟨us, []⟩ = pure ((d_weight_of.nm.take d_weight_of.ar).zip us) :=
  match us, hl with
  | [_, _], _ => rfl
theorem okd_weight_in : defB consC nmsM bltB d_weight_in ⟨(d_weight_in.name, none), d_weight_in.name, d_weight_in.name, defArgs (top 53), defBody (top 53), defScope (top 53), [], []⟩ false = true := by decide +kernel
theorem bnd_weight_in (kV doc pm cdv ct : Value) (an : Option Addr) (us : List Value) (hl : us.length = d_weight_in.ar) : bindArgs (PySem.W.fnOf d_weight_in.name d_weight_in.name (defArgs (top 53)) (defBody (top 53)) (defScope (top 53)) .none kV doc pm an cdv ct) ⟨us, []⟩ = pure ((d_weight_in.nm.take d_weight_in.ar).zip us) :=
  match us, hl with
  | [_, _], _ => rfl
theorem okd_heads_in : defB consC nmsM bltB d_heads_in ⟨(d_heads_in.name, none), d_heads_in.name, d_heads_in.name, defArgs (top 54), defBody (top 54), defScope (top 54), [], []⟩ false = true := by decide +kernel
theorem bnd_heads_in (kV doc pm cdv ct : Value) (an : Option Addr) (us : List Value) (hl : us.length = d_heads_in.ar) : bindArgs (PySem.W.fnOf d_heads_in.name d_heads_in.name (defArgs (top 54)) (defBody (top 54)) (defScope (top 54)) .none kV doc pm an cdv ct) ⟨us, []⟩ = pure ((d_heads_in.nm.take d_heads_in.ar).zip us) :=
  match us, hl with
  | [_, _], _ => rfl
theorem okd_children_of : defB consC nmsM bltB d_children_of ⟨(d_children_of.name, none), d_children_of.name, d_children_of.name, defArgs (top 55), defBody (top 55), defScope (top 55), [], []⟩ false = true := by decide +kernel
theorem bnd_children_of (kV doc pm cdv ct : Value) (an : Option Addr) (us : List Value) (hl : us.length = d_children_of.ar) : bindArgs (PySem.W.fnOf d_children_of.name d_children_of.name (defArgs (top 55)) (defBody (top 55)) (defScope (top 55)) .none kV doc pm an cdv ct) ⟨us, []⟩ = pure ((d_children_of.nm.take d_children_of.ar).zip us) :=
  match us, hl with
  | [_, _], _ => rfl
theorem okd_way_in : defB consC nmsM bltB d_way_in ⟨(d_way_in.name, none), d_way_in.name, d_way_in.name, defArgs (top 56), defBody (top 56), defScope (top 56), [], []⟩ false = true := by decide +kernel
theorem bnd_way_in (kV doc pm cdv ct : Value) (an : Option Addr) (us : List Value) (hl : us.length = d_way_in.ar) : bindArgs (PySem.W.fnOf d_way_in.name d_way_in.name (defArgs (top 56)) (defBody (top 56)) (defScope (top 56)) .none kV doc pm an cdv ct) ⟨us, []⟩ = pure ((d_way_in.nm.take d_way_in.ar).zip us) :=
  match us, hl with
  | [_, _], _ => rfl
theorem okd_fits_quotas : defB consC nmsM bltB d_fits_quotas ⟨(d_fits_quotas.name, none), d_fits_quotas.name, d_fits_quotas.name, defArgs (top 57), defBody (top 57), defScope (top 57), [], []⟩ false = true := by decide +kernel
theorem bnd_fits_quotas (kV doc pm cdv ct : Value) (an : Option Addr) (us : List Value) (hl : us.length = d_fits_quotas.ar) : bindArgs (PySem.W.fnOf d_fits_quotas.name d_fits_quotas.name (defArgs (top 57)) (defBody (top 57)) (defScope (top 57)) .none kV doc pm an cdv ct) ⟨us, []⟩ = pure ((d_fits_quotas.nm.take d_fits_quotas.ar).zip us) :=
  match us, hl with
  | [_], _ => rfl
theorem okd_need_quotas : defB consC nmsM bltB d_need_quotas ⟨(d_need_quotas.name, none), d_need_quotas.name, d_need_quotas.name, defArgs (top 58), defBody (top 58), defScope (top 58), [], []⟩ false = true := by decide +kernel
theorem bnd_need_quotas (kV doc pm cdv ct : Value) (an : Option Addr) (us : List Value) (hl : us.length = d_need_quotas.ar) : bindArgs (PySem.W.fnOf d_need_quotas.name d_need_quotas.name (defArgs (top 58)) (defBody (top 58)) (defScope (top 58)) .none kV doc pm an cdv ct) ⟨us, []⟩ = pure ((d_need_quotas.nm.take d_need_quotas.ar).zip us) :=
  match us, hl with
  | [_], _ => rfl
theorem okd_over_in : defB consC nmsM bltB d_over_in ⟨(d_over_in.name, none), d_over_in.name, d_over_in.name, defArgs (top 59), defBody (top 59), defScope (top 59), [], []⟩ false = true := by decide +kernel
theorem bnd_over_in (kV doc pm cdv ct : Value) (an : Option Addr) (us : List Value) (hl : us.length = d_over_in.ar) : bindArgs (PySem.W.fnOf d_over_in.name d_over_in.name (defArgs (top 59)) (defBody (top 59)) (defScope (top 59)) .none kV doc pm an cdv ct) ⟨us, []⟩ = pure ((d_over_in.nm.take d_over_in.ar).zip us) :=
  match us, hl with
  | [_, _], _ => rfl
theorem okd_room_in : defB consC nmsM bltB d_room_in ⟨(d_room_in.name, none), d_room_in.name, d_room_in.name, defArgs (top 60), defBody (top 60), defScope (top 60), [], []⟩ false = true := by decide +kernel
theorem bnd_room_in (kV doc pm cdv ct : Value) (an : Option Addr) (us : List Value) (hl : us.length = d_room_in.ar) : bindArgs (PySem.W.fnOf d_room_in.name d_room_in.name (defArgs (top 60)) (defBody (top 60)) (defScope (top 60)) .none kV doc pm an cdv ct) ⟨us, []⟩ = pure ((d_room_in.nm.take d_room_in.ar).zip us) :=
  match us, hl with
  | [_, _, _], _ => rfl
theorem okd_weight : defB consC nmsM bltB d_weight ⟨(d_weight.name, none), d_weight.name, d_weight.name, defArgs (top 61), defBody (top 61), defScope (top 61), [], []⟩ false = true := by decide +kernel
theorem bnd_weight (kV doc pm cdv ct : Value) (an : Option Addr) (us : List Value) (hl : us.length = d_weight.ar) : bindArgs (PySem.W.fnOf d_weight.name d_weight.name (defArgs (top 61)) (defBody (top 61)) (defScope (top 61)) .none kV doc pm an cdv ct) ⟨us, []⟩ = pure ((d_weight.nm.take d_weight.ar).zip us) :=
  match us, hl with
  | [_, _], _ => rfl
theorem okd_weights_at : defB consC nmsM bltB d_weights_at ⟨(d_weights_at.name, none), d_weights_at.name, d_weights_at.name, defArgs (top 62), defBody (top 62), defScope (top 62), [], []⟩ false = true := by decide +kernel
theorem bnd_weights_at (kV doc pm cdv ct : Value) (an : Option Addr) (us : List Value) (hl : us.length = d_weights_at.ar) : bindArgs (PySem.W.fnOf d_weights_at.name d_weights_at.name (defArgs (top 62)) (defBody (top 62)) (defScope (top 62)) .none kV doc pm an cdv ct) ⟨us, []⟩ = pure ((d_weights_at.nm.take d_weights_at.ar).zip us) :=
  match us, hl with
  | [_, _], _ => rfl
theorem okd_heaviest_way : defB consC nmsM bltB d_heaviest_way ⟨(d_heaviest_way.name, none), d_heaviest_way.name, d_heaviest_way.name, defArgs (top 63), defBody (top 63), defScope (top 63), [], []⟩ false = true := by decide +kernel
theorem bnd_heaviest_way (kV doc pm cdv ct : Value) (an : Option Addr) (us : List Value) (hl : us.length = d_heaviest_way.ar) : bindArgs (PySem.W.fnOf d_heaviest_way.name d_heaviest_way.name (defArgs (top 63)) (defBody (top 63)) (defScope (top 63)) .none kV doc pm an cdv ct) ⟨us, []⟩ = pure ((d_heaviest_way.nm.take d_heaviest_way.ar).zip us) :=
  match us, hl with
  | [_, _], _ => rfl
theorem okd_middle_node : defB consC nmsM bltB d_middle_node ⟨(d_middle_node.name, none), d_middle_node.name, d_middle_node.name, defArgs (top 64), defBody (top 64), defScope (top 64), [], []⟩ false = true := by decide +kernel
theorem bnd_middle_node (kV doc pm cdv ct : Value) (an : Option Addr) (us : List Value) (hl : us.length = d_middle_node.ar) : bindArgs (PySem.W.fnOf d_middle_node.name d_middle_node.name (defArgs (top 64)) (defBody (top 64)) (defScope (top 64)) .none kV doc pm an cdv ct) ⟨us, []⟩ = pure ((d_middle_node.nm.take d_middle_node.ar).zip us) :=
  match us, hl with
  | [_, _], _ => rfl
theorem okd_are_quotas : defB consC nmsM bltB d_are_quotas ⟨(d_are_quotas.name, none), d_are_quotas.name, d_are_quotas.name, defArgs (top 65), defBody (top 65), defScope (top 65), [], []⟩ false = true := by decide +kernel
theorem bnd_are_quotas (kV doc pm cdv ct : Value) (an : Option Addr) (us : List Value) (hl : us.length = d_are_quotas.ar) : bindArgs (PySem.W.fnOf d_are_quotas.name d_are_quotas.name (defArgs (top 65)) (defBody (top 65)) (defScope (top 65)) .none kV doc pm an cdv ct) ⟨us, []⟩ = pure ((d_are_quotas.nm.take d_are_quotas.ar).zip us) :=
  match us, hl with
  | [_], _ => rfl
theorem okd_over : defB consC nmsM bltB d_over ⟨(d_over.name, none), d_over.name, d_over.name, defArgs (top 66), defBody (top 66), defScope (top 66), [], []⟩ false = true := by decide +kernel
theorem bnd_over (kV doc pm cdv ct : Value) (an : Option Addr) (us : List Value) (hl : us.length = d_over.ar) : bindArgs (PySem.W.fnOf d_over.name d_over.name (defArgs (top 66)) (defBody (top 66)) (defScope (top 66)) .none kV doc pm an cdv ct) ⟨us, []⟩ = pure ((d_over.nm.take d_over.ar).zip us) :=
  match us, hl with
  | [_, _], _ => rfl
theorem okd_room : defB consC nmsM bltB d_room ⟨(d_room.name, none), d_room.name, d_room.name, defArgs (top 67), defBody (top 67), defScope (top 67), [], []⟩ false = true := by decide +kernel
theorem bnd_room (kV doc pm cdv ct : Value) (an : Option Addr) (us : List Value) (hl : us.length = d_room.ar) : bindArgs (PySem.W.fnOf d_room.name d_room.name (defArgs (top 67)) (defBody (top 67)) (defScope (top 67)) .none kV doc pm an cdv ct) ⟨us, []⟩ = pure ((d_room.nm.take d_room.ar).zip us) :=
  match us, hl with
  | [_, _, _], _ => rfl
theorem okd_can_put : defB consC nmsM bltB d_can_put ⟨(d_can_put.name, none), d_can_put.name, d_can_put.name, defArgs (top 68), defBody (top 68), defScope (top 68), [], []⟩ false = true := by decide +kernel
theorem bnd_can_put (kV doc pm cdv ct : Value) (an : Option Addr) (us : List Value) (hl : us.length = d_can_put.ar) : bindArgs (PySem.W.fnOf d_can_put.name d_can_put.name (defArgs (top 68)) (defBody (top 68)) (defScope (top 68)) .none kV doc pm an cdv ct) ⟨us, []⟩ = pure ((d_can_put.nm.take d_can_put.ar).zip us) :=
  match us, hl with
  | [_, _, _, _], _ => rfl
theorem okd__law_cup : defB consC nmsM bltB d__law_cup ⟨(d__law_cup.name, none), d__law_cup.name, d__law_cup.name, defArgs (top 70), defBody (top 70), defScope (top 70), [], []⟩ false = true := by decide +kernel
theorem bnd__law_cup (kV doc pm cdv ct : Value) (an : Option Addr) (us : List Value) (hl : us.length = d__law_cup.ar) : bindArgs (PySem.W.fnOf d__law_cup.name d__law_cup.name (defArgs (top 70)) (defBody (top 70)) (defScope (top 70)) .none kV doc pm an cdv ct) ⟨us, []⟩ = pure ((d__law_cup.nm.take d__law_cup.ar).zip us) :=
  match us, hl with
  | [_], _ => rfl
theorem okd__law_roll : defB consC nmsM bltB d__law_roll ⟨(d__law_roll.name, none), d__law_roll.name, d__law_roll.name, defArgs (top 71), defBody (top 71), defScope (top 71), [], []⟩ false = true := by decide +kernel
theorem bnd__law_roll (kV doc pm cdv ct : Value) (an : Option Addr) (us : List Value) (hl : us.length = d__law_roll.ar) : bindArgs (PySem.W.fnOf d__law_roll.name d__law_roll.name (defArgs (top 71)) (defBody (top 71)) (defScope (top 71)) .none kV doc pm an cdv ct) ⟨us, []⟩ = pure ((d__law_roll.nm.take d__law_roll.ar).zip us) :=
  match us, hl with
  | [_, _], _ => rfl
theorem okd__law_some : defB consC nmsM bltB d__law_some ⟨(d__law_some.name, none), d__law_some.name, d__law_some.name, defArgs (top 72), defBody (top 72), defScope (top 72), [], []⟩ false = true := by decide +kernel
theorem bnd__law_some (kV doc pm cdv ct : Value) (an : Option Addr) (us : List Value) (hl : us.length = d__law_some.ar) : bindArgs (PySem.W.fnOf d__law_some.name d__law_some.name (defArgs (top 72)) (defBody (top 72)) (defScope (top 72)) .none kV doc pm an cdv ct) ⟨us, []⟩ = pure ((d__law_some.nm.take d__law_some.ar).zip us) :=
  match us, hl with
  | [_, _], _ => rfl
theorem okd__law_number : defB consC nmsM bltB d__law_number ⟨(d__law_number.name, none), d__law_number.name, d__law_number.name, defArgs (top 73), defBody (top 73), defScope (top 73), [], []⟩ false = true := by decide +kernel
theorem bnd__law_number (kV doc pm cdv ct : Value) (an : Option Addr) (us : List Value) (hl : us.length = d__law_number.ar) : bindArgs (PySem.W.fnOf d__law_number.name d__law_number.name (defArgs (top 73)) (defBody (top 73)) (defScope (top 73)) .none kV doc pm an cdv ct) ⟨us, []⟩ = pure ((d__law_number.nm.take d__law_number.ar).zip us) :=
  match us, hl with
  | [_], _ => rfl
theorem okd__law_is_canonic : defB consC nmsM bltB d__law_is_canonic ⟨(d__law_is_canonic.name, none), d__law_is_canonic.name, d__law_is_canonic.name, defArgs (top 74), defBody (top 74), defScope (top 74), [], []⟩ false = true := by decide +kernel
theorem bnd__law_is_canonic (kV doc pm cdv ct : Value) (an : Option Addr) (us : List Value) (hl : us.length = d__law_is_canonic.ar) : bindArgs (PySem.W.fnOf d__law_is_canonic.name d__law_is_canonic.name (defArgs (top 74)) (defBody (top 74)) (defScope (top 74)) .none kV doc pm an cdv ct) ⟨us, []⟩ = pure ((d__law_is_canonic.nm.take d__law_is_canonic.ar).zip us) :=
  match us, hl with
  | [_], _ => rfl
theorem okd__law_place : defB consC nmsM bltB d__law_place ⟨(d__law_place.name, none), d__law_place.name, d__law_place.name, defArgs (top 75), defBody (top 75), defScope (top 75), [], []⟩ false = true := by decide +kernel
theorem bnd__law_place (kV doc pm cdv ct : Value) (an : Option Addr) (us : List Value) (hl : us.length = d__law_place.ar) : bindArgs (PySem.W.fnOf d__law_place.name d__law_place.name (defArgs (top 75)) (defBody (top 75)) (defScope (top 75)) .none kV doc pm an cdv ct) ⟨us, []⟩ = pure ((d__law_place.nm.take d__law_place.ar).zip us) :=
  match us, hl with
  | [_], _ => rfl
theorem okd__law_node_place : defB consC nmsM bltB d__law_node_place ⟨(d__law_node_place.name, none), d__law_node_place.name, d__law_node_place.name, defArgs (top 76), defBody (top 76), defScope (top 76), [], []⟩ false = true := by decide +kernel
theorem bnd__law_node_place (kV doc pm cdv ct : Value) (an : Option Addr) (us : List Value) (hl : us.length = d__law_node_place.ar) : bindArgs (PySem.W.fnOf d__law_node_place.name d__law_node_place.name (defArgs (top 76)) (defBody (top 76)) (defScope (top 76)) .none kV doc pm an cdv ct) ⟨us, []⟩ = pure ((d__law_node_place.nm.take d__law_node_place.ar).zip us) :=
  match us, hl with
  | [_], _ => rfl
theorem okd__law_sorted : defB consC nmsM bltB d__law_sorted ⟨(d__law_sorted.name, none), d__law_sorted.name, d__law_sorted.name, defArgs (top 77), defBody (top 77), defScope (top 77), [], []⟩ true = true := by decide +kernel
theorem bnd__law_sorted (kV doc pm cdv ct : Value) (an : Option Addr) (us : List Value) (hl : us.length = d__law_sorted.ar) : bindArgs (PySem.W.fnOf d__law_sorted.name d__law_sorted.name (defArgs (top 77)) (defBody (top 77)) (defScope (top 77)) .none kV doc pm an cdv ct) ⟨us, []⟩ = pure ((d__law_sorted.nm.take d__law_sorted.ar).zip us) :=
  match us, hl with
  | [_], _ => rfl
theorem okd__law_set : defB consC nmsM bltB d__law_set ⟨(d__law_set.name, none), d__law_set.name, d__law_set.name, defArgs (top 78), defBody (top 78), defScope (top 78), [], []⟩ false = true := by decide +kernel
theorem bnd__law_set (kV doc pm cdv ct : Value) (an : Option Addr) (us : List Value) (hl : us.length = d__law_set.ar) : bindArgs (PySem.W.fnOf d__law_set.name d__law_set.name (defArgs (top 78)) (defBody (top 78)) (defScope (top 78)) .none kV doc pm an cdv ct) ⟨us, []⟩ = pure ((d__law_set.nm.take d__law_set.ar).zip us) :=
  match us, hl with
  | [_, _, _], _ => rfl
theorem okd__law_below : defB consC nmsM bltB d__law_below ⟨(d__law_below.name, none), d__law_below.name, d__law_below.name, defArgs (top 79), defBody (top 79), defScope (top 79), [], []⟩ false = true := by decide +kernel
theorem bnd__law_below (kV doc pm cdv ct : Value) (an : Option Addr) (us : List Value) (hl : us.length = d__law_below.ar) : bindArgs (PySem.W.fnOf d__law_below.name d__law_below.name (defArgs (top 79)) (defBody (top 79)) (defScope (top 79)) .none kV doc pm an cdv ct) ⟨us, []⟩ = pure ((d__law_below.nm.take d__law_below.ar).zip us) :=
  match us, hl with
  | [_, _], _ => rfl
theorem okd__law_subscript_key : defB consC nmsM bltB d__law_subscript_key ⟨(d__law_subscript_key.name, none), d__law_subscript_key.name, d__law_subscript_key.name, defArgs (top 80), defBody (top 80), defScope (top 80), [], []⟩ false = true := by decide +kernel
theorem bnd__law_subscript_key (kV doc pm cdv ct : Value) (an : Option Addr) (us : List Value) (hl : us.length = d__law_subscript_key.ar) : bindArgs (PySem.W.fnOf d__law_subscript_key.name d__law_subscript_key.name (defArgs (top 80)) (defBody (top 80)) (defScope (top 80)) .none kV doc pm an cdv ct) ⟨us, []⟩ = pure ((d__law_subscript_key.nm.take d__law_subscript_key.ar).zip us) :=
  match us, hl with
  | [_], _ => rfl
theorem okd__law_key : defB consC nmsM bltB d__law_key ⟨(d__law_key.name, none), d__law_key.name, d__law_key.name, defArgs (top 81), defBody (top 81), defScope (top 81), [], []⟩ false = true := by decide +kernel
theorem bnd__law_key (kV doc pm cdv ct : Value) (an : Option Addr) (us : List Value) (hl : us.length = d__law_key.ar) : bindArgs (PySem.W.fnOf d__law_key.name d__law_key.name (defArgs (top 81)) (defBody (top 81)) (defScope (top 81)) .none kV doc pm an cdv ct) ⟨us, []⟩ = pure ((d__law_key.nm.take d__law_key.ar).zip us) :=
  match us, hl with
  | [_], _ => rfl
theorem okd__law_tree_node : defB consC nmsM bltB d__law_tree_node ⟨(d__law_tree_node.name, none), d__law_tree_node.name, d__law_tree_node.name, defArgs (top 82), defBody (top 82), defScope (top 82), [], []⟩ false = true := by decide +kernel
theorem bnd__law_tree_node (kV doc pm cdv ct : Value) (an : Option Addr) (us : List Value) (hl : us.length = d__law_tree_node.ar) : bindArgs (PySem.W.fnOf d__law_tree_node.name d__law_tree_node.name (defArgs (top 82)) (defBody (top 82)) (defScope (top 82)) .none kV doc pm an cdv ct) ⟨us, []⟩ = pure ((d__law_tree_node.nm.take d__law_tree_node.ar).zip us) :=
  match us, hl with
  | [_], _ => rfl
theorem okd__law_tree_store : defB consC nmsM bltB d__law_tree_store ⟨(d__law_tree_store.name, none), d__law_tree_store.name, d__law_tree_store.name, defArgs (top 83), defBody (top 83), defScope (top 83), [], []⟩ false = true := by decide +kernel
theorem bnd__law_tree_store (kV doc pm cdv ct : Value) (an : Option Addr) (us : List Value) (hl : us.length = d__law_tree_store.ar) : bindArgs (PySem.W.fnOf d__law_tree_store.name d__law_tree_store.name (defArgs (top 83)) (defBody (top 83)) (defScope (top 83)) .none kV doc pm an cdv ct) ⟨us, []⟩ = pure ((d__law_tree_store.nm.take d__law_tree_store.ar).zip us) :=
  match us, hl with
  | [_, _], _ => rfl
theorem okd__law_weight : defB consC nmsM bltB d__law_weight ⟨(d__law_weight.name, none), d__law_weight.name, d__law_weight.name, defArgs (top 84), defBody (top 84), defScope (top 84), [], []⟩ false = true := by decide +kernel
theorem bnd__law_weight (kV doc pm cdv ct : Value) (an : Option Addr) (us : List Value) (hl : us.length = d__law_weight.ar) : bindArgs (PySem.W.fnOf d__law_weight.name d__law_weight.name (defArgs (top 84)) (defBody (top 84)) (defScope (top 84)) .none kV doc pm an cdv ct) ⟨us, []⟩ = pure ((d__law_weight.nm.take d__law_weight.ar).zip us) :=
  match us, hl with
  | [_, _], _ => rfl
theorem okd__law_heads : defB consC nmsM bltB d__law_heads ⟨(d__law_heads.name, none), d__law_heads.name, d__law_heads.name, defArgs (top 85), defBody (top 85), defScope (top 85), [], []⟩ false = true := by decide +kernel
theorem bnd__law_heads (kV doc pm cdv ct : Value) (an : Option Addr) (us : List Value) (hl : us.length = d__law_heads.ar) : bindArgs (PySem.W.fnOf d__law_heads.name d__law_heads.name (defArgs (top 85)) (defBody (top 85)) (defScope (top 85)) .none kV doc pm an cdv ct) ⟨us, []⟩ = pure ((d__law_heads.nm.take d__law_heads.ar).zip us) :=
  match us, hl with
  | [_, _], _ => rfl
theorem okd__law_quotas : defB consC nmsM bltB d__law_quotas ⟨(d__law_quotas.name, none), d__law_quotas.name, d__law_quotas.name, defArgs (top 86), defBody (top 86), defScope (top 86), [], []⟩ false = true := by decide +kernel
theorem bnd__law_quotas (kV doc pm cdv ct : Value) (an : Option Addr) (us : List Value) (hl : us.length = d__law_quotas.ar) : bindArgs (PySem.W.fnOf d__law_quotas.name d__law_quotas.name (defArgs (top 86)) (defBody (top 86)) (defScope (top 86)) .none kV doc pm an cdv ct) ⟨us, []⟩ = pure ((d__law_quotas.nm.take d__law_quotas.ar).zip us) :=
  match us, hl with
  | [_, _], _ => rfl
theorem okd__law_way : defB consC nmsM bltB d__law_way ⟨(d__law_way.name, none), d__law_way.name, d__law_way.name, defArgs (top 87), defBody (top 87), defScope (top 87), [], []⟩ false = true := by decide +kernel
theorem bnd__law_way (kV doc pm cdv ct : Value) (an : Option Addr) (us : List Value) (hl : us.length = d__law_way.ar) : bindArgs (PySem.W.fnOf d__law_way.name d__law_way.name (defArgs (top 87)) (defBody (top 87)) (defScope (top 87)) .none kV doc pm an cdv ct) ⟨us, []⟩ = pure ((d__law_way.nm.take d__law_way.ar).zip us) :=
  match us, hl with
  | [_, _], _ => rfl
theorem okd__law_right : defB consC nmsM bltB d__law_right ⟨(d__law_right.name, none), d__law_right.name, d__law_right.name, defArgs (top 88), defBody (top 88), defScope (top 88), [], []⟩ false = true := by decide +kernel
theorem bnd__law_right (kV doc pm cdv ct : Value) (an : Option Addr) (us : List Value) (hl : us.length = d__law_right.ar) : bindArgs (PySem.W.fnOf d__law_right.name d__law_right.name (defArgs (top 88)) (defBody (top 88)) (defScope (top 88)) .none kV doc pm an cdv ct) ⟨us, []⟩ = pure ((d__law_right.nm.take d__law_right.ar).zip us) :=
  match us, hl with
  | [_], _ => rfl
theorem okd__law_written_right : defB consC nmsM bltB d__law_written_right ⟨(d__law_written_right.name, none), d__law_written_right.name, d__law_written_right.name, defArgs (top 89), defBody (top 89), defScope (top 89), [], []⟩ false = true := by decide +kernel
theorem bnd__law_written_right (kV doc pm cdv ct : Value) (an : Option Addr) (us : List Value) (hl : us.length = d__law_written_right.ar) : bindArgs (PySem.W.fnOf d__law_written_right.name d__law_written_right.name (defArgs (top 89)) (defBody (top 89)) (defScope (top 89)) .none kV doc pm an cdv ct) ⟨us, []⟩ = pure ((d__law_written_right.nm.take d__law_written_right.ar).zip us) :=
  match us, hl with
  | [_], _ => rfl
theorem okd_law : defB consC nmsM bltB d_law ⟨(d_law.name, none), d_law.name, d_law.name, defArgs (top 90), defBody (top 90), defScope (top 90), [], []⟩ false = true := by decide +kernel
theorem bnd_law (kV doc pm cdv ct : Value) (an : Option Addr) (us : List Value) (hl : us.length = d_law.ar) : bindArgs (PySem.W.fnOf d_law.name d_law.name (defArgs (top 90)) (defBody (top 90)) (defScope (top 90)) .none kV doc pm an cdv ct) ⟨us, []⟩ = pure ((d_law.nm.take d_law.ar).zip us) :=
  match us, hl with
  | [_], _ => rfl
theorem all_defs (X : K.In h) (G : h.Ns mainGlobals mg) (c : He.SaysD fa fn K) (nd : (tf.map fun p => (He.cT K p).2).Nodup) (tb : ∀ p ∈ tf.map (He.cT K), LamX.TabB base mg p.1 p.2) : ∀ d ∈ D, FunAt K mg base (tabsT K tf) consC nmsM bltB d := by
  intro d hd
  unfold D at hd
  simp only [List.mem_append, List.mem_cons, List.not_mem_nil, or_false] at hd
  rcases hd with (((rfl | rfl | rfl | rfl | rfl | rfl | rfl | rfl | rfl | rfl | rfl | rfl | rfl | rfl | rfl | rfl | rfl | rfl | rfl | rfl | rfl | rfl | rfl | rfl | rfl) | (rfl | rfl | rfl | rfl | rfl | rfl | rfl | rfl | rfl | rfl | rfl | rfl | rfl | rfl | rfl | rfl | rfl | rfl | rfl | rfl | rfl | rfl | rfl | rfl | rfl)) | (rfl | rfl | rfl | rfl | rfl | rfl | rfl | rfl | rfl))
  · exact funAt_of X G c 0 0 rfl rfl false okd_is_whole bnd_is_whole fun z => nomatch z
  · exact funAt_of X G c 1 1 rfl rfl false okd_is_tuple_of bnd_is_tuple_of fun z => nomatch z
  · exact funAt_of X G c 2 2 rfl rfl false okd_is_sign bnd_is_sign fun z => nomatch z
  · exact funAt_of X G c 3 3 rfl rfl false okd_fits_text bnd_fits_text fun z => nomatch z
  · exact funAt_of X G c 4 4 rfl rfl false okd_amount_in bnd_amount_in fun z => nomatch z
  · exact funAt_of X G c 5 5 rfl rfl false okd_is_canonic_text bnd_is_canonic_text fun z => nomatch z
  · exact funAt_of X G c 6 6 rfl rfl false okd_rank bnd_rank fun z => nomatch z
  · exact funAt_of X G c 7 7 rfl rfl false okd_need_text bnd_need_text fun z => nomatch z
  · exact funAt_of X G c 8 8 rfl rfl false okd_is_name bnd_is_name fun z => nomatch z
  · exact funAt_of X G c 9 9 rfl rfl false okd_fits_subscripts bnd_fits_subscripts fun z => nomatch z
  · exact funAt_of X G c 10 10 rfl rfl false okd_fits_node bnd_fits_node fun z => nomatch z
  · exact funAt_of X G c 11 11 rfl rfl false okd_node_rank bnd_node_rank fun z => nomatch z
  · exact funAt_of X G c 12 12 rfl rfl false okd_is_within bnd_is_within fun z => nomatch z
  · exact funAt_of X G c 13 13 rfl rfl false okd_need_node bnd_need_node fun z => nomatch z
  · exact funAt_of X G c 14 14 rfl rfl false okd_codes_of bnd_codes_of fun z => nomatch z
  · exact funAt_of X G c 15 15 rfl rfl false okd_subscript_key bnd_subscript_key fun z => nomatch z
  · exact funAt_of X G c 16 16 rfl rfl false okd_key_in bnd_key_in fun z => nomatch z
  · exact funAt_of X G c 17 17 rfl rfl false okd_fits_store bnd_fits_store fun z => nomatch z
  · exact funAt_of X G c 18 18 rfl rfl true okd_put bnd_put fun _ => ⟨tb _ (List.mem_map_of_mem (show (d_put.name, none) ∈ tf by decide +kernel)), tabs_uniq nd (show (d_put.name, none) ∈ tf by decide +kernel)⟩
  · exact funAt_of X G c 19 19 rfl rfl false okd_need_store bnd_need_store fun z => nomatch z
  · exact funAt_of X G c 20 20 rfl rfl false okd_need_both bnd_need_both fun z => nomatch z
  · exact funAt_of X G c 21 21 rfl rfl false okd_weight_of bnd_weight_of fun z => nomatch z
  · exact funAt_of X G c 22 22 rfl rfl false okd_weight_in bnd_weight_in fun z => nomatch z
  · exact funAt_of X G c 23 23 rfl rfl false okd_heads_in bnd_heads_in fun z => nomatch z
  · exact funAt_of X G c 24 24 rfl rfl false okd_children_of bnd_children_of fun z => nomatch z
  · exact funAt_of X G c 25 25 rfl rfl false okd_way_in bnd_way_in fun z => nomatch z
  · exact funAt_of X G c 26 26 rfl rfl false okd_fits_quotas bnd_fits_quotas fun z => nomatch z
  · exact funAt_of X G c 27 27 rfl rfl false okd_need_quotas bnd_need_quotas fun z => nomatch z
  · exact funAt_of X G c 28 28 rfl rfl false okd_over_in bnd_over_in fun z => nomatch z
  · exact funAt_of X G c 29 29 rfl rfl false okd_room_in bnd_room_in fun z => nomatch z
  · exact funAt_of X G c 30 30 rfl rfl false okd_weight bnd_weight fun z => nomatch z
  · exact funAt_of X G c 31 31 rfl rfl false okd_weights_at bnd_weights_at fun z => nomatch z
  · exact funAt_of X G c 32 32 rfl rfl false okd_heaviest_way bnd_heaviest_way fun z => nomatch z
  · exact funAt_of X G c 33 33 rfl rfl false okd_middle_node bnd_middle_node fun z => nomatch z
  · exact funAt_of X G c 34 34 rfl rfl false okd_are_quotas bnd_are_quotas fun z => nomatch z
  · exact funAt_of X G c 35 35 rfl rfl false okd_over bnd_over fun z => nomatch z
  · exact funAt_of X G c 36 36 rfl rfl false okd_room bnd_room fun z => nomatch z
  · exact funAt_of X G c 37 37 rfl rfl false okd_can_put bnd_can_put fun z => nomatch z
  · exact funAt_of X G c 38 38 rfl rfl false okd__law_cup bnd__law_cup fun z => nomatch z
  · exact funAt_of X G c 39 39 rfl rfl false okd__law_roll bnd__law_roll fun z => nomatch z
  · exact funAt_of X G c 40 40 rfl rfl false okd__law_some bnd__law_some fun z => nomatch z
  · exact funAt_of X G c 41 41 rfl rfl false okd__law_number bnd__law_number fun z => nomatch z
  · exact funAt_of X G c 42 42 rfl rfl false okd__law_is_canonic bnd__law_is_canonic fun z => nomatch z
  · exact funAt_of X G c 43 43 rfl rfl false okd__law_place bnd__law_place fun z => nomatch z
  · exact funAt_of X G c 44 44 rfl rfl false okd__law_node_place bnd__law_node_place fun z => nomatch z
  · exact funAt_of X G c 45 45 rfl rfl true okd__law_sorted bnd__law_sorted fun _ => ⟨tb _ (List.mem_map_of_mem (show (d__law_sorted.name, none) ∈ tf by decide +kernel)), tabs_uniq nd (show (d__law_sorted.name, none) ∈ tf by decide +kernel)⟩
  · exact funAt_of X G c 46 46 rfl rfl false okd__law_set bnd__law_set fun z => nomatch z
  · exact funAt_of X G c 47 47 rfl rfl false okd__law_below bnd__law_below fun z => nomatch z
  · exact funAt_of X G c 48 48 rfl rfl false okd__law_subscript_key bnd__law_subscript_key fun z => nomatch z
  · exact funAt_of X G c 49 49 rfl rfl false okd__law_key bnd__law_key fun z => nomatch z
  · exact funAt_of X G c 50 50 rfl rfl false okd__law_tree_node bnd__law_tree_node fun z => nomatch z
  · exact funAt_of X G c 51 51 rfl rfl false okd__law_tree_store bnd__law_tree_store fun z => nomatch z
  · exact funAt_of X G c 52 52 rfl rfl false okd__law_weight bnd__law_weight fun z => nomatch z
  · exact funAt_of X G c 53 53 rfl rfl false okd__law_heads bnd__law_heads fun z => nomatch z
  · exact funAt_of X G c 54 54 rfl rfl false okd__law_quotas bnd__law_quotas fun z => nomatch z
  · exact funAt_of X G c 55 55 rfl rfl false okd__law_way bnd__law_way fun z => nomatch z
  · exact funAt_of X G c 56 56 rfl rfl false okd__law_right bnd__law_right fun z => nomatch z
  · exact funAt_of X G c 57 57 rfl rfl false okd__law_written_right bnd__law_written_right fun z => nomatch z
  · exact funAt_of X G c 58 58 rfl rfl false okd_law bnd_law fun z => nomatch z
end
theorem told (w : World) (mg : Str → Option Value) (f : Addr) (h : Heap) (Y : HeadT.hk.says w h) (G : h.Ns mainGlobals mg) (hm : mg ("law" : Str) = some (.ref f)) : LawTold HeadT.R.prog w 60 63 mg f h := by
  obtain ⟨K, X, c⟩ := Y
  have cd : He.SaysD fa fn K := c.t.d
  have nd : (tf.map fun p => (He.cT K p).2).Nodup := of_decide_eq_true c.more
  refine ⟨K, tf.map (He.cT K), tabsT K tf, run D WW 10, f_law, X, fun p hp => ?_, fun p hp => ?_, fun p hp => ?_, fun base kb gb tb => ?_, fun H ht => tabs_nil ht, fun ns hl => ?_⟩
  · obtain ⟨q, hq, rfl⟩ := List.mem_map.mp hp
    exact c.empty q hq
  · obtain ⟨q, hq, rfl⟩ := List.mem_map.mp hp
    exact c.out q hq
  · obtain ⟨q, hq, rfl⟩ := List.mem_map.mp hp
    exact PySem.W.codeHd_of_K X (c.hd q hq)
  · exact run_sound (all_defs X G cd nd tb) rfl (all_con X G cd) (all_blt X G cd) 10 f_law "law" f (by rfl) hm
  · exact ⟨[], law_ok 0 [] ns (by omega)⟩
end PL
open PySem PySem.W PySem.Calls PyProof.Rows
theorem PySem.Challenge.cw_deskgrove_k84_whole_weights_and_quotas_holds : PySem.Challenge.rw_deskgrove_k84_whole_weights_and_quotas.Holds := by
  w_on; o_law
  refine HandSHeadRun.head_any (r := HeadT.R) (q := view HeadT.R.prog [90]) (H := HeadT.hk) (ob := HeadT.ob) (M := 20000) (loose := HeadT.names) (d := HandSHeadRun.topDef HeadT.R.prog 90) (kwd := []) HeadT.ob_eq (by kernel_rfl) (fun s => by kernel_rfl) HeadT.run (by kernel_rfl) (by kernel_rfl) (by kernel_rfl) (by rfl)
    (by first | assumption | decide +kernel) (by decide +kernel) ⟨rfl, rfl, rfl, rfl, rfl, by decide +kernel⟩ ?hw ?hc
  case hw => w_witness2
  case hc =>
    refine PL.walk_told (l := PySem.Challenge.rw_deskgrove_k84_whole_weights_and_quotas) (n := 63) (k := 60) rfl (by decide) (by kernel_rfl) ⟨rfl, by decide, by decide⟩ fun w mg f h Y G hm => ?_
    have e : (HandSHeadRun.topDef HeadT.R.prog 90).name = ("law" : PySem.Str) := by kernel_rfl
    rw [e] at hm
    exact PL.told w mg f h Y G hm
