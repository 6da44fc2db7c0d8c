import PyProof.Rows.All
import Wide.All
import OpenK.AllK
import Wide.FinOn
import HandS.ForMost
import HandS.Exc
import HandS.TryOnly
import HandS.ExcOwn
import HandS.WordsExc
import HandS.TupAny
import HandS.TupLe
import HandS.Style
import HandS.Flow
import HandS.Zip
import HandS.IsInst
import KE.SortData
import HandS.TupMul
import HandS.Iter
import KE.GoesMore
import HandS.SetFor
import HandS.SortKw
import HandS.EndBits
import PySem.Challenge.RW_balltables_k20_whole_balls_locked
set_option Elab.async false
set_option linter.all false
set_option maxRecDepth 100000
set_option maxHeartbeats 4000000
/-! A small pure language: data, cells, meaning. -/
namespace B
open PySem

inductive D where
  | non | bl (b : Bool) | int (i : Int) | str (s : Str) | tup (xs : List D) | lst (xs : List D) | scr (ns : List Int) | ref (n : Nat) | exc (c : Nat)

instance : Inhabited D := ⟨.non⟩
mutual
def D.same : D → D → Bool
  | .non, .non => true
  | .bl a, .bl b => a == b
  | .int a, .int b => a == b
  | .str a, .str b => decide (a = b)
  | .tup a, .tup b => D.sameL a b
  | .lst a, .lst b => D.sameL a b
  | .scr a, .scr b => decide (a = b)
  | .ref a, .ref b => decide (a = b)
  | .exc a, .exc b => decide (a = b)
  | _, _ => false
def D.sameL : List D → List D → Bool
  | [], [] => true
  | x :: xs, y :: ys => D.same x y && D.sameL xs ys
  | _, _ => false
end
mutual
theorem D.same_iff : ∀ a b : D, D.same a b = true ↔ a = b
  | .non, b => by cases b <;> simp [D.same]
  | .bl a, b => by cases b <;> simp [D.same]
  | .int a, b => by cases b <;> simp [D.same]
  | .str a, b => by cases b <;> simp [D.same]
  | .tup a, b => by
    cases b <;> simp [D.same]
    exact D.sameL_iff a _
  | .lst a, b => by
    cases b <;> simp [D.same]
    exact D.sameL_iff a _
  | .scr a, b => by cases b <;> simp [D.same]
  | .ref a, b => by cases b <;> simp [D.same]
  | .exc a, b => by cases b <;> simp [D.same]
theorem D.sameL_iff : ∀ a b : List D, D.sameL a b = true ↔ a = b
  | [], b => by cases b <;> simp [D.sameL]
  | x :: xs, b => by
    cases b with
    | nil => simp [D.sameL]
    | cons y ys =>
      simp only [D.sameL, Bool.and_eq_true, List.cons.injEq]
      rw [D.same_iff x y, D.sameL_iff xs ys]
end
instance : DecidableEq D := fun a b => if h : D.same a b = true then .isTrue ((D.same_iff a b).mp h) else .isFalse fun e => h ((D.same_iff a b).mpr e)

inductive Cell where
  | lst (xs : List D) | dict (kvs : List (Str × D)) | ins (c : Nat) (fs : List (Str × D))
  deriving DecidableEq

abbrev Store := List Cell
inductive R (α : Type) where
  | ok (a : α) (st : Store) | exc (c : Nat) (st : Store) | stuck
def R.bind {α β : Type} (x : R α) (f : α → Store → R β) : R β :=
  match x with
  | .ok a st => f a st
  | .exc c st => .exc c st
  | .stuck => .stuck
theorem R.bind_ok {α β : Type} (a : α) (st : Store) (f : α → Store → R β) : (R.ok a st).bind f = f a st := rfl
theorem R.bind_stuck {α β : Type} (f : α → Store → R β) : (R.stuck : R α).bind f = .stuck := rfl
theorem R.bind_exc {α β : Type} (c : Nat) (st : Store) (f : α → Store → R β) : (R.exc c st : R α).bind f = .exc c st := rfl
def lift {α : Type} (o : Option α) (st : Store) : R α :=
  match o with
  | some a => .ok a st
  | none => .stuck
theorem lift_some {α : Type} (a : α) (st : Store) : lift (some a) st = .ok a st := rfl
theorem lift_none {α : Type} (st : Store) : lift (none : Option α) st = .stuck := rfl

/-! ### values -/
mutual
def eqv : D → D → Bool
  | .non, .non => true
  | .bl a, .bl b => a == b
  | .bl a, .int j => (if a then 1 else 0) == j
  | .int i, .bl b => i == (if b then 1 else 0)
  | .int a, .int b => a == b
  | .str a, .str b => a == b
  | .tup a, .tup b => eqvL a b
  | .lst a, .lst b => eqvL a b
  | _, _ => false
def eqvL : List D → List D → Bool
  | [], [] => true
  | x :: xs, y :: ys => eqv x y && eqvL xs ys
  | _, _ => false
end
/-- plain data, not too deep -/
def eqOk : Nat → D → Bool
  | _, .non => true
  | _, .bl _ => true
  | _, .int _ => true
  | _, .str s => PyData.strOk s
  | n + 1, .tup xs => xs.all (eqOk n)
  | n + 1, .lst xs => xs.all (eqOk n)
  | _, _ => false
/-- a list's content: a value, or a cell -/
def view (st : Store) (d : D) : D :=
  match d with
  | .ref n => match st[n]? with
    | some (.lst xs) => .lst xs
    | _ => .ref n
  | d => d
def eqD (a b : D) : Option Bool :=
  match a, b with
  | .str x, .str y => some (decide (x = y))
  | a, b => if eqOk 60 a && eqOk 60 b then some (eqv a b) else none
def flat : D → Bool
  | .non => true | .bl _ => true | .int _ => true | .str _ => true | _ => false
def listOf (st : Store) (d : D) : Option (List D) :=
  match view st d with
  | .lst xs => some xs
  | _ => none
def seqOf (st : Store) (d : D) : Option (List D) :=
  match view st d with
  | .lst xs => some xs
  | .tup xs => some xs
  | _ => none
def signs (s : Str) : List D := s.cps.toList.map fun c => .str ⟨#[c]⟩
def itemsOf (st : Store) (d : D) : Option (List D) :=
  match view st d with
  | .lst xs => some xs
  | .tup xs => some xs
  | .str s => if s.length ≤ sizeLine then some (signs s) else none
  | _ => none
def intsOf : List D → Option (List Int)
  | [] => some []
  | .int i :: r => (intsOf r).map (i :: ·)
  | _ => none
def strsOf : List D → Option (List Str)
  | [] => some []
  | .str i :: r => (strsOf r).map (i :: ·)
  | _ => none
def blsOf : List D → Option (List Bool)
  | [] => some []
  | .bl i :: r => (blsOf r).map (i :: ·)
  | _ => none
def atD (xs : List D) (i : Int) : Option D := L2.atI xs i
def cutD (xs : List D) (lo hi : Option Int) : List D := (xs.drop (HT.sIx xs.length 0 lo)).take (HT.sIx xs.length xs.length hi - HT.sIx xs.length 0 lo)
def getF (fs : List (Str × D)) (f : Str) : Option D := fs.lookup f
def putF (f : Str) (v : D) : List (Str × D) → List (Str × D)
  | [] => [(f, v)]
  | (g, w) :: r => if g = f then (g, v) :: r else (g, w) :: putF f v r
def getK (kvs : List (Str × D)) (k : Str) : Option D := (kvs.find? fun kv => decide (kv.1 = k)).map (·.2)
def putK (kvs : List (Str × D)) (k : Str) (v : D) : List (Str × D) :=
  if kvs.any fun kv => decide (kv.1 = k) then kvs.map fun kv => if kv.1 = k then (kv.1, v) else kv else kvs ++ [(k, v)]

/-- pairs of a text and a value -/
def pairsD : List D → Option (List (Str × D))
  | [] => some []
  | .tup [.str k, v] :: r => (pairsD r).map ((k, v) :: ·)
  | _ => none
/-- a dict of them: later ones win, the places are the first ones' -/
def mergeD (kvs : List (Str × D)) : List (Str × D) := kvs.foldl (fun acc kv => putK acc kv.1 kv.2) []
/-! ### sorting, sets -/
mutual
/-- plain data as the library's -/
def toPd : D → PyData
  | .non => .none
  | .bl b => .bool b
  | .int i => .int i
  | .str s => .str s
  | .tup xs => .tuple (toPdL xs)
  | .lst xs => .list (toPdL xs)
  | _ => .none
def toPdL : List D → List PyData
  | [] => []
  | x :: xs => toPd x :: toPdL xs
end
def isTupNE : D → Bool
  | .tup (_ :: _) => true
  | _ => false
def isKey : D → Bool
  | .int _ => true | .str _ => true | .bl _ => true | .lst _ => true | _ => false
def sortOk (ds : List D) : Bool := ds.all (eqOk 50) && (ds.all fun a => ds.all fun b => PySem.W.alike (toPd a) (toPd b)) && (ds.all isTupNE || ds.all isKey)
def sortD (rev : Bool) (ds : List D) : Option (List D) := if sortOk ds then some (ds.mergeSort (PySem.W.dataLe rev toPd)) else none
def strLe (a b : Str) : Bool := decide (a.cps.toList ≤ b.cps.toList)
/-- the unlike ones, the earlier ones first -/
def distinct {K : Type} [DecidableEq K] (l : List K) : List K := l.foldl (fun acc x => if x ∈ acc then acc else acc ++ [x]) []
def ssetD (ds : List D) : Option (List D) := match strsOf ds with
  | some xs => if xs.length < 4000 then some (((distinct xs).mergeSort strLe).map .str) else none
  | none => none
def lsetD (ds : List D) : Option D := match intsOf ds with
  | some xs => if xs.length < 4000 then some (.int (distinct xs).length) else none
  | none => match strsOf ds with
    | some xs => if xs.length < 4000 then some (.int (distinct xs).length) else none
    | none => none
def maxI : List Int → Int
  | [] => 0
  | x :: xs => xs.foldl (fun a b => if b > a then b else a) x
def minI : List Int → Int
  | [] => 0
  | x :: xs => xs.foldl (fun a b => if b < a then b else a) x

inductive Bop where
  | add | sub | mul | mod | fdiv | pow
  deriving DecidableEq
inductive Cop where
  | eq | ne | lt | le | gt | ge | is | isn | inn | nin
  deriving DecidableEq
def mulOk (i j : Int) : Bool := decide (i.natAbs < 2 ^ 64) || decide (j.natAbs < 2 ^ 64)
def binD (o : Bop) (a b : D) : Option D :=
  match o, a, b with
  | .add, .int i, .int j => some (.int (i + j))
  | .sub, .int i, .int j => some (.int (i - j))
  | .mul, .int i, .int j => if mulOk i j then some (.int (i * j)) else none
  | .mod, .int i, .int j => if 0 < j then some (.int (i % j)) else none
  | .fdiv, .int i, .int j => if 0 < j ∧ j.natAbs < 1073741824 then some (.int (i / j)) else none
  | .pow, .int i, .int j => if 0 ≤ j ∧ j ≤ 1000000 ∧ i.natAbs < 2 ^ 64 then some (.int (i ^ j.toNat)) else none
  | .add, .str x, .str y => if x.length + y.length ≤ sizeLine then some (.str (x ++ y)) else none
  | .add, .tup x, .tup y => if x.length + y.length ≤ sizeLine then some (.tup (x ++ y)) else none
  | .mul, .tup x, .int k => if 1 ≤ k ∧ k ≤ 1000 ∧ x ≠ [] ∧ x.length ≤ 1000 then some (.tup (List.replicate k.toNat x).flatten) else none
  | _, _, _ => none
def inD (x y : D) : Option Bool :=
  match x, y with
  | .str a, .str b => if a.length = 1 then some (decide ((a.cps.getD 0 0) ∈ b.cps.toList)) else none
  | x, .tup ys => if flat x && ys.all flat then some (ys.any fun y => eqv y x) else none
  | x, .lst ys => if flat x && ys.all flat then some (ys.any fun y => eqv y x) else none
  | _, _ => none
def cmpD (o : Cop) (st : Store) (a b : D) : Option Bool :=
  match o with
  | .eq => eqD (view st a) (view st b)
  | .ne => (eqD (view st a) (view st b)).map (!·)
  | .lt => match a, b with
    | .int i, .int j => some (decide (i < j))
    | .str i, .str j => some (decide (i.cps.toList < j.cps.toList))
    | _, _ => none
  | .le => match a, b with
    | .int i, .int j => some (decide (i ≤ j))
    | .str i, .str j => some (!decide (j.cps.toList < i.cps.toList))
    | _, _ => none
  | .gt => match a, b with
    | .int i, .int j => some (decide (j < i))
    | _, _ => none
  | .ge => match a, b with
    | .int i, .int j => some (decide (j ≤ i))
    | _, _ => none
  | .is => match b with
    | .non => some (decide (a = .non))
    | .bl y => match a with
      | .bl x => some (decide (x = y))
      | _ => none
    | _ => none
  | .isn => match b with
    | .non => some (!decide (a = .non))
    | .bl y => match a with
      | .bl x => some (!decide (x = y))
      | _ => none
    | _ => none
  | .inn => inD a (view st b)
  | .nin => (inD a (view st b)).map (!·)
def truD (st : Store) (d : D) : Option Bool :=
  match d with
  | .non => some false
  | .bl b => some b
  | .int i => some (i != 0)
  | .str s => if s.length ≤ sizeLine then some (s.length != 0) else none
  | .tup xs => some (!xs.isEmpty)
  | .lst xs => some (!xs.isEmpty)
  | .ref n => match st[n]? with
    | some (.lst xs) => some (!xs.isEmpty)
    | _ => none
  | _ => none
def idxD (st : Store) (a b : D) : Option D :=
  match b with
  | .int i => match view st a with
    | .lst xs => atD xs i
    | .tup xs => atD xs i
    | .scr ns => (L2.atI ns i).map .int
    | .str s => if s.length ≤ sizeLine then (L2.atI s.cps.toList i).map fun c => .str ⟨#[c]⟩ else none
    | _ => none
  | .str k => match a with
    | .ref n => match st[n]? with
      | some (.dict kvs) => getK kvs k
      | _ => none
    | _ => none
  | _ => none
def fldD (st : Store) (a : D) (f : Str) : Option D :=
  match a with
  | .ref n => match st[n]? with
    | some (.ins _ fs) => getF fs f
    | _ => none
  | _ => none

def putCell (st : Store) (n : Nat) (c : Cell) : Store := st.set n c
/-- an instance of the class c, without an attribute m of its own -/
def instOf (st : Store) (a : D) (c : Nat) (m : Str) : Bool :=
  match a with
  | .ref n => match st[n]? with
    | some (.ins c' fs) => decide (c' = c) && (getF fs m).isNone
    | _ => false
  | _ => false
def lstAt (st : Store) (x : D) : Option (List D) :=
  match x with
  | .ref n => match st[n]? with
    | some (.lst xs) => some xs
    | _ => none
  | _ => none
/-- the list cell x is changed -/
def putL (st : Store) (x : D) (xs : List D) : Store :=
  match x with
  | .ref n => putCell st n (.lst xs)
  | _ => st
def noExc {α : Type} (r : R α) : R α :=
  match r with
  | .exc _ _ => .stuck
  | r => r
/-- built-in functions of one or two values, by the values -/
inductive BI where
  | len | int | tuple | all | sum | max2 | min2 | maxL | minL | str
  deriving DecidableEq
def biD (b : BI) (st : Store) (ds : List D) : Option D :=
  match b, ds with
  | .len, [d] => match view st d with
    | .lst xs => some (.int xs.length)
    | .tup xs => some (.int xs.length)
    | .scr ns => some (.int ns.length)
    | .str s => if s.length ≤ sizeLine then some (.int s.length) else none
    | _ => none
  | .int, [.int i] => some (.int i)
  | .int, [.bl k] => some (.int (if k then 1 else 0))
  | .tuple, [d] => (seqOf st d).map .tup
  | .all, [d] => match listOf st d with
    | some xs => (blsOf xs).map fun bs => .bl (bs.all id)
    | _ => none
  | .sum, [d] => match listOf st d with
    | some xs => (intsOf xs).map fun ns => .int ns.sum
    | _ => none
  | .maxL, [d] => match listOf st d with
    | some xs => match intsOf xs with
      | some (n :: ns) => some (.int (maxI (n :: ns)))
      | _ => none
    | _ => none
  | .minL, [d] => match listOf st d with
    | some xs => match intsOf xs with
      | some (n :: ns) => some (.int (minI (n :: ns)))
      | _ => none
    | _ => none
  | .max2, [.int i, .int j] => some (.int (if j > i then j else i))
  | .min2, [.int i, .int j] => some (.int (if j < i then j else i))
  | _, _ => none

/-! ### the language -/
mutual
inductive Ex where
  | var (i : Nat)
  | con (d : D)
  | glob (x : Str) (d : D)
  | bin (o : Bop) (a b : Ex)
  | neg (a : Ex)
  | cmp (o : Cop) (a b : Ex)
  | chn (o o' : Cop) (a b c : Ex)
  | and (a b : Ex)
  | or (a b : Ex)
  | not (a : Ex)
  | ife (c a b : Ex)
  | tup (es : Es)
  | frz (c : Cr)
  | cel (c : Cr)
  | dic (ks : List Str) (es : Es)
  | idx (a b : Ex)
  | slc (a : Ex) (lo hi : Eo)
  | fld (a : Ex) (f : Str)
  | call (f : Nat) (es : Es)
  | make (f : Nat) (es : Es)
  | meth (f c : Nat) (m : Str) (o : Ex) (es : Es)
  | blt (b : BI) (es : Es)
  | app (o e : Ex)
  | ext (o e : Ex)
  | pop (o : Ex)
  | olen (i : Nat)
  | oidx (i : Nat) (e : Ex)
  | lset (e : Ex)
  | dof (e : Ex)
inductive Eo where
  | none | some (e : Ex)
inductive Es where
  | nil | cons (e : Ex) (es : Es)
inductive Cr where
  | disp (es : Es)
  | comp (elt : Ex) (tg : Tg) (it : Wk) (cond : Eo) (own : List Nat)
  | copy (e : Ex)
  | cat (a b : Ex)
  | rev (e : Ex)
  | sort (e : Ex)
  | srev (e : Ex)
  | sset (e : Ex)
  | rng (it : Wk)
  | rep (a b : Ex)
inductive Wk where
  | val (e : Ex)
  | rng1 (a : Ex)
  | rng2 (a b : Ex)
  | rng3 (a b : Ex)
  | enum (e : Ex)
  | zip (a b : Ex)
inductive Tg where
  | nm (i : Nat)
  | tp (ts : Ts)
  | fl (o : Ex) (f : Str)
  | sb (o i : Ex)
inductive Ts where
  | nil | cons (t : Tg) (ts : Ts)
end
mutual
inductive Sm where
  | asg (tg : Tg) (e : Ex)
  | par2 (i j : Nat) (a b : Ex)
  | par3 (i j l : Nat) (a b c : Ex)
  | own (i : Nat) (c : Cr)
  | frz (i : Nat)
  | oapp (i : Nat) (e : Ex)
  | oext (i : Nat) (e : Ex)
  | oset (i : Nat) (a e : Ex)
  | expr (e : Ex)
  | ret (e : Ex)
  | retN
  | ife (c : Ex) (a b : Ss)
  | for (tg : Tg) (it : Wk) (body : Ss)
  | whil (n : Nat) (c : Ex) (body : Ss)
  | raise (c : Nat) (m : Str)
  | cont
  | brk
inductive Ss where
  | nil | cons (s : Sm) (r : Ss)
end

/-- what a slot holds: nothing; a value; a list that this slot alone knows -/
inductive Slot where
  | no | val (d : D) | own (xs : List D)
abbrev Slots := List Slot
def getV (ρ : Slots) (i : Nat) : Option D :=
  match ρ[i]? with
  | some (.val d) => some d
  | _ => none
def getO (ρ : Slots) (i : Nat) : Option (List D) :=
  match ρ[i]? with
  | some (.own xs) => some xs
  | _ => none
/-- the comprehension's own names are forgotten -/
def wipeE (ρ : Slots) : List Nat → Slots
  | [] => ρ
  | i :: r => (wipeE ρ r).set i .no

abbrev Phi := Nat → List D → Store → R D
/-- the source of a loop stands as it stood -/
def srcOk (st : Store) (d : D) (xs : List D) : Bool :=
  match d with
  | .ref n => decide (st[n]? = some (.lst xs))
  | _ => true
def compL (f : D → Store → R (Option D)) (ok : Store → Bool) : List D → Store → R (List D)
  | [], st => if ok st then .ok [] st else .stuck
  | x :: xs, st => if ok st then (f x st).bind fun o st1 => (compL f ok xs st1).bind fun r st2 => .ok (o.toList ++ r) st2 else .stuck
def rngL (lo : Int) (n : Nat) : List D := (List.range n).map fun i => .int (lo + (i : Nat))
/-- range(i, j, -1) -/
def dwnL (lo : Int) (n : Nat) : List D := (List.range n).map fun i => .int (lo - (i : Nat))
def rngOk (i j : Int) : Bool := decide (i.natAbs < 2 ^ 62) && decide (j.natAbs < 2 ^ 62) && decide ((j - i).toNat ≤ sizeLine)
def enumL (xs : List D) : List D := xs.zipIdx.map fun p => .tup [.int (p.2 : Nat), p.1]
def zipL (xs ys : List D) : List D := (xs.zip ys).map fun p => .tup [p.1, p.2]
/-- items, and the test that the source stands -/
abbrev Items := List D × (Store → Bool)

mutual
def evE (Φ : Phi) : Ex → Slots → Store → R D
  | .var i, ρ, st => lift (getV ρ i) st
  | .con d, _, st => .ok d st
  | .glob _ d, _, st => .ok d st
  | .bin o a b, ρ, st => (evE Φ a ρ st).bind fun x st => (evE Φ b ρ st).bind fun y st => lift (binD o x y) st
  | .neg a, ρ, st => (evE Φ a ρ st).bind fun x st => match x with
    | .int i => .ok (.int (-i)) st
    | _ => .stuck
  | .cmp o a b, ρ, st => (evE Φ a ρ st).bind fun x st => (evE Φ b ρ st).bind fun y st => (lift (cmpD o st x y) st).bind fun k st => .ok (.bl k) st
  | .chn o o' a b c, ρ, st => (evE Φ a ρ st).bind fun x st => (evE Φ b ρ st).bind fun y st => (lift (cmpD o st x y) st).bind fun k st =>
      if k then (evE Φ c ρ st).bind fun z st => (lift (cmpD o' st y z) st).bind fun k st => .ok (.bl k) st else .ok (.bl false) st
  | .and a b, ρ, st => (evE Φ a ρ st).bind fun x st => match x with
    | .bl true => evE Φ b ρ st
    | .bl false => .ok (.bl false) st
    | _ => .stuck
  | .or a b, ρ, st => (evE Φ a ρ st).bind fun x st => match x with
    | .bl true => .ok (.bl true) st
    | .bl false => evE Φ b ρ st
    | _ => .stuck
  | .not a, ρ, st => (evE Φ a ρ st).bind fun x st => (lift (truD st x) st).bind fun k st => .ok (.bl !k) st
  | .ife c a b, ρ, st => (evT Φ c ρ st).bind fun k st => if k then evE Φ a ρ st else evE Φ b ρ st
  | .tup es, ρ, st => (evEs Φ es ρ st).bind fun ds st => .ok (.tup ds) st
  | .frz c, ρ, st => (evC Φ c ρ st).bind fun ds st => .ok (.lst ds) st
  | .cel c, ρ, st => (evC Φ c ρ st).bind fun ds st => .ok (.ref st.length) (st ++ [.lst ds])
  | .dic ks es, ρ, st => (evEs Φ es ρ st).bind fun ds st => .ok (.ref st.length) (st ++ [.dict (ks.zip ds)])
  | .idx a b, ρ, st => (evE Φ a ρ st).bind fun x st => (evE Φ b ρ st).bind fun y st => lift (idxD st x y) st
  | .slc a lo hi, ρ, st => (evE Φ a ρ st).bind fun x st => (evEo Φ lo ρ st).bind fun l st => (evEo Φ hi ρ st).bind fun h st => match view st x with
    | .tup xs => .ok (.tup (cutD xs l h)) st
    | .lst xs => .ok (.lst (cutD xs l h)) st
    | .str s => if s.length ≤ sizeLine then .ok (.str (L2.cutS s l h)) st else .stuck
    | _ => .stuck
  | .fld a f, ρ, st => (evE Φ a ρ st).bind fun x st => lift (fldD st x f) st
  | .call f es, ρ, st => (evEs Φ es ρ st).bind fun ds st => Φ f ds st
  | .make f es, ρ, st => (evEs Φ es ρ st).bind fun ds st => (noExc (Φ f (.ref st.length :: ds) (st ++ [.ins f []]))).bind fun r st' => match r with
    | .non => .ok (.ref st.length) st'
    | _ => .stuck
  | .meth f c m o es, ρ, st => (evE Φ o ρ st).bind fun x st => if instOf st x c m then (evEs Φ es ρ st).bind fun ds st => Φ f (x :: ds) st else .stuck
  | .blt b es, ρ, st => (evEs Φ es ρ st).bind fun ds st => lift (biD b st ds) st
  | .app o e, ρ, st => (evE Φ o ρ st).bind fun x st => if (lstAt st x).isSome then (evE Φ e ρ st).bind fun y st => match lstAt st x with
    | some xs => if xs.length < sizeLine then .ok .non (putL st x (xs ++ [y])) else .stuck
    | none => .stuck else .stuck
  | .ext o e, ρ, st => (evE Φ o ρ st).bind fun x st => if (lstAt st x).isSome then (evE Φ e ρ st).bind fun y st => match y with
    | .lst ys => match lstAt st x with
      | some xs => if xs.length + ys.length ≤ sizeLine then .ok .non (putL st x (xs ++ ys)) else .stuck
      | none => .stuck
    | _ => .stuck else .stuck
  | .pop o, ρ, st => (evE Φ o ρ st).bind fun x st => match lstAt st x with
    | some xs => match xs[xs.length - 1]? with
      | some y => .ok y (putL st x xs.dropLast)
      | none => .stuck
    | none => .stuck
  | .olen i, ρ, st => match getO ρ i with
    | some xs => .ok (.int xs.length) st
    | none => .stuck
  | .oidx i e, ρ, st => match getO ρ i with
    | some xs => (evE Φ e ρ st).bind fun y st => match y with
      | .int k => lift (atD xs k) st
      | _ => .stuck
    | none => .stuck
  | .lset e, ρ, st => (evE Φ e ρ st).bind fun x st => match seqOf st x with
    | some xs => lift (lsetD xs) st
    | none => .stuck
  | .dof e, ρ, st => (evE Φ e ρ st).bind fun x st => match (listOf st x).bind pairsD with
    | some kvs => .ok (.ref st.length) (st ++ [.dict (mergeD kvs)])
    | none => .stuck
def evT (Φ : Phi) : Ex → Slots → Store → R Bool
  | .and a b, ρ, st => (evT Φ a ρ st).bind fun k st => if k then evT Φ b ρ st else .ok false st
  | .or a b, ρ, st => (evT Φ a ρ st).bind fun k st => if k then .ok true st else evT Φ b ρ st
  | .not a, ρ, st => (evT Φ a ρ st).bind fun k st => .ok (!k) st
  | e, ρ, st => (evE Φ e ρ st).bind fun x st => lift (truD st x) st
def evEo (Φ : Phi) : Eo → Slots → Store → R (Option Int)
  | .none, _, st => .ok none st
  | .some e, ρ, st => (evE Φ e ρ st).bind fun x st => match x with
    | .int i => .ok (some i) st
    | _ => .stuck
def evEs (Φ : Phi) : Es → Slots → Store → R (List D)
  | .nil, _, st => .ok [] st
  | .cons e es, ρ, st => (evE Φ e ρ st).bind fun x st => (evEs Φ es ρ st).bind fun xs st => .ok (x :: xs) st
def evC (Φ : Phi) : Cr → Slots → Store → R (List D)
  | .disp es, ρ, st => evEs Φ es ρ st
  | .comp elt tg it cond own, ρ, st => (evI Φ it ρ st).bind fun p st =>
      compL (fun x st => noExc ((asT Φ tg x (wipeE ρ own) st).bind fun ρ' st => (evCo Φ cond ρ' st).bind fun k st => if k then (evE Φ elt ρ' st).bind fun y st => .ok (some y) st else .ok none st)) p.2 p.1 st
  | .copy e, ρ, st => (evE Φ e ρ st).bind fun x st => lift (seqOf st x) st
  | .cat a b, ρ, st => (evE Φ a ρ st).bind fun x st => (evE Φ b ρ st).bind fun y st => match view st x, view st y with
    | .lst xs, .lst ys => if xs.length + ys.length ≤ sizeLine then .ok (xs ++ ys) st else .stuck
    | _, _ => .stuck
  | .rev e, ρ, st => (evE Φ e ρ st).bind fun x st => match listOf st x with
    | some xs => .ok xs.reverse st
    | none => .stuck
  | .sort e, ρ, st => (evE Φ e ρ st).bind fun x st => match seqOf st x with
    | some xs => lift (sortD false xs) st
    | none => .stuck
  | .srev e, ρ, st => (evE Φ e ρ st).bind fun x st => match listOf st x with
    | some xs => lift (sortD true xs) st
    | none => .stuck
  | .sset e, ρ, st => (evE Φ e ρ st).bind fun x st => match seqOf st x with
    | some xs => lift (ssetD xs) st
    | none => .stuck
  | .rng it, ρ, st => (evI Φ it ρ st).bind fun p st => .ok p.1 st
  | .rep a b, ρ, st => (evE Φ a ρ st).bind fun x st => (evE Φ b ρ st).bind fun y st => match x, y with
    | .lst xs, .int k => if -(2 ^ 63) ≤ k ∧ k < 2 ^ 63 ∧ xs.length * k.toNat ≤ sizeLine then .ok (List.replicate k.toNat xs).flatten st else .stuck
    | _, _ => .stuck
def evCo (Φ : Phi) : Eo → Slots → Store → R Bool
  | .none, _, st => .ok true st
  | .some e, ρ, st => evT Φ e ρ st
def evI (Φ : Phi) : Wk → Slots → Store → R Items
  | .val e, ρ, st => (evE Φ e ρ st).bind fun x st => (lift (itemsOf st x) st).bind fun xs st => .ok (xs, fun st => srcOk st x xs) st
  | .rng1 a, ρ, st => (evE Φ a ρ st).bind fun x st => match x with
    | .int j => if rngOk 0 j then .ok (rngL 0 j.toNat, fun _ => true) st else .stuck
    | _ => .stuck
  | .rng2 a b, ρ, st => (evE Φ a ρ st).bind fun x st => (evE Φ b ρ st).bind fun y st => match x, y with
    | .int i, .int j => if rngOk i j then .ok (rngL i (j - i).toNat, fun _ => true) st else .stuck
    | _, _ => .stuck
  | .rng3 a b, ρ, st => (evE Φ a ρ st).bind fun x st => (evE Φ b ρ st).bind fun y st => match x, y with
    | .int i, .int j => if rngOk j i then .ok (dwnL i (i - j).toNat, fun _ => true) st else .stuck
    | _, _ => .stuck
  | .enum e, ρ, st => (evE Φ e ρ st).bind fun x st => (lift (itemsOf st x) st).bind fun xs st => .ok (enumL xs, fun st => srcOk st x xs) st
  | .zip a b, ρ, st => (evE Φ a ρ st).bind fun x st => (evE Φ b ρ st).bind fun y st => match x, y with
    | .tup xs, .tup ys => .ok (zipL xs ys, fun _ => true) st
    | .lst xs, .lst ys => .ok (zipL xs ys, fun _ => true) st
    | _, _ => .stuck
/-- a value is stored -/
def asT (Φ : Phi) : Tg → D → Slots → Store → R Slots
  | .nm i, x, ρ, st => .ok (ρ.set i (.val x)) st
  | .tp ts, x, ρ, st => match x with
    | .tup xs => asTs Φ ts xs ρ st
    | _ => .stuck
  | .fl o f, x, ρ, st => (noExc (evE Φ o ρ st)).bind fun y st => match y with
    | .ref n => match st[n]? with
      | some (.ins c fs) => if fs.length < 1000 then .ok ρ (putCell st n (.ins c (putF f x fs))) else .stuck
      | _ => .stuck
    | _ => .stuck
  | .sb o i, x, ρ, st => (noExc (evE Φ o ρ st)).bind fun y st => (noExc (evE Φ i ρ st)).bind fun k st => match y with
    | .ref n => match st[n]?, k with
      | some (.lst xs), .int k => match L2.ixN xs.length k with
        | some j => .ok ρ (putCell st n (.lst (xs.set j x)))
        | none => .stuck
      | some (.dict kvs), .str k => if kvs.length < sizeLine then .ok ρ (putCell st n (.dict (putK kvs k x))) else .stuck
      | _, _ => .stuck
    | _ => .stuck
def asTs (Φ : Phi) : Ts → List D → Slots → Store → R Slots
  | .nil, [], ρ, st => .ok ρ st
  | .cons t ts, x :: xs, ρ, st => (asT Φ t x ρ st).bind fun ρ st => asTs Φ ts xs ρ st
  | _, _, _, _ => .stuck
end

/-- how a statement ends -/
inductive Fl where
  | next (ρ : Slots) | ret (d : D) | brk (ρ : Slots) | cont (ρ : Slots)
inductive RS where
  | ok (f : Fl) (st : Store) | exc (c : Nat) (ρ : Slots) (st : Store) | stuck
def RS.bind (x : RS) (f : Slots → Store → RS) : RS :=
  match x with
  | .ok (.next ρ) st => f ρ st
  | r => r
/-- an expression's end in a statement -/
def R.s {α : Type} (x : R α) (ρ : Slots) (f : α → Store → RS) : RS :=
  match x with
  | .ok a st => f a st
  | .exc c st => .exc c ρ st
  | .stuck => .stuck
def forL (f : D → Slots → Store → RS) (ok : Store → Bool) : List D → Slots → Store → RS
  | [], ρ, st => if ok st then .ok (.next ρ) st else .stuck
  | x :: xs, ρ, st => if ok st then (match f x ρ st with
    | .ok (.next ρ) st => forL f ok xs ρ st
    | .ok (.cont ρ) st => forL f ok xs ρ st
    | .ok (.brk ρ) st => .ok (.next ρ) st
    | r => r) else .stuck
def whileL (c : Slots → Store → R Bool) (f : Slots → Store → RS) : Nat → Slots → Store → RS
  | 0, _, _ => .stuck
  | n + 1, ρ, st => (c ρ st).s ρ fun k st => if k then (match f ρ st with
    | .ok (.next ρ) st => whileL c f n ρ st
    | .ok (.cont ρ) st => whileL c f n ρ st
    | .ok (.brk ρ) st => .ok (.next ρ) st
    | r => r) else .ok (.next ρ) st
mutual
def evS (Φ : Phi) : Sm → Slots → Store → RS
  | .asg tg e, ρ, st => (evE Φ e ρ st).s ρ fun x st => (asT Φ tg x ρ st).s ρ fun ρ st => .ok (.next ρ) st
  | .par2 i j a b, ρ, st => (evE Φ a ρ st).s ρ fun x st => (evE Φ b ρ st).s ρ fun y st => .ok (.next ((ρ.set i (.val x)).set j (.val y))) st
  | .par3 i j l a b c, ρ, st => (evE Φ a ρ st).s ρ fun x st => (evE Φ b ρ st).s ρ fun y st => (evE Φ c ρ st).s ρ fun z st => .ok (.next (((ρ.set i (.val x)).set j (.val y)).set l (.val z))) st
  | .own i c, ρ, st => (evC Φ c ρ st).s ρ fun xs st => .ok (.next (ρ.set i (.own xs))) st
  | .frz i, ρ, st => match getO ρ i with
    | some xs => .ok (.next (ρ.set i (.val (.lst xs)))) st
    | none => .ok (.next ρ) st
  | .oapp i e, ρ, st => match getO ρ i with
    | some xs => (evE Φ e ρ st).s ρ fun y st => if xs.length < sizeLine then .ok (.next (ρ.set i (.own (xs ++ [y])))) st else .stuck
    | none => .stuck
  | .oext i e, ρ, st => match getO ρ i with
    | some xs => (evE Φ e ρ st).s ρ fun y st => match y with
      | .lst ys => if xs.length + ys.length ≤ sizeLine then .ok (.next (ρ.set i (.own (xs ++ ys)))) st else .stuck
      | _ => .stuck
    | none => .stuck
  | .oset i a e, ρ, st => match getO ρ i with
    | some xs => (evE Φ e ρ st).s ρ fun y st => (noExc (evE Φ a ρ st)).s ρ fun k st => match k with
      | .int k => match L2.ixN xs.length k with
        | some j => .ok (.next (ρ.set i (.own (xs.set j y)))) st
        | none => .stuck
      | _ => .stuck
    | none => .stuck
  | .expr e, ρ, st => (evE Φ e ρ st).s ρ fun _ st => .ok (.next ρ) st
  | .ret e, ρ, st => (evE Φ e ρ st).s ρ fun x st => .ok (.ret x) st
  | .retN, _, st => .ok (.ret .non) st
  | .ife c a b, ρ, st => (evT Φ c ρ st).s ρ fun k st => if k then evSs Φ a ρ st else evSs Φ b ρ st
  | .for tg it body, ρ, st => (evI Φ it ρ st).s ρ fun p st => forL (fun x ρ st => (asT Φ tg x ρ st).s ρ fun ρ st => evSs Φ body ρ st) p.2 p.1 ρ st
  | .whil n c body, ρ, st => whileL (fun ρ st => evT Φ c ρ st) (fun ρ st => evSs Φ body ρ st) n ρ st
  | .raise c _, ρ, st => .exc c ρ st
  | .cont, ρ, st => .ok (.cont ρ) st
  | .brk, ρ, st => .ok (.brk ρ) st
def evSs (Φ : Phi) : Ss → Slots → Store → RS
  | .nil, ρ, st => .ok (.next ρ) st
  | .cons s r, ρ, st => (evS Φ s ρ st).bind fun ρ st => evSs Φ r ρ st
end

/-! ### defs -/
/-- no cell is told in it -/
def noRef : Nat → D → Bool
  | _, .ref _ => false
  | n + 1, .tup xs => xs.all (noRef n)
  | n + 1, .lst xs => xs.all (noRef n)
  | _, .tup _ => false
  | _, .lst _ => false
  | _, _ => true
structure Def where
  ar : Nat
  sz : Nat
  body : Ss
  drop : Bool := false
def startE (n : Nat) (ds : List D) : Slots := ds.map .val ++ List.replicate (n - ds.length) .no
/-- behind a def: what it hands back -/
def endOf (r : RS) : R D :=
  match r with
  | .ok (.ret d) st => .ok d st
  | .ok (.next _) st => .ok .non st
  | .exc c _ st => .exc c st
  | _ => .stuck
/-- the cells that the def has made are forgotten, where it hands back plain data and has changed no elder one -/
def dropped (drop : Bool) (st : Store) (r : R D) : R D :=
  match drop, r with
  | true, .ok d st' => if noRef 60 d && decide (st'.take st.length = st) then .ok d st else .stuck
  | _, r => r
def runD (Φ : Phi) (d : Def) (ds : List D) (st : Store) : R D :=
  if ds.length = d.ar then dropped d.drop st (endOf (evSs Φ d.body (startE d.sz ds) st)) else .stuck
/-- the whole text's meaning, calls at most so deep -/
def sem (defs : List Def) : Nat → Phi
  | 0 => fun _ _ _ => .stuck
  | n + 1 => fun f ds st => match defs[f]? with
    | some d => runD (sem defs n) d ds st
    | none => .stuck
end B

set_option Elab.async false
set_option linter.all false
set_option maxRecDepth 100000
set_option maxHeartbeats 4000000
/-! tuple * 1. -/
namespace B
set_option autoImplicit false
open PySem PySem.Spec L2
open PyProof.Rows hiding St
open AutoSeq1 (wpAny_loadPart')
theorem tuple_mul1 (l : Addr) (items : Array Value) (n : Nat) (dd : Option Addr) (sl : Array (Option Value)) (u : Tok) :
    Meets (Builtin.«tuple.__mul__» ⟨[.ref l, .int 1 u], []⟩) (fun _ R s => s.heap.get? l = some { cls := .type "tuple", dict := dd, data := .seq items n, slots := sl } ∧
      R (.ok (.ret (Value.ref l))) s) :=
  .of_wp fun prog w A R s h => by
    obtain ⟨hp, g, d, tk, os⟩ := s
    obtain ⟨hl, h⟩ := h
    have f1 := AutoSeq1.idx_int
    have c1 : (items.isEmpty || (1 : Int) == 1) = true := by simp
    wp_walk using wpAny_loadPart' hl
    repeat (first
      | (refine wpAny_ite_false (decide_eq_false (by decide)) ?_; wp_walk using wpAny_loadPart' hl)
      | (refine wpAny_ite_true (decide_eq_true c1) ?_; wp_walk using wpAny_loadPart' hl))
    exact ⟨_, rfl, h⟩
def rRepA (K : PySem.W.Frag) : R2 := fun x y H Q => ∃ l k xs, x = .ref l ∧ y = .int k ∧ SqT K H l xs ∧ xs ≠ [] ∧ 1 ≤ k ∧ k ≤ 1000 ∧ xs.length ≤ 1000 ∧ (k = 1 → Q (.ref l) H) ∧ (2 ≤ k → ∀ p, H p = none → Q (.ref p) (upd H p (.tup (List.replicate k.toNat xs).flatten)))
theorem op_repA {X : Cx} : OpR X (binaryOp .Mult) (rRepA X.K) := by
  intro pins s σ H x y v u Q I rx ry h
  obtain ⟨l, k, xs, rfl, rfl, hT, hne, h1, h2, hz, q1, q⟩ := h
  by_cases hk : 2 ≤ k
  · exact op_repT pins s σ H _ _ v u Q I rx ry ⟨l, k, xs, rfl, rfl, hT, hne, hk, h2, hz, q hk⟩
  have e : k = 1 := by omega
  subst e
  cases rx
  obtain ⟨t, rfl⟩ := ry
  obtain ⟨its, r, ⟨⟨cls, dd, data, sl⟩, ho, hc, n, hd⟩, hs⟩ := I.tuple hT
  simp only at hc hd
  subst hc hd
  refine wpAny_binaryOp_repeat_ref (T := "tuple") (U := "int") (by decide) ⟨_, ho, rfl⟩ (fun s' => typeIs_int s' 1 t) noFill_tuple_mul F.fills_int_mul F.slot_int_rmul repeat_tuple F.slot_int_index.lookup
    (call_meets F.slot_int_rmul (typeIs_int s 1 t) F.entry_int_rmul (F.args_int_rmul_2 _ _) (int_rmul_tuple 1 t l its.toArray n dd sl)
      ⟨ho, rfl, ⟨_, ho, rfl⟩, call_meets F.slot_tuple_mul ⟨_, ho, rfl⟩ F.entry_tuple_mul (F.args_tuple_mul_2 _ _) (tuple_mul1 l its.toArray n dd sl t) ⟨ho, ?_⟩⟩)
  exact ⟨.ref l, _, I, rfl, q1 rfl⟩
end B

set_option Elab.async false
set_option linter.all false
set_option maxRecDepth 100000
set_option maxHeartbeats 4000000
/-! enumerate over a tuple, over a text. -/
namespace B
set_option autoImplicit false
open PySem PySem.Spec L2
open PyProof.Rows hiding St
open AutoSeq1 (wpAny_loadPart')
theorem enum_newT (l : Addr) (items : Array Value) (n : Nat) (dct : Option Addr) (sl : Array (Option Value)) :
    Meets (Builtin.«enumerate.__new__» ⟨[.type "enumerate", .ref l], []⟩) (fun _ R s => s.heap.get? l = some { cls := .type "tuple", dict := dct, data := .seq items n, slots := sl } ∧
      R (.ok (.ret (.ref (s.heap.push { cls := .type "tuple_iterator", data := .fields #[.ref l, .int 0 0] }).objs.size)))
        { s with heap := (s.heap.push { cls := .type "tuple_iterator", data := .fields #[.ref l, .int 0 0] }).push { cls := .type "enumerate", data := .fields #[.none, .bool false, .ref s.heap.objs.size, rawInt 0, .none, .none] } }) :=
  .of_wp fun prog w A R s h => by
    obtain ⟨hp, g, d, tk, os⟩ := s
    obtain ⟨hl, h⟩ := h
    have hsub := sub_enumerate
    have hL : Heap.IsTuple (Shared.heap ⟨hp, g, d, tk, os⟩) l items := ⟨_, hl, rfl, n, rfl⟩
    wp_walk using wpAny_loadPart' hl
    refine wpAny_stack_any fun st => wpAny_pure ?_
    split
    · rename_i c _ _ _ _ _
      cases (c == Value.type "enumerate")
      · wp_walk using wpAny_loadPart' hl, wpAny_pyIter_tuple hL
        exact ⟨_, rfl, h⟩
      · wp_walk using wpAny_loadPart' hl, wpAny_pyIter_tuple hL
        exact ⟨_, rfl, h⟩
    · wp_walk using wpAny_loadPart' hl, wpAny_pyIter_tuple hL
      exact ⟨_, rfl, h⟩
section
variable {prog : Program} {w : World} {A : Around} {E : Value → Shared → Prop} {s : Shared}
theorem call_enumT {l : Addr} {items : Array Value} {Q : Value → Shared → Prop} (hL : s.heap.IsTuple l items)
    (h : ∀ h', IsEnum h' (s.heap.objs.size + 1) s.heap.objs.size 0 .none → h'.IsTupleIter s.heap.objs.size l 0 → h'.objs.size = s.heap.objs.size + 2 →
      (∀ b o, s.heap.get? b = some o → h'.get? b = some o) → Q (.ref (s.heap.objs.size + 1)) { s with heap := h' }) :
    wpAny (model prog w) A (call (.type "enumerate") [.ref l]) Q E s := by
  obtain ⟨⟨c, dct, dt, sl⟩, hl, hc, n, hd⟩ := hL
  replace hc : c = .type "tuple" := hc
  replace hd : dt = .seq items n := hd
  subst hc hd
  refine callType_new F.called_enumerate (by decide) (F.typeCall_enumerate_1 _) (F.newCall_enumerate_1 _) (fun obj => F.args_object_init_2 obj _) F.entry_enumerate_new
    (enum_newT l items n dct sl) ⟨hl, ?_⟩
  have hz : (s.heap.push { cls := .type "tuple_iterator", data := .fields #[.ref l, .int 0 0] }).objs.size = s.heap.objs.size + 1 := Heap.size_push ..
  show _ ∧ _
  rw [hz]
  have he : IsEnum ((s.heap.push { cls := .type "tuple_iterator", data := .fields #[.ref l, .int 0 0] }).push
      { cls := .type "enumerate", data := .fields #[.none, .bool false, .ref s.heap.objs.size, rawInt 0, .none, .none] }) (s.heap.objs.size + 1) s.heap.objs.size 0 .none := by
    have := Heap.get?_push_size (s.heap.push { cls := .type "tuple_iterator", data := .fields #[.ref l, .int 0 0] })
      (o := { cls := .type "enumerate", data := .fields #[.none, .bool false, .ref s.heap.objs.size, rawInt 0, .none, .none] }) rfl
    rw [hz] at this; exact this
  refine ⟨⟨_, he, rfl⟩, h _ he ⟨_, Heap.get?_push_of_some _ (Heap.get?_push_size _ rfl), rfl, rfl⟩ (by rw [Heap.size_push, hz]) fun b o x => Heap.get?_push_of_some _ (Heap.get?_push_of_some _ x)⟩
end
/-- the tuple at a, each item in a new pair -/
def Iet (K : PySem.W.Frag) (a : Addr) : It :=
  ⟨fun i H => ∃ (xs : List V) (x : V), SqT K H a xs ∧ xs[i]? = some x, fun i H v H' => ∃ T x, v = .ref T ∧ H T = none ∧ H' = upd H T (.tup [.int (i : Nat), x]) ∧ ∀ xs, SqT K H a xs → xs[i]? = some x, fun i H => ∃ xs : List V, SqT K H a xs ∧ xs.length ≤ i⟩
/-- the text's signs, each in a new pair -/
def Ies (z : Str) : It :=
  ⟨fun i _ => i < z.cps.size, fun i H v H' => ∃ T c, v = .ref T ∧ H T = none ∧ H' = upd H T (.tup [.int (i : Nat), .str ⟨#[c]⟩]) ∧ z.cps[i]? = some c, fun i _ => z.cps.size ≤ i⟩
section
variable {X : Cx} {pins : List (Addr × Obj)} {σ : St} {H : Hp} {s : Shared} {P : Program} {w : World}
/-- one turn over any iterator below -/
theorem enum_turn {it e : Addr} {fp : List Addr} {n i : Nat} {Pv : Nat → Value → Prop} {St' : Nat → Heap → Prop} {old : Value} {E : Value → Shared → Prop} {elts : List Expr} {kk : Nat} {tpos : Pos} {J : It} {x : V} {Tn : Nat → Heap → Prop}
    (D : Draws X.prog X.w X.A.in1 it fp n Pv St') (I : Inv X pins σ H s) (hf : ∀ b ∈ [e, it], FpOk X pins H b) (he : IsEnum s.heap e it ((i : Nat) : Int) old) (hst : St' i s.heap) (hlt : i < n) (hne : e ≠ it) (hef : e ∉ fp)
    (rx : ∀ u, Pv i u → RelV x u) (hT : ∀ h', St' (i + 1) h' → Tn (i + 1) h') (hk : ∀ h h', Tn (i + 1) h → Heap.SameBut e h h' → Tn (i + 1) h')
    (hy : ∀ p H', H p = none → H' = upd H p (.tup [.int (i : Nat), x]) → J.yld i H (.ref p) H') :
    wpAny (model X.prog X.w) X.A (pyNext (.ref e)) (fun r s1 => ∃ u, r = some u ∧
      wpAny (model X.prog X.w) X.A (letOwnedTupleGo (.Tuple elts kk tpos) (.ref e) u) (fun _ s2 => ∃ x H', Inv X pins σ H' s2 ∧ RelV x u ∧ J.yld i H x H' ∧ ((∃ old, IsEnum s2.heap e it (((i + 1 : Nat)) : Int) old) ∧ Tn (i + 1) s2.heap ∧ e ≠ it) ∧ ∀ b ∈ [e, it], H' b = none) E s1) E s := by
  have hel : e < s.heap.objs.size := Heap.lt_size he
  have hil : it < s.heap.objs.size := by obtain ⟨_, q⟩ := D.live _ _ hst; exact Heap.lt_size q
  refine wpAny_pyNext_enum_itemD D he hst hlt hne hef fun u h' tk hP ho hit' hT' hsz hk' => ?_
  refine ⟨_, rfl, wpAny_letOwnedTupleGo_enum (s := { s with heap := h', toks := tk + 1 }) ho fun h'' he' sb => ?_⟩
  have ru := rx u hP
  have hT2 : h''.get? s.heap.objs.size = some { cls := .type "tuple", data := .seq #[.int i tk, u] } := (sb.2 _ (Nat.ne_of_gt hel)).trans hT'
  have new : ObjOk X.prog X.w (upd H s.heap.objs.size (.tup [.int (i : Nat), x])) h'' s.heap.objs.size (.tup [.int (i : Nat), x]) :=
    ⟨by show 2 ≤ sizeLine; decide, [.int i tk, u], .cons ⟨_, rfl⟩ (.cons ru .nil), ⟨_, hT2, rfl, _, rfl⟩⟩
  have I1 : Inv X pins σ (upd H s.heap.objs.size (.tup [.int (i : Nat), x])) { s with heap := h'', toks := tk + 1 } :=
    I.turnedNew (ch := [e, it]) (fun b ob hb q => (sb.2 b (fun z => hb (by simp [z]))).trans (hk' b ob (fun z => hb (by simp [z])) (fun z => hb (by simp [z])) q)) hf (Nat.le_refl _) new
  refine ⟨.ref s.heap.objs.size, _, I1, rfl, hy _ _ (I.hok.fresh (Nat.le_refl _)) rfl, ⟨⟨u, ?_⟩, hk _ _ (hT _ hit') sb, hne⟩, fun b hb => ?_⟩
  · have e1 : ((i + 1 : Nat) : Int) = (i : Int) + 1 := by omega
    rw [e1]; exact he'
  · have hb' : b < s.heap.objs.size := by
      have e' : b = e ∨ b = it := by simpa using hb
      rcases e' with z | z
      · rw [z]; exact hel
      · rw [z]; exact hil
    rw [upd_ne (Nat.ne_of_lt hb')]
    exact (hf b hb).1
end
theorem enum_endE {prog : Program} {w : World} {A : Around} {E : Value → Shared → Prop} {s : Shared} {e it : Addr} {Q : Option Value → Shared → Prop} {i : Int} {old : Value} (he : IsEnum s.heap e it i old)
    (D : ∀ (Q : Value → Shared → Prop) (E : Value → Shared → Prop), (∀ h' e, Heap.ExtBut it s.heap h' → (∃ o, h'.get? e = some o ∧ o.cls = .type "StopIteration") → E (.ref e) { s with heap := h' }) → wpAny (model prog w) A.in1 (Builtin.SmallTypes.nextOf (.ref it)) Q E s)
    (hQ : ∀ h', Heap.ExtBut it s.heap h' → Q none { s with heap := h' }) : wpAny (model prog w) A (pyNext (.ref e)) Q E s := by
  have hT : s.TypeIs (.ref e) "enumerate" := ⟨_, he, rfl⟩
  unfold pyNext
  refine wpAny_bind (wpAny_attempt (wpAny_callSpecial?_slot (name := Str.ofString "__next__") hT F.slot_enumerate_next
    (wpAny_call_entry F.slot_enumerate_next hT F.entry_enumerate_next ?_ (F.args_enumerate_next_1 _))))
  show wpAny _ _ (PySem.field (.ref e) 2 >>= _) _ _ _
  refine wpAny_bind (wpAny_field he rfl (x := .ref it) rfl ?_)
  refine wpAny_bind (D _ _ fun h' x he' hx' => ?_)
  obtain ⟨o, ho, hc⟩ := hx'
  refine wpAny_bind (wpAny_isInstance (T := "StopIteration") (b := true) ⟨o, ho, hc⟩ isSubtype_stop ?_)
  exact wpAny_pure (hQ _ he')
theorem str_end {prog : Program} {w : World} {A : Around} {E : Value → Shared → Prop} {s : Shared} {it : Addr} {x : Str} {t : Tok} {i : Nat} {Q : Value → Shared → Prop} (hh : A.handled = none) (hit : s.heap.IsStrIter it (strIterType x) x t i) (hx : x.cps.size ≤ i)
    (hE : ∀ h' e, Heap.ExtBut it s.heap h' → (∃ o, h'.get? e = some o ∧ o.cls = .type "StopIteration") → E (.ref e) { s with heap := h' }) : wpAny (model prog w) A (Builtin.SmallTypes.nextOf (.ref it)) Q E s := by
  unfold strIterType at hit
  split at hit
  · exact wpAny_nextOf_ascii_end hh hit (by simp; omega) hE
  · exact wpAny_nextOf_wide_end hh hit (by simp; omega) hE
theorem turn_enumT {P : Program} {w : World} {K : PySem.W.Frag} {elts : List Expr} {kk : Nat} {tpos : Pos} (a e it : Addr) :
    Turn P w K (.Tuple elts kk tpos) (Iet K a) [e, it] e (fun i h => (∃ old, IsEnum h e it ((i : Nat) : Int) old) ∧ (h.IsTupleIter it a i ∧ a ≠ e ∧ a ≠ it) ∧ e ≠ it) where
  mem := by simp
  obj := fun i h st b hb => by
    obtain ⟨⟨old, he⟩, ⟨⟨o, ho, hc, hd⟩, _⟩, _⟩ := st
    have e' : b = e ∨ b = it := by simpa using hb
    rcases e' with z | z
    · rw [z]; exact ⟨_, he, fun v q => nomatch q⟩
    · rw [z]; exact ⟨o, ho, fun v q => by rw [hd] at q; cases q⟩
  keep := fun i h h' st k => let ⟨⟨old, he⟩, ⟨⟨o, ho, r⟩, hn⟩, hne⟩ := st; ⟨⟨old, k e (by simp) _ he⟩, ⟨⟨o, k it (by simp) o ho, r⟩, hn⟩, hne⟩
  item := by
    intro X hP hw hK hc i pins s σ H E I hf st hg
    subst hP hw hK
    obtain ⟨⟨old, he⟩, ⟨hit, hae, hai⟩, hne⟩ := st
    obtain ⟨xs, x, hq, hx⟩ := hg
    obtain ⟨its, rv, p, hz⟩ := I.tuple hq
    obtain ⟨u, hu, ru⟩ := rv.get hx
    refine enum_turn (x := x) (J := Iet X.K a) (Tn := fun i h => h.IsTupleIter it a i ∧ a ≠ e ∧ a ≠ it) (Draws.tuple (A := X.A.in1) (I.ok.hd hc) it a hai its.toArray) I hf he ⟨hit, p⟩ (by
        have := (List.getElem?_eq_some_iff.mp hu).1
        simpa using this) hne (by simp [hne, Ne.symm hae]) (fun v hv => ?_) (fun h' q => ⟨q.1, hae, hai⟩) (fun h h' q sb => ?_) (fun p' H' h0 e1 => ⟨p', x, rfl, h0, e1, fun ys hy => by rw [I.tuple_inj hy hq]; exact hx⟩)
    · have : its[i]? = some v := by simpa using hv
      rw [hu] at this
      cases this
      exact ru
    · obtain ⟨⟨o, ho, r⟩, n⟩ := q
      exact ⟨⟨o, (sb.2 it (Ne.symm hne)).trans ho, r⟩, n⟩
  done := by
    intro X hP hw hK hc i pins s σ H E I hf st hg
    subst hP hw hK
    obtain ⟨⟨old, he⟩, ⟨hit, hae, hai⟩, hne⟩ := st
    obtain ⟨xs, hq, hx⟩ := hg
    obtain ⟨its, rv, p, hz⟩ := I.tuple hq
    obtain ⟨f0, f1, f2, f3, f4, f5⟩ := hf it (by simp)
    have hl := rv.length
    exact enum_endE he (fun Q E' h => wpAny_nextOf_tuple_end (I.ok.hd hc) hit p (by simp; omega) h) fun h' eb => ⟨rfl, I.turned (t' := s.toks) (fun b o hb q => eb b o hb q) f0 f1 f3 f4 f5⟩
  self := fun A i s Q E st h => let ⟨⟨_, he⟩, _⟩ := st; wpAny_pyIter_enum he h
theorem turn_enumS {P : Program} {w : World} {K : PySem.W.Frag} {elts : List Expr} {kk : Nat} {tpos : Pos} (z : Str) (t : Tok) (e it : Addr) :
    Turn P w K (.Tuple elts kk tpos) (Ies z) [e, it] e (fun i h => (∃ old, IsEnum h e it ((i : Nat) : Int) old) ∧ h.IsStrIter it (strIterType z) z t i ∧ e ≠ it) where
  mem := by simp
  obj := fun i h st b hb => by
    obtain ⟨⟨old, he⟩, ⟨o, ho, hc, hd⟩, _⟩ := st
    have e' : b = e ∨ b = it := by simpa using hb
    rcases e' with z | z
    · rw [z]; exact ⟨_, he, fun v q => nomatch q⟩
    · rw [z]; exact ⟨o, ho, fun v q => by rw [hd] at q; cases q⟩
  keep := fun i h h' st k => let ⟨⟨old, he⟩, ⟨o, ho, r⟩, hne⟩ := st; ⟨⟨old, k e (by simp) _ he⟩, ⟨o, k it (by simp) o ho, r⟩, hne⟩
  item := by
    intro X hP hw hK hc i pins s σ H E I hf st hg
    subst hP hw hK
    obtain ⟨⟨old, he⟩, hit, hne⟩ := st
    have hlt : i < z.cps.size := hg
    refine enum_turn (x := .str ⟨#[z.cps[i]]⟩) (J := Ies z) (Tn := fun i h => h.IsStrIter it (strIterType z) z t i) (Draws.text (A := X.A.in1) (I.ok.hd hc) it z t) I hf he hit hlt hne (by simp [hne]) (fun v hv => ?_) (fun h' q => q) (fun h h' q sb => ?_) (fun p' H' h0 e1 => ⟨p', z.cps[i], rfl, h0, e1, by simp⟩)
    · obtain ⟨c, u, hc, rfl⟩ := hv
      rw [Array.getElem?_eq_getElem hlt] at hc
      cases hc
      exact ⟨u, rfl⟩
    · obtain ⟨o, ho, r⟩ := q
      exact ⟨o, (sb.2 it (Ne.symm hne)).trans ho, r⟩
  done := by
    intro X hP hw hK hc i pins s σ H E I hf st hg
    subst hP hw hK
    obtain ⟨⟨old, he⟩, hit, hne⟩ := st
    have hle : z.cps.size ≤ i := hg
    obtain ⟨f0, f1, f2, f3, f4, f5⟩ := hf it (by simp)
    exact enum_endE he (fun Q E' h => str_end (I.ok.hd hc) hit hle h) fun h' eb => ⟨rfl, I.turned (t' := s.toks) (fun b o hb q => eb b o hb q) f0 f1 f3 f4 f5⟩
  self := fun A i s Q E st h => let ⟨⟨_, he⟩, _⟩ := st; wpAny_pyIter_enum he h
def iEnumA (K : PySem.W.Frag) (ta : TA) : TI := fun σ H R => ta σ H fun vs H1 => (∃ a xs, vs = [.ref a] ∧ SqL K H1 a xs ∧ R (Ite K a) H1) ∨ (∃ a xs, vs = [.ref a] ∧ SqT K H1 a xs ∧ R (Iet K a) H1) ∨ ∃ z, vs = [.str z] ∧ R (Ies z) H1
theorem pi_enumA {X : Cx} {e : Expr} {ta : TA} {p pos tpos : Pos} {elts : List Expr} {kk : Nat} (hg : Gl X "enumerate") (hm : X.mg "enumerate" = none) (ha : PA X [e] ta) (hs : starEach [e] X.env = [(false, eval e X.env)] := by rfl) :
    PI X (.Tuple elts kk tpos) (.Call (.Name "enumerate" p) [e] [] pos) (iEnumA X.K ta) := by
  refine ⟨fun pins s σ H R I h => ?_⟩
  refine Call_ (ld_blt I hg hm boot_enumerate (PyProof.Rows.callWith_type1 (thn (ha.run pos pins s σ H _ I h) fun us s1 ⟨vs, H1, I1, r1, q1⟩ => ?_) hs rfl))
  have fp : ∀ b ∈ [s1.heap.objs.size + 1, s1.heap.objs.size], FpOk X pins H1 b := fun b hb => by
    have e' : b = s1.heap.objs.size + 1 ∨ b = s1.heap.objs.size := by simpa using hb
    have hle : s1.heap.objs.size ≤ b := by
      rcases e' with z | z
      · rw [z]; exact Nat.le_add_right _ _
      · rw [z]; exact Nat.le_refl _
    exact I1.fpOk hle (I1.hok.fresh hle)
  rcases q1 with ⟨a, xs, ex, hq, q⟩ | ⟨a, xs, ex, hq, q⟩ | ⟨z, ex, q⟩
  · subst ex
    cases r1 with
    | cons r rr =>
      cases rr
      cases r
      obtain ⟨its, rv, p', hz⟩ := I1.list hq
      refine call_enumerate_list p'.isList fun h' he hit hsz hk => wpAny_pyIter_enum he ?_
      have I2 : Inv X pins σ H1 { s1 with heap := h' } := I1.kept (t' := s1.toks) hk
      exact ⟨s1.heap.objs.size + 1, [s1.heap.objs.size + 1, s1.heap.objs.size], _, _, H1, rfl, I2, turn_enum a (s1.heap.objs.size + 1) s1.heap.objs.size, ⟨⟨.none, he⟩, hit, Nat.succ_ne_self _⟩, fp, q⟩
  · subst ex
    cases r1 with
    | cons r rr =>
      cases rr
      cases r
      obtain ⟨its, rv, p', hz⟩ := I1.tuple hq
      have hla : a < s1.heap.objs.size := by obtain ⟨_, q, _⟩ := p'; exact Heap.lt_size q
      refine call_enumT p' fun h' he hit hsz hk => wpAny_pyIter_enum he ?_
      have I2 : Inv X pins σ H1 { s1 with heap := h' } := I1.kept (t' := s1.toks) hk
      exact ⟨s1.heap.objs.size + 1, [s1.heap.objs.size + 1, s1.heap.objs.size], _, _, H1, rfl, I2, turn_enumT a (s1.heap.objs.size + 1) s1.heap.objs.size, ⟨⟨.none, he⟩, ⟨hit, Nat.ne_of_lt (Nat.lt_succ_of_lt hla), Nat.ne_of_lt hla⟩, Nat.succ_ne_self _⟩, fp, q⟩
  · subst ex
    cases r1 with
    | cons r rr =>
      cases rr
      obtain ⟨t, rfl⟩ := r
      refine call_enumerate_str fun h' he hit hsz hk => wpAny_pyIter_enum he ?_
      have I2 : Inv X pins σ H1 { s1 with heap := h' } := I1.kept (t' := s1.toks) hk
      exact ⟨s1.heap.objs.size + 1, [s1.heap.objs.size + 1, s1.heap.objs.size], _, _, H1, rfl, I2, turn_enumS z t (s1.heap.objs.size + 1) s1.heap.objs.size, ⟨⟨.none, he⟩, hit, Nat.succ_ne_self _⟩, fp, q⟩
end B

set_option Elab.async false
set_option linter.all false
set_option maxRecDepth 100000
set_option maxHeartbeats 4000000
/-! Sets of texts (or ints), from a list or a tuple: their members sorted, their number. -/
namespace B
set_option autoImplicit false
open PySem PySem.Spec L2 PyProof.Rows
section
variable {P : Program} {w : World} {K : Type} [DecidableEq K] {knd : KeyKind P w K} {kf : Value → K}
/-- the key of a value -/
def KfOk (knd : KeyKind P w K) (kf : Value → K) : Prop := ∀ k v, knd.is k v = true → kf v = k
def SetG (knd : KeyKind P w K) (kf : Value → K) (h : Heap) (a : Addr) (S : K → Bool) (n : Nat) : Prop :=
  ∃ o es ep t, h.get? a = some o ∧ o.ExactSet ∧ o.data = .set es ep t ∧ ElemsOf knd es.toList ∧ (es.toList.map fun e => kf e.2).Nodup ∧ (∀ k, S k = true ↔ k ∈ es.toList.map fun e => kf e.2) ∧
    es.size < scanBound ∧ t.fits es.size = true ∧ es.size = n ∧ Ris t.place.toList ∧ (w.params.followText "set-order" = true ∨ t.led = true)
theorem SetG.at {h h' : Heap} {a : Addr} {S : K → Bool} {n : Nat} (R : SetG knd kf h a S n) (k : ∀ o, h.get? a = some o → h'.get? a = some o) : SetG knd kf h' a S n := by
  obtain ⟨o, es, ep, t, ho, r⟩ := R
  exact ⟨o, es, ep, t, k o ho, r⟩
theorem SetG.congr {h : Heap} {a : Addr} {S S' : K → Bool} {n n' : Nat} (R : SetG knd kf h a S n) (e : ∀ k, S k = S' k) (en : n = n') : SetG knd kf h a S' n' := by
  have q : S = S' := funext e
  subst q; subst en
  exact R
theorem elem_key {l : List (Int × Value)} (g : ElemsOf knd l) (kk : KfOk knd kf) (k : K) : (k ∈ l.map fun e => kf e.2) ↔ ∃ e ∈ l, knd.is k e.2 = true := by
  rw [List.mem_map]
  constructor
  · rintro ⟨e, he, q⟩
    obtain ⟨⟨k', hk, _⟩, _⟩ := g e he
    refine ⟨e, he, ?_⟩
    rw [← q, kk _ _ hk]
    exact hk
  · rintro ⟨e, he, q⟩
    exact ⟨e, he, kk _ _ q⟩
theorem SetG.setOf {h : Heap} {a : Addr} {S : K → Bool} {n : Nat} (kk : KfOk knd kf) (R : SetG knd kf h a S n) : h.SetOf knd a S n := by
  obtain ⟨o, es, ep, t, ho, hx, hd, g, nd, hm, hb, hf, hn, _⟩ := R
  exact ⟨o, es, ep, t, ho, hx, hd, g, fun k => (hm k).trans (elem_key g kk k), hb, hf, hn⟩
variable {A : Around} {E : Value → Shared → Prop} {s : Shared} {a : Addr} {S : K → Bool} {n : Nat}
theorem setG_tail {g : Bool → Sem Unit} (hg : ∀ (b : Bool) (s₁ : Shared) (Q' : Unit → Shared → Prop), Q' () s₁ → wpAny (model P w) A (g b) Q' E s₁)
    {o : Obj} {es : Array (Int × Value)} {ep : Nat} {t : SetTable} (ho : s.heap.get? a = some o) (hex : o.ExactSet) (hd : o.data = .set es ep t)
    {es1 : Array (Int × Value)} {t2 : SetTable} {S' : K → Bool} (g1 : ElemsOf knd es1.toList) (nd1 : (es1.toList.map fun e => kf e.2).Nodup) (m1 : ∀ k, S' k = true ↔ k ∈ es1.toList.map fun e => kf e.2)
    (hb1 : es1.size < scanBound) (hf2 : t2.fits es1.size = true) (hr : Ris t2.place.toList) (hl : w.params.followText "set-order" = true ∨ t2.led = true) {wasDummy : Bool} {R : Option Bool → Shared → Prop}
    (hR : ∀ h', Heap.SameBut a s.heap h' → SetG knd kf h' a S' es1.size → R (some true) { s with heap := h' }) :
    wpAny (model P w) A (do
        storeSet a es1 t2
        if (!wasDummy && t2.tooFull) = true then do
            g (relayAll t2 es1 (SetTable.grown es1.size)).2.2
            storeSet a (relayAll t2 es1 (SetTable.grown es1.size)).1 (relayAll t2 es1 (SetTable.grown es1.size)).2.1
            pure (some true)
          else pure (some true)) R E s := by
  refine wpAny_bind (wpAny_storeSet_of ho hd ?_ (fits_of_scanBound hb1))
  have ho1 := store_at (es' := es1) (t' := t2) ho hd
  have sb1 := Heap.SameBut.update s.heap a (Obj.putSet es1 t2)
  split
  · have pm := relayAll_perm t2 es1 (SetTable.grown es1.size)
    have hf3 := relayAll_fits t2 es1 (SetTable.grown es1.size)
    have hr3 := relayAll_ris t2 es1 (SetTable.grown es1.size)
    have hl3 := relayAll_led t2 es1 (SetTable.grown es1.size)
    generalize relayAll t2 es1 (SetTable.grown es1.size) = Z at pm hf3 hr3 hl3 ⊢
    obtain ⟨es2, t3, gave⟩ := Z
    dsimp only at pm hf3 hr3 hl3 ⊢
    have hsz : es2.size = es1.size := by rw [← Array.length_toList, pm.length_eq, Array.length_toList]
    have hb2 : es2.size < scanBound := by rw [hsz]; exact hb1
    refine wpAny_bind (hg _ _ _ ?_)
    refine wpAny_bind (wpAny_storeSet_of ho1 rfl ?_ (fits_of_scanBound hb2))
    have ho2 := store_at (es' := es2) (t' := t3) ho1 rfl
    refine wpAny_pure (hR _ (sb1.trans (Heap.SameBut.update _ a _)) ?_)
    exact ⟨_, es2, _, t3, ho2, hex, rfl, g1.perm pm, (pm.map _).nodup_iff.mpr nd1, fun k => (m1 k).trans (pm.map _).mem_iff.symm, hb2, hf3, hsz, hr3, hl.imp id fun z => by rw [hl3]; exact z⟩
  · exact wpAny_pure (hR _ sb1 ⟨_, es1, _, t2, ho1, hex, rfl, g1, nd1, m1, hb1, hf2, rfl, hr, hl⟩)
theorem setG_add {k : K} {x : Value} {Q : Bool → Shared → Prop} (kk : KfOk knd kf) (hkey : knd.is k x = true) (hsc : x.scannable = true) (R : SetG knd kf s.heap a S n) (room : n + 1 < scanBound)
    (hQ : ∀ h', Heap.SameBut a s.heap h' → SetG knd kf h' a (fun j => S j || decide (j = k)) (if S k = true then n else n + 1) → Q (!S k) { s with heap := h' }) :
    wpAny (model P w) A (setAddHashed a x (knd.hash k)) Q E s := by
  obtain ⟨o, es, ep, t, ho, hex, hd, hel, nd, hm, hb, hf, hn, hr, hl⟩ := R
  unfold setAddHashed setAddHashedIn
  refine wpAny_holding (wpAny_bind (wpAny_setState_of ho hd hf ?_))
  dsimp only
  rw [byScan_of hsc hb hel]
  simp only [↓reduceIte]
  unfold setAddByScan
  refine wpAny_bind ?_
  refine wpAny_bind (wpAny_rule ?_)
  refine wpAny_bind (wpAny_setScan_of hkey ho hd hf hel ?_)
  cases hfi : List.findIdx? (fun e => knd.is k e.2) es.toList with
  | some j =>
    dsimp only
    obtain ⟨hj, pj, _⟩ := List.findIdx?_eq_some_iff_getElem.mp hfi
    have hSk : S k = true := (hm k).2 ((elem_key hel kk k).2 ⟨es.toList[j], List.getElem_mem hj, pj⟩)
    refine wpAny_pure (wpAny_pure ?_)
    have q := hQ s.heap (Heap.SameBut.refl a s.heap) ⟨o, es, ep, t, ho, hex, hd, hel, nd, fun i => by
      rw [Bool.or_eq_true, decide_eq_true_eq, ← hm i]
      exact ⟨fun z => z.elim id (fun e => e ▸ hSk), .inl⟩, hb, hf, by rw [if_pos hSk]; exact hn, hr, hl⟩
    rw [hSk] at q
    exact q
  | none =>
    dsimp only
    have hnk : k ∉ es.toList.map fun e => kf e.2 := fun z => by
      obtain ⟨e, he, q⟩ := (elem_key hel kk k).1 z
      have c := List.findIdx?_eq_none_iff.mp hfi e he
      rw [q] at c
      cases c
    have hSk : S k = false := by
      cases q : S k with
      | false => rfl
      | true => exact absurd ((hm k).1 q) hnk
    have hgw : ∀ (b : Bool) {s₁ : Shared} {Q' : Unit → Shared → Prop}, Q' () s₁ → wpAny (model P w) A (match b with | true => rule "set.scan.the-table-gave-way" | false => pure ()) Q' E s₁ :=
      fun b s₁ Q' q => by cases b <;> first | exact wpAny_pure q | exact wpAny_rule q
    have pm := layNew_perm t es (knd.hash k) x
    have hf1 := layNew_fits t es (knd.hash k) x
    have hr1 := layNew_ris t es (knd.hash k) x hr
    have hl1 := layNew_led t es (knd.hash k) x
    generalize layNew t es (knd.hash k) x = Z at pm hf1 hr1 hl1 ⊢
    obtain ⟨es1, t1, wasDummy, gave⟩ := Z
    dsimp only at pm hf1 hr1 hl1 ⊢
    rw [Array.toList_push] at pm
    have g1 : ElemsOf knd es1.toList := (hel.push hkey hsc).perm pm
    have pc : es1.toList.Perm ((knd.hash k, x) :: es.toList) := pm.trans (List.perm_append_singleton _ _)
    have pk : (es1.toList.map fun e => kf e.2).Perm (k :: es.toList.map fun e => kf e.2) := by
      have q := pc.map fun e : Int × Value => kf e.2
      rw [List.map_cons] at q
      rw [kk k x hkey] at q
      exact q
    have nd1 : (es1.toList.map fun e => kf e.2).Nodup := pk.nodup_iff.mpr (List.nodup_cons.mpr ⟨hnk, nd⟩)
    have m1 : ∀ i, (S i || decide (i = k)) = true ↔ i ∈ es1.toList.map fun e => kf e.2 := fun i => by
      rw [Bool.or_eq_true, decide_eq_true_eq, hm i, pk.mem_iff, List.mem_cons]
      exact Or.comm
    have hsz : es1.size = n + 1 := by rw [← Array.length_toList, pc.length_eq, List.length_cons, Array.length_toList, hn]
    have hb1 : es1.size < scanBound := by rw [hsz]; exact room
    have hled : w.params.followText "set-order" = true ∨ t1.led = true := hl.imp id fun z => by rw [hl1]; exact z
    have fin : ∀ h', Heap.SameBut a s.heap h' → SetG knd kf h' a (fun j => S j || decide (j = k)) es1.size → Q true { s with heap := h' } := fun h' sb r => by
      have q := hQ h' sb
      rw [hSk] at q
      rw [hsz] at r
      exact q r
    refine wpAny_bind (hgw _ ?_)
    split
    · refine wpAny_bind ?_
      rw [hashByValue_scannable 8 hsc]
      refine wpAny_pure ?_
      refine setG_tail ?_ ho hex hd g1 nd1 m1 hb1 ?_ ?_ ?_ ?_
      · intro b s₁ Q' q; cases b <;> first | exact wpAny_pure q | exact wpAny_rule q
      · first | (split <;> first | exact hf1 | exact SetTable.fits_plain_off hf1) | exact hf1
      · first | (split <;> exact hr1) | exact hr1
      · first | (split <;> exact hled) | exact hled
      · intro h' sb r; dsimp only; exact wpAny_pure (fin h' sb r)
    · refine wpAny_bind (wpAny_pure ?_)
      simp only [↓reduceIte]
      refine setG_tail ?_ ho hex hd g1 nd1 m1 hb1 hf1 hr1 hled ?_
      · intro b s₁ Q' q; cases b <;> first | exact wpAny_pure q | exact wpAny_rule q
      · intro h' sb r; dsimp only; exact wpAny_pure (fin h' sb r)
theorem setG_fresh {h : Heap} {a : Addr} (ho : h.get? a = some { cls := .type "set", dict := none, data := .set #[] 0 (.fresh 0 0 (!w.params.followText "set-order")) }) : SetG knd kf h a (fun _ => false) 0 :=
  ⟨_, #[], 0, _, ho, ⟨rfl, rfl, rfl⟩, rfl, (fun e he => by simp at he), (by simp), (fun k => by simp), (by decide), (by rfl), rfl, List.Pairwise.nil, by
    show _ ∨ (!w.params.followText "set-order") = true
    cases w.params.followText "set-order"
    · exact .inr rfl
    · exact .inl rfl⟩
theorem distinct_snoc (l : List K) (x : K) : distinct (l ++ [x]) = if x ∈ distinct l then distinct l else distinct l ++ [x] := by
  unfold distinct
  rw [List.foldl_append]
  rfl
theorem distinct_mem (l : List K) (x : K) : x ∈ distinct l ↔ x ∈ l := by
  have go : ∀ (l acc : List K), (x ∈ l.foldl (fun acc x => if x ∈ acc then acc else acc ++ [x]) acc) ↔ x ∈ acc ∨ x ∈ l := by
    intro l
    induction l with
    | nil => intro acc; simp
    | cons y l ih =>
      intro acc
      rw [List.foldl_cons, ih]
      by_cases h : y ∈ acc
      · rw [if_pos h, List.mem_cons]
        constructor
        · rintro (z | z)
          · exact .inl z
          · exact .inr (.inr z)
        · rintro (z | z | z)
          · exact .inl z
          · exact .inl (z ▸ h)
          · exact .inr z
      · rw [if_neg h, List.mem_append, List.mem_singleton, List.mem_cons, or_assoc]
  unfold distinct
  rw [go]
  simp
theorem distinct_nodup (l : List K) : (distinct l).Nodup := by
  have go : ∀ (l acc : List K), acc.Nodup → (l.foldl (fun acc x => if x ∈ acc then acc else acc ++ [x]) acc).Nodup := by
    intro l
    induction l with
    | nil => intro acc h; exact h
    | cons y l ih =>
      intro acc h
      rw [List.foldl_cons]
      refine ih _ ?_
      by_cases hy : y ∈ acc
      · rw [if_pos hy]; exact h
      · rw [if_neg hy, List.nodup_append]
        exact ⟨h, by simp, fun a ha b hb => by
          rw [List.mem_singleton] at hb
          subst hb
          exact fun z => hy (z ▸ ha)⟩
  exact go l [] List.nodup_nil
theorem distinct_le (l : List K) : (distinct l).length ≤ l.length := by
  have go : ∀ (l acc : List K), (l.foldl (fun acc x => if x ∈ acc then acc else acc ++ [x]) acc).length ≤ acc.length + l.length := by
    intro l
    induction l with
    | nil => intro acc; simp
    | cons y l ih =>
      intro acc
      rw [List.foldl_cons]
      refine Nat.le_trans (ih _) ?_
      split <;> simp <;> omega
  have q := go l []
  unfold distinct
  simpa using q
end
section
variable {P : Program} {w : World} {K : Type} [DecidableEq K] {knd : KeyKind P w K} {kf : Value → K} {A : Around} {R : Result → Shared → Prop} {I : Addr} {fp wr : List Addr} {G : Array GenState → Array GenState → Prop} {n : Nat} {Pv : Nat → Value → Prop} {St : Nat → Shared → Prop}
theorem setG_loop (kk : KfOk knd kf) (W : WalksS P w A.in1 I fp wr G n Pv St) (S : Addr) (hSf : S ∉ fp) (xs : List K) (hsz : xs.length = n) (hn1 : n + 1 < scanBound)
    (hval : ∀ i v, Pv i v → ∃ k, xs[i]? = some k ∧ knd.is k v = true ∧ v.scannable = true) :
    ∀ (k i : Nat) (s : Shared), n - i = k → i ≤ n → St i s →
      SetG knd kf s.heap S (fun k' => decide (k' ∈ distinct (xs.take i))) (distinct (xs.take i)).length →
      (∀ s', Moved (S :: wr) G s s' → SetG knd kf s'.heap S (fun k' => decide (k' ∈ distinct xs)) (distinct xs).length → R (.ok (.ret .none)) s') →
      codeAny (model P w) A (.builtin "set.update.loop" ⟨[.ref S, .ref I], []⟩) R s := by
  have hSw : S ∉ wr := fun h => hSf (W.sub _ h)
  have hsub : ∀ b ∈ wr, b ∈ S :: wr := fun b hb => List.mem_cons_of_mem _ hb
  intro k
  induction k with
  | zero =>
    intro i s hk hi hst hS hR
    have hin : i = n := by omega
    subst hin
    refine codeAny_builtin PyProof.Rows.F.entry_set_update_loop ?_
    rw [Around.under_plainId PyProof.Rows.F.plain_set_update_loop _]
    show wpAny _ A.in1 (pyNext (.ref I) >>= _) _ _ s
    refine wpAny_bind (W.done s _ _ hst fun s' hm => ?_)
    show wpAny _ A.in1 (ret Value.none) _ _ s'
    rw [← hsz, List.take_length] at hS
    exact wpAny_pure (hR s' (hm.mono hsub) (hS.at fun o ho => hm.heap S _ hSw ho))
  | succ k ih =>
    intro i s hk hi hst hS hR
    have hlt : i < n := by omega
    refine codeAny_builtin PyProof.Rows.F.entry_set_update_loop ?_
    rw [Around.under_plainId PyProof.Rows.F.plain_set_update_loop _]
    show wpAny _ A.in1 (pyNext (.ref I) >>= _) _ _ s
    refine wpAny_bind (W.item i s _ _ hlt hst fun v s' hP hst' hm => ?_)
    obtain ⟨x, hx, hkey, hsc⟩ := hval i v hP
    have hS' : SetG knd kf s'.heap S (fun k' => decide (k' ∈ distinct (xs.take i))) (distinct (xs.take i)).length := hS.at fun o ho => hm.heap S _ hSw ho
    show wpAny _ A.in1 (holding [v] (setAdd S v) >>= _) _ _ s'
    refine wpAny_bind (wpAny_holding ?_)
    unfold setAdd
    refine wpAny_holding ?_
    refine wpAny_bind (knd.pyHash (k := x) hkey ?_)
    have hle : (distinct (xs.take i)).length ≤ i := Nat.le_trans (distinct_le _) (by rw [List.length_take]; omega)
    refine setG_add (s := { s' with toks := s'.toks + 1 }) kk hkey hsc hS' (by omega) fun h' hsb hS2 => ?_
    have e : xs.take (i + 1) = xs.take i ++ [x] := by rw [List.take_add_one, hx]; rfl
    have hSi : SetG knd kf h' S (fun k' => decide (k' ∈ distinct (xs.take (i + 1)))) (distinct (xs.take (i + 1))).length := by
      refine hS2.congr (fun k' => ?_) ?_
      · rw [e, distinct_snoc]
        by_cases c : x ∈ distinct (xs.take i)
        · rw [if_pos c]
          by_cases c2 : k' = x
          · subst c2; simp [c]
          · simp [c2]
        · rw [if_neg c]
          rw [← Bool.decide_or]
          congr 1
          simp
      · rw [e, distinct_snoc]
        by_cases c : x ∈ distinct (xs.take i)
        · rw [if_pos (decide_eq_true c), if_pos c]
        · rw [if_neg (by simpa using c), if_neg c]
          simp
    refine wpAny_pure ⟨plainId_quiet PyProof.Rows.F.plain_set_update_loop _, ih (i + 1) _ (by omega) hlt (W.frame _ s' _ _ hst' (Nat.le_succ _) fun b hb o e => ?_) hSi fun s'' hm'' hS'' => ?_⟩
    · rw [hsb.2 b (fun h : b = S => hSf (by rw [← h]; exact hb))]; exact e
    · refine hR s'' (Moved.trans W.gtrans ((hm.mono hsub).then_heap (Nat.le_succ _) fun b o hb e => ?_) hm'') hS''
      rw [hsb.2 b (fun h : b = S => hb (by rw [h]; exact List.mem_cons_self))]; exact e
end
section
variable {P : Program} {w : World} {A : Around} {E : Value → Shared → Prop} {s : Shared} {K : Type} [DecidableEq K] {knd : KeyKind P w K} {kf : Value → K}
theorem call_set_list {l : Addr} {items : Array Value} {xs : List K} {Q : Value → Shared → Prop} (kk : KfOk knd kf)
    (hh : A.handled = none) (hl : s.heap.IsList l items) (hsz : xs.length = items.size) (hval : ∀ (i : Nat) (v : Value), items[i]? = some v → ∃ k, xs[i]? = some k ∧ knd.is k v = true ∧ v.scannable = true) (hb : xs.length + 1 < scanBound)
    (h : ∀ (h' : Heap) (tk : Nat), SetG knd kf h' s.heap.objs.size (fun k' => decide (k' ∈ distinct xs)) (distinct xs).length →
      (∀ b o, b < s.heap.objs.size → s.heap.get? b = some o → h'.get? b = some o) → Q (.ref s.heap.objs.size) { s with heap := h', toks := tk }) :
    wpAny (model P w) A (call (.type "set") [.ref l]) Q E s := by
  obtain ⟨c, tl, hmro⟩ := PySem.F.called_set.mro
  have hmade := PySem.F.called_set.made
  have hsub := PySem.F.called_set.sub
  refine wpAny_call (codeAny_of_tree ?_)
  show wpAny _ _ (callAny (.type "set") _) _ _ _
  refine wpAny_pure ⟨Code.quiet_builtin _ (by decide +kernel), codeAny_builtin PySem.F.entry_type_call ?_⟩
  rw [Around.under_plain (weight_type_call_type "set" [.ref l] []) rfl]
  have h1 := PySem.F.called_set.notType
  have h2 := PySem.F.called_set.canCreate
  have hct := PySem.F.typeCall_set_1 (.ref l)
  repeat (any_goals (first | assumption | wp_step))
  refine codeAny_mono (L2.code_set_led1 (.ref l) (E := E) (Q₁ := fun obj s₁ => obj = .ref s.heap.objs.size ∧ s₁ = { s with heap := s.heap.push { cls := .type "set", dict := none, data := .set #[] 0 (.fresh 0 0 (!w.params.followText "set-order")) } }) ⟨rfl, rfl⟩) fun r s₁ hr => ?_
  cases r with
  | error e => exact hr
  | ok fl =>
    cases fl with
    | ret obj =>
      obtain ⟨rfl, rfl⟩ := hr
      have hS : (s.heap.push { cls := .type "set", dict := none, data := .set #[] 0 (.fresh 0 0 (!w.params.followText "set-order")) }).get? s.heap.objs.size = some { cls := .type "set", dict := none, data := .set #[] 0 (.fresh 0 0 (!w.params.followText "set-order")) } := Heap.get?_push_size _ rfl
      have hT : Shared.TypeIs { s with heap := s.heap.push { cls := .type "set", dict := none, data := .set #[] 0 (.fresh 0 0 (!w.params.followText "set-order")) } } (.ref s.heap.objs.size) "set" := ⟨_, hS, rfl⟩
      have hli := PySem.F.called_set.init.lookup
      have hbi := PySem.F.called_set.init.bind (.ref s.heap.objs.size)
      repeat (any_goals (first | assumption | wp_step))
      refine codeAny_mono (codeAny_call_builtin (R := wants (fun r s₂ => r = .none ∧ ∃ h' tk, s₂ = { s with heap := h', toks := tk } ∧
          SetG knd kf h' s.heap.objs.size (fun k' => decide (k' ∈ distinct xs)) (distinct xs).length ∧
          (∀ b o, b < s.heap.objs.size → s.heap.get? b = some o → h'.get? b = some o)) E) PySem.F.called_set.init.plain PySem.F.entry_set_init (check_set_init_1 hT ?_)) fun r₂ s₂ hr₂ => ?_
      · obtain ⟨ol, hol, hcl, nl, hdl⟩ := hl
        obtain ⟨ocls, odict, odata, oslots⟩ := ol
        simp only at hcl hdl
        subst hcl; subst hdl
        have hol' : (s.heap.push { cls := .type "set", dict := none, data := .set #[] 0 (.fresh 0 0 (!w.params.followText "set-order")) }).get? l = some { cls := .type "list", dict := odict, data := .seq items nl, slots := oslots } := Heap.get?_push_of_some _ hol
        have hsls := PySem.F.sub_list_set
        have hslf := PySem.F.sub_list_frozenset
        have hne : (Value.type "list" == Value.type "dict") = false := by decide
        have hl1 : (s.heap.push { cls := .type "set", dict := none, data := .set #[] 0 (.fresh 0 0 (!w.params.followText "set-order")) }).IsList l items := ⟨_, hol', rfl, nl, rfl⟩
        unfold Builtin.«set.__init__» noKeywords Builtin.Frozenset.updateFrom
        generalize hPI : pyIter = PI
        wp_walk
        subst hPI
        refine wpAny_pyIter_list hl1 ?_
        refine wpAny_bind (wpAny_runValue ?_)
        have hlS : l < s.heap.objs.size := Heap.lt_size hol
        have hh3 : A.in1.in1.in1.handled = none := by simp [hh]
        have hneI : l ≠ (s.heap.push { cls := .type "set", dict := none, data := .set #[] 0 (.fresh 0 0 (!w.params.followText "set-order")) }).objs.size := by
          rw [Heap.size_push]; exact Nat.ne_of_lt (Nat.lt_succ_of_lt hlS)
        have hSf : s.heap.objs.size ∉ [(s.heap.push { cls := .type "set", dict := none, data := .set #[] 0 (.fresh 0 0 (!w.params.followText "set-order")) }).objs.size, l] := by
          rw [Heap.size_push]; simp only [List.mem_cons, List.mem_singleton, List.not_mem_nil, or_false, not_or]
          exact ⟨Nat.ne_of_lt (Nat.lt_succ_self _), Nat.ne_of_gt hlS⟩
        refine setG_loop kk ((Walks.list hh3 _ l hneI items).toS) s.heap.objs.size
          hSf xs hsz (by rw [← hsz]; exact hb) hval (items.size - 0) 0 _ (by omega) (Nat.zero_le _)
          ⟨⟨_, Heap.get?_push_size _ rfl, rfl, rfl⟩, (hl1.push _)⟩ ?hS0 ?hR
        case hS0 =>
          have hget : ((s.heap.push { cls := .type "set", dict := none, data := .set #[] 0 (.fresh 0 0 (!w.params.followText "set-order")) }).push { cls := .type "list_iterator", data := .fields #[.ref l, .int 0 0] }).get? s.heap.objs.size
              = some { cls := .type "set", dict := none, data := .set #[] 0 (.fresh 0 0 (!w.params.followText "set-order")) } := Heap.get?_push_of_some _ hS
          exact (setG_fresh hget).congr (fun _ => rfl) rfl
        case hR =>
          intro s' hm hS'
          obtain ⟨h', g', d', tk', os'⟩ := s'
          have eg : g' = s.gens := hm.gens
          have ed : d' = s.drawn := hm.drawn
          have eo : os' = s.os := hm.os
          subst eg; subst ed; subst eo
          show wpAny _ _ _ _ _ _
          refine wpAny_pure ?_
          show wpAny _ _ (ret Value.none) _ _ _
          refine wpAny_pure ⟨rfl, h', tk', rfl, hS', fun b o hb e => ?_⟩
          have hb1 : b ≠ s.heap.objs.size := Nat.ne_of_lt hb
          have hb2 : b ≠ (s.heap.push { cls := .type "set", dict := none, data := .set #[] 0 (.fresh 0 0 (!w.params.followText "set-order")) }).objs.size := by
            rw [Heap.size_push]; exact Nat.ne_of_lt (Nat.lt_succ_of_lt hb)
          exact hm.heap b o (by simp only [List.mem_cons, List.mem_singleton, List.not_mem_nil, or_false, not_or]; exact ⟨hb1, hb2⟩) (Heap.get?_push_of_some _ (Heap.get?_push_of_some _ e))
      · cases r₂ with
        | error e => exact hr₂
        | ok fl₂ =>
          cases fl₂ with
          | ret r =>
            obtain ⟨rfl, h', tk, rfl, hS', hk'⟩ := hr₂
            repeat (any_goals (first | assumption | wp_step))
            exact h _ _ hS' hk'
          | _ => exact hr₂.elim
    | _ => exact hr.elim
end
section
variable {P : Program} {w : World} {A : Around} {E : Value → Shared → Prop} {s : Shared} {K : Type} [DecidableEq K] {knd : KeyKind P w K} {kf : Value → K}
theorem call_set_tuple {l : Addr} {items : Array Value} {xs : List K} {Q : Value → Shared → Prop} (kk : KfOk knd kf)
    (hh : A.handled = none) (hl : s.heap.IsTuple l items) (hsz : xs.length = items.size) (hval : ∀ (i : Nat) (v : Value), items[i]? = some v → ∃ k, xs[i]? = some k ∧ knd.is k v = true ∧ v.scannable = true) (hb : xs.length + 1 < scanBound)
    (h : ∀ (h' : Heap) (tk : Nat), SetG knd kf h' s.heap.objs.size (fun k' => decide (k' ∈ distinct xs)) (distinct xs).length →
      (∀ b o, b < s.heap.objs.size → s.heap.get? b = some o → h'.get? b = some o) → Q (.ref s.heap.objs.size) { s with heap := h', toks := tk }) :
    wpAny (model P w) A (call (.type "set") [.ref l]) Q E s := by
  obtain ⟨c, tl, hmro⟩ := PySem.F.called_set.mro
  have hmade := PySem.F.called_set.made
  have hsub := PySem.F.called_set.sub
  refine wpAny_call (codeAny_of_tree ?_)
  show wpAny _ _ (callAny (.type "set") _) _ _ _
  refine wpAny_pure ⟨Code.quiet_builtin _ (by decide +kernel), codeAny_builtin PySem.F.entry_type_call ?_⟩
  rw [Around.under_plain (weight_type_call_type "set" [.ref l] []) rfl]
  have h1 := PySem.F.called_set.notType
  have h2 := PySem.F.called_set.canCreate
  have hct := PySem.F.typeCall_set_1 (.ref l)
  repeat (any_goals (first | assumption | wp_step))
  refine codeAny_mono (L2.code_set_led1 (.ref l) (E := E) (Q₁ := fun obj s₁ => obj = .ref s.heap.objs.size ∧ s₁ = { s with heap := s.heap.push { cls := .type "set", dict := none, data := .set #[] 0 (.fresh 0 0 (!w.params.followText "set-order")) } }) ⟨rfl, rfl⟩) fun r s₁ hr => ?_
  cases r with
  | error e => exact hr
  | ok fl =>
    cases fl with
    | ret obj =>
      obtain ⟨rfl, rfl⟩ := hr
      have hS : (s.heap.push { cls := .type "set", dict := none, data := .set #[] 0 (.fresh 0 0 (!w.params.followText "set-order")) }).get? s.heap.objs.size = some { cls := .type "set", dict := none, data := .set #[] 0 (.fresh 0 0 (!w.params.followText "set-order")) } := Heap.get?_push_size _ rfl
      have hT : Shared.TypeIs { s with heap := s.heap.push { cls := .type "set", dict := none, data := .set #[] 0 (.fresh 0 0 (!w.params.followText "set-order")) } } (.ref s.heap.objs.size) "set" := ⟨_, hS, rfl⟩
      have hli := PySem.F.called_set.init.lookup
      have hbi := PySem.F.called_set.init.bind (.ref s.heap.objs.size)
      repeat (any_goals (first | assumption | wp_step))
      refine codeAny_mono (codeAny_call_builtin (R := wants (fun r s₂ => r = .none ∧ ∃ h' tk, s₂ = { s with heap := h', toks := tk } ∧
          SetG knd kf h' s.heap.objs.size (fun k' => decide (k' ∈ distinct xs)) (distinct xs).length ∧
          (∀ b o, b < s.heap.objs.size → s.heap.get? b = some o → h'.get? b = some o)) E) PySem.F.called_set.init.plain PySem.F.entry_set_init (check_set_init_1 hT ?_)) fun r₂ s₂ hr₂ => ?_
      · obtain ⟨ol, hol, hcl, nl, hdl⟩ := hl
        obtain ⟨ocls, odict, odata, oslots⟩ := ol
        simp only at hcl hdl
        subst hcl; subst hdl
        have hol' : (s.heap.push { cls := .type "set", dict := none, data := .set #[] 0 (.fresh 0 0 (!w.params.followText "set-order")) }).get? l = some { cls := .type "tuple", dict := odict, data := .seq items nl, slots := oslots } := Heap.get?_push_of_some _ hol
        have hsls := PySem.F.sub_tuple_set
        have hslf := PySem.F.sub_tuple_frozenset
        have hne : (Value.type "tuple" == Value.type "dict") = false := by decide
        have hl1 : (s.heap.push { cls := .type "set", dict := none, data := .set #[] 0 (.fresh 0 0 (!w.params.followText "set-order")) }).IsTuple l items := ⟨_, hol', rfl, nl, rfl⟩
        unfold Builtin.«set.__init__» noKeywords Builtin.Frozenset.updateFrom
        generalize hPI : pyIter = PI
        wp_walk
        subst hPI
        refine wpAny_pyIter_tuple hl1 ?_
        refine wpAny_bind (wpAny_runValue ?_)
        have hlS : l < s.heap.objs.size := Heap.lt_size hol
        have hh3 : A.in1.in1.in1.handled = none := by simp [hh]
        have hneI : l ≠ (s.heap.push { cls := .type "set", dict := none, data := .set #[] 0 (.fresh 0 0 (!w.params.followText "set-order")) }).objs.size := by
          rw [Heap.size_push]; exact Nat.ne_of_lt (Nat.lt_succ_of_lt hlS)
        have hSf : s.heap.objs.size ∉ [(s.heap.push { cls := .type "set", dict := none, data := .set #[] 0 (.fresh 0 0 (!w.params.followText "set-order")) }).objs.size, l] := by
          rw [Heap.size_push]; simp only [List.mem_cons, List.mem_singleton, List.not_mem_nil, or_false, not_or]
          exact ⟨Nat.ne_of_lt (Nat.lt_succ_self _), Nat.ne_of_gt hlS⟩
        refine setG_loop kk ((Walks.tuple hh3 _ l hneI items).toS) s.heap.objs.size
          hSf xs hsz (by rw [← hsz]; exact hb) hval (items.size - 0) 0 _ (by omega) (Nat.zero_le _)
          ⟨⟨_, Heap.get?_push_size _ rfl, rfl, rfl⟩, (hl1.push _)⟩ ?hS0 ?hR
        case hS0 =>
          have hget : ((s.heap.push { cls := .type "set", dict := none, data := .set #[] 0 (.fresh 0 0 (!w.params.followText "set-order")) }).push { cls := .type "tuple_iterator", data := .fields #[.ref l, .int 0 0] }).get? s.heap.objs.size
              = some { cls := .type "set", dict := none, data := .set #[] 0 (.fresh 0 0 (!w.params.followText "set-order")) } := Heap.get?_push_of_some _ hS
          exact (setG_fresh hget).congr (fun _ => rfl) rfl
        case hR =>
          intro s' hm hS'
          obtain ⟨h', g', d', tk', os'⟩ := s'
          have eg : g' = s.gens := hm.gens
          have ed : d' = s.drawn := hm.drawn
          have eo : os' = s.os := hm.os
          subst eg; subst ed; subst eo
          show wpAny _ _ _ _ _ _
          refine wpAny_pure ?_
          show wpAny _ _ (ret Value.none) _ _ _
          refine wpAny_pure ⟨rfl, h', tk', rfl, hS', fun b o hb e => ?_⟩
          have hb1 : b ≠ s.heap.objs.size := Nat.ne_of_lt hb
          have hb2 : b ≠ (s.heap.push { cls := .type "set", dict := none, data := .set #[] 0 (.fresh 0 0 (!w.params.followText "set-order")) }).objs.size := by
            rw [Heap.size_push]; exact Nat.ne_of_lt (Nat.lt_succ_of_lt hb)
          exact hm.heap b o (by simp only [List.mem_cons, List.mem_singleton, List.not_mem_nil, or_false, not_or]; exact ⟨hb1, hb2⟩) (Heap.get?_push_of_some _ (Heap.get?_push_of_some _ e))
      · cases r₂ with
        | error e => exact hr₂
        | ok fl₂ =>
          cases fl₂ with
          | ret r =>
            obtain ⟨rfl, h', tk, rfl, hS', hk'⟩ := hr₂
            repeat (any_goals (first | assumption | wp_step))
            exact h _ _ hS' hk'
          | _ => exact hr₂.elim
    | _ => exact hr.elim
end
end B

set_option Elab.async false
set_option linter.all false
set_option maxRecDepth 100000
set_option maxHeartbeats 4000000
namespace B
set_option autoImplicit false
open PySem PySem.Spec L2 PyProof.Rows
/-! ### sorted, over the heap -/
section
variable {prog : Program} {w : World} {A : Around} {E : Value → Shared → Prop} {s : Shared}
theorem collect_tup {l : Addr} {vs : List Value} {Q : List Value → Shared → Prop} (hl : s.heap.IsTuple l vs.toArray)
    (h : Q vs { s with heap := (s.heap.push (seqObj "list" #[] 0)).update s.heap.objs.size (Obj.mapSeq (· ++ vs.toArray)) }) (hsz : vs.length ≤ sizeLine) :
    wpAny (model prog w) A (collect (.ref l)) Q E s := by
  obtain ⟨o, ho, hc, n, hd⟩ := id hl
  unfold collect
  refine wpAny_bind (wpAny_runValue (codeAny_builtin entry_proto_collect' ?_))
  show wpAny _ _ (do again (.builtin "list.__iadd__" ⟨[← newList [], .ref l], []⟩)) _ _ s
  refine wpAny_bind (wpAny_newList (wpAny_pure ⟨Code.quiet_builtin _ (by decide +kernel), codeAny_builtin entry_list_iadd' ?_⟩))
  show wpAny _ _ (Builtin.List.listExtendWith (.ref s.heap.objs.size) (.ref l) (.ref s.heap.objs.size)) _ _ { s with heap := s.heap.push (seqObj "list" #[] 0) }
  unfold Builtin.List.listExtendWith
  have ho' : (s.heap.push (seqObj "list" #[] 0)).get? l = some o := Heap.get?_push_of_some _ ho
  refine wpAny_bind (wpAny_typeOf (T := "tuple") ⟨o, ho', hc⟩ ?_)
  have ht : (Value.type "tuple" == Value.type "tuple") = true := by rfl
  rw [if_pos (by rw [ht]; simp)]
  refine wpAny_bind (listItems_at ho' hd ?_)
  refine wpAny_bind (listItems_at (xs := #[]) (n := 0) (Heap.get?_push_size _ rfl) rfl ?_)
  rw [if_neg (by simp)]
  refine wpAny_bind (listUpdate_at (xs := #[]) (n := 0) (Heap.get?_push_size _ rfl) rfl ?_ (Nat.zero_le _) (by show (#[] ++ vs.toArray).size ≤ sizeLine + 1; simp only [Array.size_append, List.size_toArray, List.length_nil]; omega))
  refine wpAny_pure ?_
  show wpAny (model prog w) A (do
      let o ← load s.heap.objs.size
      match o.data with
      | .seq xs _ => pure xs.toList
      | _ => unsupported "internal:collect") Q E { s with heap := (s.heap.push (seqObj "list" #[] 0)).update s.heap.objs.size (Obj.mapSeq (· ++ vs.toArray)) }
  refine wpAny_bind (wpAny_load (get?_update_seq (Heap.get?_push_size _ rfl) _) ?_)
  show wpAny _ _ (pure ((#[] : Array Value) ++ vs.toArray).toList) Q E _
  refine wpAny_pure ?_
  have e : ((#[] : Array Value) ++ vs.toArray).toList = vs := by simp
  rw [e]
  exact h
theorem sorted_of_tup {l : Addr} {vs : List Value} {kw : List (Str × Value)} {Q : Value → Shared → Prop} (hl : s.heap.IsTuple l vs.toArray) (hL : vs.length ≤ sizeLine) (ha1 : argsOk "sorted" ⟨[.ref l], kw⟩) (ha2 : ∀ x, argsOk "list.sort" ⟨[.ref x], kw⟩)
    (body : ∀ E' : Value → Shared → Prop, wpAny (model prog w) A.in1.in1 (Builtin.«list.sort» ⟨[.ref (s.heap.objs.size + 1)], kw⟩) (fun f s' => f = .done (.ret .none) ∧ Q (.ref (s.heap.objs.size + 1)) s') E' { s with heap := PySem.W.copyHeap s.heap vs }) :
    wpAny (model prog w) A (call (.builtin "sorted") [.ref l] kw) Q E s := by
  refine PyProof.Rows.call_function_entry_kw kind_sorted plain_sorted entry_sorted ha1 ?_
  unfold Builtin.«sorted»
  refine wpAny_bind (m := checkCount "sorted" 1 1 _) (wpAny_pure ?_)
  refine wpAny_bind (collect_tup hl ?_ hL)
  refine wpAny_bind (wpAny_newList ?_ hL)
  have hsz : ((s.heap.push (seqObj "list" #[] 0)).update s.heap.objs.size (Obj.mapSeq (· ++ vs.toArray))).objs.size = s.heap.objs.size + 1 := by
    rw [Heap.size_update, size_push']
  show wpAny _ _ _ _ _ { s with heap := PySem.W.copyHeap s.heap vs }
  rw [hsz]
  refine wpAny_bind (wpAny_holding (wpAny_call_entry_kw slot_list_sort ⟨_, PySem.W.copyHeap_at s.heap vs, rfl⟩ entry_list_sort ?body (ha2 _)))
  case body =>
    show wpAny (model prog w) A.in1.in1 (Builtin.«list.sort» ⟨[.ref (s.heap.objs.size + 1)], kw⟩) _ _ _
    refine wpAny_mono (body _) (fun f s' hf => ?_) fun _ _ e => e
    obtain ⟨rfl, hq⟩ := hf
    exact ⟨_, rfl, wpAny_pure ⟨_, rfl, hq⟩⟩
open PySem.W in
theorem sorted_dataT {β : Type} {vs : List Value} {bs : List β} {enc : β → PyData} {R : Value → β → Prop} {l : Addr} {Q : Value → Shared → Prop} (hl : s.heap.IsTuple l vs.toArray) (e : EachIs R vs bs) (er : EachIs (fun v b => ∃ as, Reads s.heap v (enc b) as) vs bs) (hal : AllAlike (bs.map enc)) (hk : Sortable (bs.map enc)) (hL : bs.length ≤ sizeLine)
    (hu : ∀ b, b ∈ bs → A.units + 2 + (enc b).depth < cLine) (h : ∀ out, out.length = bs.length → EachIs R out (bs.mergeSort (dataLe false enc)) → Q (.ref (s.heap.objs.size + 1)) { s with heap := sortedAll s.heap vs (List.toArray out) }) :
    wpAny (model prog w) A (call (.builtin "sorted") [.ref l]) Q E s := by
  have er' : EachIs (fun v b => ∃ as, Reads (sortingHeap (copyHeap s.heap vs) (s.heap.objs.size + 1) vs) v (enc b) as) vs bs := er.mono fun _ _ ⟨as, r⟩ => ⟨as, PyProof.Rows.Reads.keeps (fun _ _ => sorting_copy_old) r⟩
  exact sorted_of_tup hl (by rw [e.length]; exact hL) (args_sorted1 _) (fun _ => args_list_sort _) fun _ => list_sort_vals (s := { s with heap := copyHeap s.heap vs }) (copyHeap_at s.heap vs)
    (SortsAt.data (s := { s with heap := sortingHeap (copyHeap s.heap vs) (s.heap.objs.size + 1) vs }) (each_map (R := fun v d => ∃ as, Reads (sortingHeap (copyHeap s.heap vs) (s.heap.objs.size + 1) vs) v d as) enc er') hal hk (bound_map hu)) (by rw [e.length]; exact hL)
    ⟨rfl, h _ (by rw [sortVals_length false rfl]; exact e.length) (sortVals_data false e er' hal)⟩
theorem str_ext {a b : Str} (h : a.cps.toList = b.cps.toList) : a = b := by
  obtain ⟨x⟩ := a
  obtain ⟨y⟩ := b
  have e : x = y := by
    apply Array.ext'
    exact h
  rw [e]
theorem strLe_anti {a b : Str} (h1 : strLe a b = true) (h2 : strLe b a = true) : a = b :=
  str_ext (List.le_antisymm (of_decide_eq_true h1) (of_decide_eq_true h2))
theorem strLe_trans (a b c : Str) (h1 : strLe a b = true) (h2 : strLe b c = true) : strLe a c = true :=
  decide_eq_true (List.le_trans (of_decide_eq_true h1) (of_decide_eq_true h2))
theorem strLe_total (a b : Str) : (strLe a b || strLe b a) = true := by
  unfold strLe
  rcases List.le_total a.cps.toList b.cps.toList with h | h
  · rw [decide_eq_true h]; rfl
  · rw [decide_eq_true h, Bool.or_true]
theorem sort_perm {xs ys : List Str} (h : xs.Perm ys) : xs.mergeSort strLe = ys.mergeSort strLe :=
  List.Perm.eq_of_pairwise (le := fun a b => strLe a b = true) (fun _ _ _ _ h1 h2 => strLe_anti h1 h2) (List.pairwise_mergeSort strLe_trans strLe_total xs) (List.pairwise_mergeSort strLe_trans strLe_total ys)
    ((List.mergeSort_perm xs _).trans (h.trans (List.mergeSort_perm ys _).symm))
/-- a text's key -/
def kfS : Value → Str
  | .str x _ => x
  | _ => Str.empty
theorem kfS_ok {P : Program} {w : World} : KfOk (strKind P w) kfS := fun k v h => by
  obtain ⟨t, rfl⟩ := Value.isStrOf_shape h
  rfl
/-- the sorted members of a set of texts -/
theorem sorted_setS {a : Addr} {S : Str → Bool} {n : Nat} {zs : List Str} {Q : Value → Shared → Prop} (R : SetG (strKind prog w) kfS s.heap a S n) (hz : zs.Nodup) (hS : ∀ k, S k = true ↔ k ∈ zs) (hh : A.handled = none) (hu : A.units + 64 < cLine)
    (hQ : ∀ s' p (out : List Value) (c : Nat), (∀ b o, s.heap.get? b = some o → s'.heap.get? b = some o) → s'.gens = s.gens → s'.os = s.os → s.heap.objs.size ≤ p →
      s'.heap.get? p = some (seqObj "list" out.toArray c) → PySem.W.EachIs (fun v k => ∃ t, v = Value.str k t) out (zs.mergeSort strLe) → Q (.ref p) s') :
    wpAny (model prog w) A (call (.builtin "sorted") [.ref a]) Q E s := by
  obtain ⟨o, es, ep, t, ho, hex, hd, g, nd, hm, hb, hf, hn, hr, hl⟩ := R
  refine Calls.call_function_entry kind_sorted plain_sorted entry_sorted (args_sorted1 _) ?_
  unfold Builtin.«sorted»
  refine wpAny_bind (m := checkCount "sorted" 1 1 _) (wpAny_pure ?_)
  refine wpAny_bind (collect_set (A := A.in1) hh ⟨o, ho, hex.1, hd⟩ hf hb hr hl fun s1 vs k1 hz' g1 o1 pm => ?_)
  have hvl : vs.length = es.size := by rw [pm.length_eq, List.length_map, Array.length_toList]
  have hv : ∀ v ∈ vs, ∃ k t, v = Value.str k t := fun v hv => by
    obtain ⟨e, he, q⟩ := List.mem_map.mp (pm.mem_iff.mp hv)
    obtain ⟨⟨k, hk, _⟩, _⟩ := g e he
    obtain ⟨t, ht⟩ := Value.isStrOf_shape hk
    exact ⟨k, t, by rw [← q, ht]⟩
  have hE : ∀ l : List Value, (∀ v ∈ l, ∃ k t, v = Value.str k t) → PySem.W.EachIs (fun v k => ∃ t, v = Value.str k t) l (l.map kfS) := by
    intro l
    induction l with
    | nil => intro _; exact .nil
    | cons v l ih =>
      intro h
      obtain ⟨k, t, rfl⟩ := h v List.mem_cons_self
      exact .cons ⟨t, rfl⟩ (ih fun u hu => h u (List.mem_cons_of_mem _ hu))
  have pk : (vs.map kfS).Perm (es.toList.map fun e => kfS e.2) := by
    have q := pm.map kfS
    rw [List.map_map] at q
    exact q
  have pz : (vs.map kfS).Perm zs := by
    refine pk.trans ?_
    refine (List.perm_ext_iff_of_nodup nd hz).mpr fun k => ?_
    rw [← hm k, hS k]
  have hlen : vs.length ≤ sizeLine := by rw [hvl]; exact fits_of_scanBound hb
  refine wpAny_bind (wpAny_newList ?_ hlen)
  have hoL : (s1.heap.push (seqObj "list" vs.toArray 0)).get? s1.heap.objs.size = some (seqObj "list" vs.toArray 0) := Heap.get?_push_size _ rfl
  have eS : PySem.W.EachIs (fun v k => ∃ t, v = Value.str k t) vs (vs.map kfS) := hE vs hv
  have hle : PySem.W.dataLe false (fun k : Str => PyData.str k) = strLe := PySem.W.dataLe_str (fun k => k)
  refine wpAny_bind (wpAny_holding (PySem.W.list_sort_data (bs := vs.map kfS) (enc := fun k : Str => .str k) (R := fun v k => ∃ t, v = Value.str k t) hoL eS (eS.mono fun v k ⟨t, e⟩ => ⟨[], by rw [e]; exact .str _ _, by simp⟩)
    (PySem.W.AllAlike.of fun b b' => by simp [PySem.W.alike]) (PySem.W.Sortable.others fun b => ⟨by simp, fun xs => by simp⟩) (by rw [List.length_map]; exact hlen) (fun b _ => by show A.units + 1 + 1 + 0 < cLine; omega) fun out hol he => ?_))
  obtain ⟨c, hc⟩ := sortedHeap_at (vs := vs) (out := out.toArray) hoL
  rw [hle, sort_perm pz] at he
  refine wpAny_pure ⟨_, rfl, hQ _ s1.heap.objs.size out c (fun b u e => ?_) g1 o1 hz' hc he⟩
  have q := k1 b u e
  have hlt := Heap.lt_size q
  show (sortedHeap (s1.heap.push (seqObj "list" vs.toArray 0)) s1.heap.objs.size vs out.toArray).get? b = some u
  rw [sortedHeap_old (Nat.ne_of_lt hlt) (by rw [size_push']; exact Nat.lt_succ_of_lt hlt)]
  exact Heap.get?_push_of_some _ q
end
end B

set_option Elab.async false
set_option linter.all false
set_option maxRecDepth 100000
set_option maxHeartbeats 4000000
namespace B
set_option autoImplicit false
open PySem PySem.Spec L2
open PyProof.Rows hiding St

/-- what is written: the kit's part, the classes of instances, of exceptions -/
structure Kt where
  K : PySem.W.Frag
  cl : Nat → Addr
  xc : Nat → Addr
  kn : Nat → Prop

/-! ### data in the heap: F what is never changed again, ι the cells -/
mutual
inductive Rep (T : Kt) (F : Hp) (ι : List Addr) : V → D → Prop
  | non : Rep T F ι .non .non
  | bl (b : Bool) : Rep T F ι (.bl b) (.bl b)
  | int (i : Int) : Rep T F ι (.int i) (.int i)
  | str (s : Str) : Rep T F ι (.str s) (.str s)
  | tup {a : Addr} {xs : List V} {ds : List D} : SqT T.K F a xs → RepL T F ι xs ds → ds.length ≤ sizeLine → Rep T F ι (.ref a) (.tup ds)
  | lst {a : Addr} {xs : List V} {ds : List D} : F a = some (.lst xs) → RepL T F ι xs ds → ds.length ≤ sizeLine → Rep T F ι (.ref a) (.lst ds)
  | scr {a : Addr} {ns : List Int} : SqL T.K F a (ns.map V.int) → ns.length ≤ sizeLine → Rep T F ι (.ref a) (.scr ns)
  | ref {a : Addr} {n : Nat} : ι[n]? = some a → Rep T F ι (.ref a) (.ref n)
inductive RepL (T : Kt) (F : Hp) (ι : List Addr) : List V → List D → Prop
  | nil : RepL T F ι [] []
  | cons {v : V} {vs : List V} {d : D} {ds : List D} : Rep T F ι v d → RepL T F ι vs ds → RepL T F ι (v :: vs) (d :: ds)
end
theorem Same.seqT {K : PySem.W.Frag} {H H' : Hp} {a : Addr} {xs : List V} (e : Same H H') (h : SqT K H a xs) : SqT K H' a xs := by
  rcases h with (h | ⟨o, h⟩) | h
  · exact .inl (.inl (e _ _ h))
  · exact .inl (.inr ⟨o, e _ _ h⟩)
  · exact .inr h
theorem pre_get {ι ι' : List Addr} {n : Nat} {a : Addr} (p : ι <+: ι') (h : ι[n]? = some a) : ι'[n]? = some a := by
  obtain ⟨t, rfl⟩ := p
  have hl := (List.getElem?_eq_some_iff.mp h).1
  rw [List.getElem?_append_left hl]
  exact h
variable {T : Kt}
mutual
theorem Rep.mono {F F' : Hp} {ι ι' : List Addr} (s : Same F F') (p : ι <+: ι') : ∀ {v : V} {d : D}, Rep T F ι v d → Rep T F' ι' v d
  | _, _, .non => .non
  | _, _, .bl b => .bl b
  | _, _, .int i => .int i
  | _, _, .str x => .str x
  | _, _, .tup h r z => .tup (Same.seqT s h) (RepL.mono s p r) z
  | _, _, .lst h r z => .lst (s _ _ h) (RepL.mono s p r) z
  | _, _, .scr h z => .scr (s.seq h) z
  | _, _, .ref h => .ref (pre_get p h)
theorem RepL.mono {F F' : Hp} {ι ι' : List Addr} (s : Same F F') (p : ι <+: ι') : ∀ {vs : List V} {ds : List D}, RepL T F ι vs ds → RepL T F' ι' vs ds
  | _, _, .nil => .nil
  | _, _, .cons r t => .cons (Rep.mono s p r) (RepL.mono s p t)
end
theorem RepL.length {F : Hp} {ι : List Addr} : ∀ {vs : List V} {ds : List D}, RepL T F ι vs ds → vs.length = ds.length
  | _, _, .nil => rfl
  | _, _, .cons _ t => by simp [RepL.length t]
theorem RepL.get {F : Hp} {ι : List Addr} : ∀ {vs : List V} {ds : List D} {i : Nat} {d : D}, RepL T F ι vs ds → ds[i]? = some d → ∃ v, vs[i]? = some v ∧ Rep T F ι v d
  | _, _, _, _, .nil, h => by simp at h
  | _, _, 0, _, .cons r _, h => by simp at h; subst h; exact ⟨_, rfl, r⟩
  | _, _, i + 1, d, .cons _ t, h => by
    obtain ⟨v, e, r⟩ := RepL.get (i := i) (d := d) t (by simpa using h)
    exact ⟨v, by simpa using e, r⟩
theorem RepL.append {F : Hp} {ι : List Addr} : ∀ {vs ws : List V} {ds es : List D}, RepL T F ι vs ds → RepL T F ι ws es → RepL T F ι (vs ++ ws) (ds ++ es)
  | _, _, _, _, .nil, s => s
  | _, _, _, _, .cons r t, s => .cons r (RepL.append t s)
theorem RepL.drop {F : Hp} {ι : List Addr} : ∀ (n : Nat) {vs : List V} {ds : List D}, RepL T F ι vs ds → RepL T F ι (vs.drop n) (ds.drop n)
  | 0, _, _, r => r
  | _ + 1, _, _, .nil => .nil
  | n + 1, _, _, .cons _ t => RepL.drop n t
theorem RepL.take {F : Hp} {ι : List Addr} : ∀ (n : Nat) {vs : List V} {ds : List D}, RepL T F ι vs ds → RepL T F ι (vs.take n) (ds.take n)
  | 0, _, _, _ => .nil
  | _ + 1, _, _, .nil => .nil
  | n + 1, _, _, .cons r t => .cons r (RepL.take n t)
theorem RepL.set {F : Hp} {ι : List Addr} {v : V} {d : D} (q : Rep T F ι v d) : ∀ (n : Nat) {vs : List V} {ds : List D}, RepL T F ι vs ds → RepL T F ι (vs.set n v) (ds.set n d)
  | _, _, _, .nil => .nil
  | 0, _, _, .cons _ t => .cons q t
  | n + 1, _, _, .cons r t => .cons r (RepL.set q n t)
theorem RepL.dropLast {F : Hp} {ι : List Addr} {vs : List V} {ds : List D} (r : RepL T F ι vs ds) : RepL T F ι vs.dropLast ds.dropLast := by
  rw [List.dropLast_eq_take, List.dropLast_eq_take, r.length]
  exact r.take _
/-- names and values -/
abbrev RepF (T : Kt) (F : Hp) (ι : List Addr) : List (Str × V) → List (Str × D) → Prop := Paired fun p q => p.1 = q.1 ∧ Rep T F ι p.2 q.2
theorem RepF.mono {F F' : Hp} {ι ι' : List Addr} (s : Same F F') (p : ι <+: ι') {ws : List (Str × V)} {fs : List (Str × D)} (r : RepF T F ι ws fs) : RepF T F' ι' ws fs :=
  Paired.mapP r fun _ _ h => ⟨h.1, h.2.mono s p⟩
theorem RepF.lookup {F : Hp} {ι : List Addr} {f : Str} : ∀ {ws : List (Str × V)} {fs : List (Str × D)}, RepF T F ι ws fs →
    (fs.lookup f = none ∧ ws.lookup f = none) ∨ ∃ v d, fs.lookup f = some d ∧ ws.lookup f = some v ∧ Rep T F ι v d
  | _, _, .nil => .inl ⟨rfl, rfl⟩
  | (g, v) :: ws, (g', d) :: fs, .cons ⟨e, r⟩ t => by
    dsimp only at e r
    subst e
    by_cases h : f = g
    · subst h
      exact .inr ⟨v, d, by simp [List.lookup], by simp [List.lookup], r⟩
    · have hb : (f == g) = false := by simpa using h
      have ih := RepF.lookup (f := f) t
      simp only [List.lookup, hb]
      exact ih
theorem RepF.put {F : Hp} {ι : List Addr} {f : Str} {v : V} {d : D} (q : Rep T F ι v d) : ∀ {ws : List (Str × V)} {fs : List (Str × D)}, RepF T F ι ws fs → RepF T F ι (L2.putF f v ws) (putF f d fs)
  | _, _, .nil => .cons ⟨rfl, q⟩ .nil
  | (g, w) :: ws, (g', e) :: fs, .cons ⟨h, r⟩ t => by
    dsimp only at h r
    subst h
    unfold L2.putF putF
    by_cases hg : g = f
    · rw [if_pos hg, if_pos hg]
      exact .cons ⟨rfl, q⟩ t
    · rw [if_neg hg, if_neg hg]
      exact .cons ⟨rfl, r⟩ (RepF.put q t)
def kws (ws : List (Str × V)) : List (Key × V) := ws.map fun p => ((Sum.inr p.1 : Key), p.2)
theorem RepF.val {F : Hp} {ι : List Addr} {k : Str} : ∀ {ws : List (Str × V)} {kvs : List (Str × D)}, RepF T F ι ws kvs →
    (getK kvs k = none ∧ valV (kws ws) (Sum.inr k) = none) ∨ ∃ v d, getK kvs k = some d ∧ valV (kws ws) (Sum.inr k) = some v ∧ Rep T F ι v d
  | _, _, .nil => .inl ⟨rfl, rfl⟩
  | (g, v) :: ws, (g', d) :: fs, .cons ⟨e, r⟩ t => by
    dsimp only at e r
    subst e
    have ih := RepF.val (k := k) t
    by_cases h : g = k
    · subst h
      refine .inr ⟨v, d, by simp [getK], ?_, r⟩
      show valV ((Sum.inr g, v) :: kws ws) (Sum.inr g) = some v
      rw [valV_pos rfl]
    · have h1 : getK ((g, d) :: fs) k = getK fs k := by simp [getK, List.find?_cons, h]
      have h2 : valV (kws ((g, v) :: ws)) (Sum.inr k) = valV (kws ws) (Sum.inr k) := by
        show valV ((Sum.inr g, v) :: kws ws) (Sum.inr k) = _
        rw [valV_neg (fun q => h (Sum.inr.inj q))]
      rw [h1, h2]
      exact ih
theorem kws_any (ws : List (Str × V)) (k : Str) : ((kws ws).any fun kv => decide (kv.1 = (Sum.inr k : Key))) = ws.any fun p => decide (p.1 = k) := by
  unfold kws
  rw [List.any_map]
  congr 1
  funext p
  simp
theorem RepF.any {F : Hp} {ι : List Addr} {k : Str} : ∀ {ws : List (Str × V)} {kvs : List (Str × D)}, RepF T F ι ws kvs → (ws.any fun p => decide (p.1 = k)) = kvs.any fun p => decide (p.1 = k)
  | _, _, .nil => rfl
  | (g, v) :: ws, (g', d) :: fs, .cons ⟨e, r⟩ t => by
    dsimp only at e
    subst e
    simp only [List.any_cons, RepF.any (k := k) t]
theorem RepF.map {F : Hp} {ι : List Addr} {k : Str} {v : V} {d : D} (q : Rep T F ι v d) : ∀ {ws : List (Str × V)} {kvs : List (Str × D)}, RepF T F ι ws kvs →
    RepF T F ι (ws.map fun p => if p.1 = k then (p.1, v) else p) (kvs.map fun p => if p.1 = k then (p.1, d) else p)
  | _, _, .nil => .nil
  | (g, w) :: ws, (g', e) :: fs, .cons ⟨h, r⟩ t => by
    dsimp only at h r
    subst h
    refine .cons ?_ (RepF.map q t)
    by_cases hg : g = k
    · simp only [hg, if_true]; exact ⟨trivial, q⟩
    · simp only [hg, if_false]; exact ⟨trivial, r⟩
theorem Paired.append {α β : Type} {G : α → β → Prop} : ∀ {a c : List α} {b d : List β}, Paired G a b → Paired G c d → Paired G (a ++ c) (b ++ d)
  | _, _, _, _, .nil, s => s
  | _, _, _, _, .cons r t, s => .cons r (Paired.append t s)
theorem RepF.putK {F : Hp} {ι : List Addr} {k : Str} {v : V} {d : D} (q : Rep T F ι v d) {ws : List (Str × V)} {kvs : List (Str × D)} (r : RepF T F ι ws kvs) :
    ∃ ws', L2.putK (kws ws) (Sum.inr k) v = kws ws' ∧ RepF T F ι ws' (putK kvs k d) := by
  unfold L2.putK B.putK
  rw [kws_any, RepF.any r]
  by_cases h : (kvs.any fun p => decide (p.1 = k)) = true
  · rw [if_pos h, if_pos h]
    refine ⟨ws.map fun p => if p.1 = k then (p.1, v) else p, ?_, RepF.map q r⟩
    unfold kws
    rw [List.map_map, List.map_map]
    refine List.map_congr_left fun p _ => ?_
    simp only [Function.comp]
    by_cases hp : p.1 = k
    · subst hp; simp
    · have hk : ¬ (Sum.inr p.1 : Key) = Sum.inr k := fun e => hp (Sum.inr.inj e)
      simp [hp, hk]
  · rw [if_neg h, if_neg h]
    refine ⟨ws ++ [(k, v)], ?_, Paired.append r (.cons ⟨rfl, q⟩ .nil)⟩
    unfold kws
    rw [List.map_append]
    rfl

/-! ### cells, the store, the slots -/
def CellAt (T : Kt) (H F : Hp) (ι : List Addr) (a : Addr) : Cell → Prop
  | .lst ds => ∃ vs, H a = some (.lst vs) ∧ RepL T F ι vs ds ∧ ds.length ≤ sizeLine
  | .dict kvs => ∃ ws, H a = some (.dK (kws ws)) ∧ RepF T F ι ws kvs
  | .ins c fs => ∃ dx ws, H a = some (.ins (T.cl c) dx ws) ∧ RepF T F ι ws fs ∧ T.kn c
structure RSt (T : Kt) (ι : List Addr) (F H : Hp) (st : Store) : Prop where
  same : Same F H
  len : ι.length = st.length
  nd : ι.Nodup
  cell : ∀ (i : Nat) (a : Addr) (c : Cell), ι[i]? = some a → st[i]? = some c → F a = none ∧ CellAt T H F ι a c
structure REnv (T : Kt) (ι : List Addr) (F H : Hp) (σ : St) (ρ : Slots) : Prop where
  len : σ.length = ρ.length
  val : ∀ (i : Nat) (d : D), ρ[i]? = some (.val d) → ∃ v, σ[i]? = some (some v) ∧ Rep T F ι v d
  own : ∀ (i : Nat) (ds : List D), ρ[i]? = some (.own ds) → ∃ a vs, σ[i]? = some (some (.ref a)) ∧ H a = some (.lst vs) ∧ RepL T F ι vs ds ∧ ds.length ≤ sizeLine ∧ F a = none ∧ a ∉ ι
  sep : ∀ (i j : Nat) (ds es : List D) (a : Addr), ρ[i]? = some (.own ds) → ρ[j]? = some (.own es) → σ[i]? = some (some (.ref a)) → σ[j]? = some (some (.ref a)) → i = j
/-- the addresses that slots own -/
def Own (σ : St) (ρ : Slots) (a : Addr) : Prop := ∃ (i : Nat) (ds : List D), ρ[i]? = some (.own ds) ∧ σ[i]? = some (some (.ref a))
structure Ext (X : Addr → Prop) (ι : List Addr) (F H : Hp) (ι' : List Addr) (F' H' : Hp) : Prop where
  fr : Same F F'
  io : ι <+: ι'
  kp : ∀ a o, H a = some o → a ∉ ι → ¬ X a → H' a = some o
  fz : ∀ a, H a ≠ none → ¬ X a → F' a = F a
  nw : ∀ a, a ∈ ι' → a ∉ ι → H a = none
  th : ∀ a, H a ≠ none → H' a ≠ none
abbrev N0 : Addr → Prop := fun _ => False
theorem Ext.refl {X : Addr → Prop} {ι : List Addr} {F H : Hp} : Ext X ι F H ι F H :=
  ⟨fun _ _ h => h, List.prefix_refl _, fun _ _ h _ _ => h, fun _ _ _ => rfl, fun _ h n => absurd h n, fun _ h => h⟩
theorem Ext.trans {X Y : Addr → Prop} {ι ι1 ι2 : List Addr} {F F1 F2 H H1 H2 : Hp} (a : Ext X ι F H ι1 F1 H1) (b : Ext Y ι1 F1 H1 ι2 F2 H2) (h : ∀ c, Y c → X c ∨ H c = none) : Ext X ι F H ι2 F2 H2 where
  fr := a.fr.trans b.fr
  io := a.io.trans b.io
  kp := fun c o e n x => b.kp c o (a.kp c o e n x) (fun m => by
    have z := a.nw c m n
    rw [e] at z
    cases z) fun y => (h c y).elim x fun z => by
      rw [e] at z
      cases z
  fz := fun c e x => (b.fz c (a.th c e) fun y => (h c y).elim x e).trans (a.fz c e x)
  nw := fun c m n => by
    by_cases m1 : c ∈ ι1
    · exact a.nw c m1 n
    · have z := b.nw c m m1
      cases q : H c with
      | none => rfl
      | some o => exact absurd z (a.th c (by rw [q]; exact fun w => nomatch w))
  th := fun c e => b.th c (a.th c e)
theorem Ext.weak {X Y : Addr → Prop} {ι ι' : List Addr} {F F' H H' : Hp} (a : Ext X ι F H ι' F' H') (h : ∀ c, X c → Y c ∨ H c = none) : Ext Y ι F H ι' F' H' :=
  Ext.trans Ext.refl a h
abbrev Ext0 := Ext N0
theorem Ext.trans0 {ι ι1 ι2 : List Addr} {F F1 F2 H H1 H2 : Hp} (a : Ext0 ι F H ι1 F1 H1) (b : Ext0 ι1 F1 H1 ι2 F2 H2) : Ext0 ι F H ι2 F2 H2 := a.trans b fun _ z => z.elim
theorem Rep.ext {X : Addr → Prop} {ι ι' : List Addr} {F F' H H' : Hp} {v : V} {d : D} (r : Rep T F ι v d) (e : Ext X ι F H ι' F' H') : Rep T F' ι' v d := r.mono e.fr e.io
theorem RepL.ext {X : Addr → Prop} {ι ι' : List Addr} {F F' H H' : Hp} {v : List V} {d : List D} (r : RepL T F ι v d) (e : Ext X ι F H ι' F' H') : RepL T F' ι' v d := r.mono e.fr e.io
/-- an owned list beside what a step leaves -/
theorem REnv.ext {ι ι' : List Addr} {F F' H H' : Hp} {σ : St} {ρ : Slots} (E : REnv T ι F H σ ρ) (e : Ext0 ι F H ι' F' H') : REnv T ι' F' H' σ ρ where
  len := E.len
  val := fun i d h => by
    obtain ⟨v, a, r⟩ := E.val i d h
    exact ⟨v, a, r.ext e⟩
  own := fun i ds h => by
    obtain ⟨a, vs, e1, e2, r, z, f, n⟩ := E.own i ds h
    have hn : H a ≠ none := by rw [e2]; exact fun w => nomatch w
    exact ⟨a, vs, e1, e.kp a _ e2 n (fun z => z), r.ext e, z, (e.fz a hn fun z => z).trans f, fun m => absurd (e.nw a m n) hn⟩
  sep := E.sep
theorem nf {F H : Hp} (s : Same F H) {p : Addr} (h : H p = none) : F p = none := s.free h

/-! ### what is asked of an expression -/
abbrev Rel (β α : Type) := Hp → List Addr → Hp → Hp → β → α → Prop
def Post {β α : Type} (T : Kt) (rel : Rel β α) (W : WX) (σ : St) (ι : List Addr) (F H : Hp) (r : R α) (Q : β → Hp → Prop) : Prop :=
  match r with
  | .ok a st' => ∀ ι' F' H' b, Ext0 ι F H ι' F' H' → RSt T ι' F' H' st' → rel H ι' F' H' b a → Q b H'
  | .exc c st' => ∀ ι' F' H', Ext0 ι F H ι' F' H' → RSt T ι' F' H' st' → W (.ref (T.xc c)) none σ H'
  | .stuck => False
def tM {β α : Type} (T : Kt) (rel : Rel β α) (W : WX) (f : Slots → Store → R α) : St → Hp → (β → Hp → Prop) → Prop := fun σ H Q =>
  ∃ ι F ρ st, RSt T ι F H st ∧ REnv T ι F H σ ρ ∧ Post T rel W σ ι F H (f ρ st) Q
/-- a relation that looks at the heap ahead only for what is free in it -/
def Anti {β α : Type} (rel : Rel β α) : Prop := ∀ H H1 ι F H' b a, (∀ c, H c ≠ none → H1 c ≠ none) → rel H1 ι F H' b a → rel H ι F H' b a
theorem Post.ext {β α : Type} {rel : Rel β α} {W : WX} {σ : St} {ι ι1 : List Addr} {F F1 H H1 : Hp} {r : R α} {Q : β → Hp → Prop} (an : Anti rel) (e : Ext0 ι F H ι1 F1 H1) (P : Post T rel W σ ι F H r Q) : Post T rel W σ ι1 F1 H1 r Q := by
  cases r with
  | ok a st => exact fun ι' F' H' b x s q => P ι' F' H' b (e.trans0 x) s (an _ _ _ _ _ _ _ e.th q)
  | exc c st => exact fun ι' F' H' x s => P ι' F' H' (e.trans0 x) s
  | stuck => exact P
theorem Post.bind {β γ α δ : Type} {rel : Rel β α} {rel1 : Rel γ δ} {W : WX} {σ : St} {ι : List Addr} {F H : Hp} {x : R δ} {g : δ → Store → R α} {Q : β → Hp → Prop} {Q1 : γ → Hp → Prop} (an : Anti rel)
    (P : Post T rel W σ ι F H (x.bind g) Q)
    (h : ∀ a st1 ι1 F1 H1 b, Ext0 ι F H ι1 F1 H1 → RSt T ι1 F1 H1 st1 → rel1 H ι1 F1 H1 b a → Post T rel W σ ι1 F1 H1 (g a st1) Q → Q1 b H1) : Post T rel1 W σ ι F H x Q1 := by
  cases x with
  | ok a st => exact fun ι' F' H' b e s q => h a st ι' F' H' b e s q (Post.ext an e P)
  | exc c st => exact P
  | stuck => exact P
abbrev rD (T : Kt) : Rel V D := fun _ ι F _ v d => Rep T F ι v d
abbrev rDs (T : Kt) : Rel (List V) (List D) := fun _ ι F _ v d => RepL T F ι v d
abbrev rB : Rel Bool Bool := fun _ _ _ _ b k => b = k
abbrev rOI : Rel (Option Int) (Option Int) := fun _ _ _ _ b k => b = k
/-- a list just made: nobody else knows it -/
abbrev rC (T : Kt) : Rel V (List D) := fun H0 ι F H v ds => ∃ p vs, v = .ref p ∧ H p = some (.lst vs) ∧ H0 p = none ∧ F p = none ∧ p ∉ ι ∧ RepL T F ι vs ds ∧ ds.length ≤ sizeLine
theorem an_D : Anti (rD T) := fun _ _ _ _ _ _ _ _ q => q
theorem an_Ds : Anti (rDs T) := fun _ _ _ _ _ _ _ _ q => q
theorem an_B : Anti rB := fun _ _ _ _ _ _ _ _ q => q
theorem an_OI : Anti rOI := fun _ _ _ _ _ _ _ _ q => q
theorem an_C : Anti (rC T) := fun H H1 ι F H' b a h ⟨p, vs, e, k, n, r⟩ => ⟨p, vs, e, k, by
  cases q : H p with
  | none => rfl
  | some o => exact absurd n (h p (by rw [q]; exact fun w => nomatch w)), r⟩
abbrev tE (T : Kt) (W : WX) (f : Slots → Store → R D) : TE := tM T (rD T) W f
abbrev tEs (T : Kt) (W : WX) (f : Slots → Store → R (List D)) : TA := tM T (rDs T) W f
abbrev tK (T : Kt) (W : WX) (f : Slots → Store → R Bool) : TT := tM T rB W f
abbrev tCr (T : Kt) (W : WX) (f : Slots → Store → R (List D)) : TE := tM T (rC T) W f
theorem PE.imp {X : Cx} {e : Expr} {t t' : TE} (h : PE X e t) (i : ∀ σ H Q, t' σ H Q → t σ H Q) : PE X e t' := ⟨fun pins s σ H Q I q => h.run pins s σ H Q I (i σ H Q q)⟩
theorem PT.imp {X : Cx} {e : Expr} {t t' : TT} (h : PT X e t) (i : ∀ σ H Q, t' σ H Q → t σ H Q) : PT X e t' := ⟨fun pins s σ H Q I q => h.run pins s σ H Q I (i σ H Q q)⟩
theorem PW.imp {X : Cx} {e : Expr} {t t' : TT} (h : PW X e t) (i : ∀ σ H Q, t' σ H Q → t σ H Q) : PW X e t' := ⟨fun w pins s σ H Q I q => h.run w pins s σ H Q I (i σ H Q q)⟩
theorem PA.imp {X : Cx} {e : List Expr} {t t' : TA} (h : PA X e t) (i : ∀ σ H Q, t' σ H Q → t σ H Q) : PA X e t' := ⟨fun pos pins s σ H Q I q => h.run pos pins s σ H Q I (i σ H Q q)⟩
theorem PS.imp {X : Cx} {e : Stmt} {t t' : TS} (h : PS X e t) (i : ∀ D σ H, t' D σ H → t D σ H) : PS X e t' := ⟨fun pins s σ H D I q => h.run pins s σ H D I (i D σ H q)⟩
theorem PSs.imp {X : Cx} {e : List Stmt} {t t' : TS} (h : PSs X e t) (i : ∀ D σ H, t' D σ H → t D σ H) : PSs X e t' := ⟨fun pins s σ H D I q => h.run pins s σ H D I (i D σ H q)⟩

/-- two expressions in a row -/
theorem tM_seq {β γ α δ : Type} {rel : Rel β α} {rel1 : Rel γ δ} {W : WX} {f : Slots → Store → R δ} {g : δ → Slots → Store → R α} {σ : St} {H : Hp} {Q : β → Hp → Prop} {Q1 : γ → Hp → Prop} (an : Anti rel)
    (h : tM T rel W (fun ρ st => (f ρ st).bind fun a st => g a ρ st) σ H Q)
    (k : ∀ ι F H1 ρ st a b, RSt T ι F H1 st → REnv T ι F H1 σ ρ → (∃ H0, rel1 H0 ι F H1 b a) → (∀ c, H c ≠ none → H1 c ≠ none) → Post T rel W σ ι F H1 (g a ρ st) Q → Q1 b H1) : tM T rel1 W f σ H Q1 := by
  obtain ⟨ι, F, ρ, st, S, E, P⟩ := h
  exact ⟨ι, F, ρ, st, S, E, P.bind an fun a st1 ι1 F1 H1 b e S1 q P1 => k ι1 F1 H1 ρ st1 a b S1 (E.ext e) ⟨_, q⟩ e.th P1⟩
end B

set_option Elab.async false
set_option linter.all false
set_option maxRecDepth 100000
set_option maxHeartbeats 4000000
namespace B
set_option autoImplicit false
open PySem PySem.Spec L2
open PyProof.Rows hiding St
variable {T : Kt}

/-! ### steps of the store -/
theorem CellAt.mono {H H' F F' : Hp} {ι ι' : List Addr} {a : Addr} {c : Cell} (s : Same F F') (p : ι <+: ι') (k : ∀ o, H a = some o → H' a = some o) (h : CellAt T H F ι a c) : CellAt T H' F' ι' a c := by
  cases c with
  | lst ds => obtain ⟨vs, e, r, z⟩ := h; exact ⟨vs, k _ e, r.mono s p, z⟩
  | dict kvs => obtain ⟨ws, e, r⟩ := h; exact ⟨ws, k _ e, r.mono s p⟩
  | ins c fs => obtain ⟨dx, ws, e, r, kn⟩ := h; exact ⟨dx, ws, k _ e, r.mono s p, kn⟩
theorem CellAt.there {H F : Hp} {ι : List Addr} {a : Addr} {c : Cell} (h : CellAt T H F ι a c) : H a ≠ none := by
  cases c with
  | lst ds => obtain ⟨vs, e, _⟩ := h; rw [e]; exact fun w => nomatch w
  | dict kvs => obtain ⟨ws, e, _⟩ := h; rw [e]; exact fun w => nomatch w
  | ins c fs => obtain ⟨dx, ws, e, _⟩ := h; rw [e]; exact fun w => nomatch w
theorem RSt.of_ref {ι : List Addr} {F H : Hp} {st : Store} (S : RSt T ι F H st) {i : Nat} {c : Cell} (h : st[i]? = some c) : ∃ a, ι[i]? = some a := by
  have hl := (List.getElem?_eq_some_iff.mp h).1
  rw [← S.len] at hl
  exact ⟨ι[i], List.getElem?_eq_getElem hl⟩
theorem RSt.there {ι : List Addr} {F H : Hp} {st : Store} (S : RSt T ι F H st) {a : Addr} (h : a ∈ ι) : H a ≠ none ∧ F a = none := by
  obtain ⟨i, hi, e⟩ := List.getElem_of_mem h
  have e1 : ι[i]? = some a := by rw [List.getElem?_eq_getElem hi, e]
  have hl : i < st.length := by rw [← S.len]; exact hi
  obtain ⟨n, c⟩ := S.cell i a _ e1 (List.getElem?_eq_getElem hl)
  exact ⟨c.there, n⟩
theorem RSt.fresh {ι : List Addr} {F H : Hp} {st : Store} (S : RSt T ι F H st) {p : Addr} (hp : H p = none) : p ∉ ι := fun m => (S.there m).1 hp
theorem Same.upd {H : Hp} {p : Addr} {o : HO} (h : H p = none) : Same H (upd H p o) := fun b x e => by
  rw [upd_ne (ne_of_none e h)]
  exact e
/-- a new object beside all -/
theorem RSt.beside {ι : List Addr} {F H : Hp} {st : Store} (S : RSt T ι F H st) {p : Addr} (hp : H p = none) (o : HO) : RSt T ι F (upd H p o) st ∧ Ext0 ι F H ι F (upd H p o) := by
  refine ⟨⟨S.same.trans (Same.upd hp), S.len, S.nd, fun i a c h1 h2 => ?_⟩, ⟨fun _ _ h => h, List.prefix_refl _, fun a o' e _ _ => Same.upd hp a o' e, fun _ _ _ => rfl, fun _ m n => absurd m n, fun a e => ?_⟩⟩
  · obtain ⟨n, q⟩ := S.cell i a c h1 h2
    exact ⟨n, q.mono (fun _ _ h => h) (List.prefix_refl _) fun o' e => Same.upd hp a o' e⟩
  · by_cases h : a = p
    · rw [h, upd_same]; exact fun w => nomatch w
    · rw [upd_ne h]; exact e
/-- it is never changed again -/
theorem RSt.freeze {ι : List Addr} {F H : Hp} {st : Store} (S : RSt T ι F H st) {p : Addr} {o : HO} (hp : H p = some o) (hn : p ∉ ι) (hf : F p = none) : RSt T ι (upd F p o) H st := by
  refine ⟨fun b x e => ?_, S.len, S.nd, fun i a c h1 h2 => ?_⟩
  · by_cases h : b = p
    · rw [h, upd_same] at e
      cases e
      rw [h]; exact hp
    · rw [upd_ne h] at e
      exact S.same _ _ e
  · obtain ⟨n, q⟩ := S.cell i a c h1 h2
    have ha : a ≠ p := fun z => hn (by rw [← z]; exact List.mem_of_getElem? h1)
    exact ⟨by rw [upd_ne ha]; exact n, q.mono (Same.upd hf) (List.prefix_refl _) fun _ e => e⟩
theorem Ext.freeze {X : Addr → Prop} {ι0 ι : List Addr} {F0 H0 F H : Hp} (e : Ext X ι0 F0 H0 ι F H) {p : Addr} {o : HO} (h0 : H0 p = none ∨ X p) (hf : F p = none) : Ext X ι0 F0 H0 ι (upd F p o) H where
  fr := e.fr.trans (Same.upd hf)
  io := e.io
  kp := e.kp
  fz := fun a n x => by
    have ha : a ≠ p := fun z => by
      subst z
      rcases h0 with h0 | h0
      · exact n h0
      · exact x h0
    rw [upd_ne ha]
    exact e.fz a n x
  nw := e.nw
  th := e.th
/-- a new cell -/
theorem RSt.toCell {ι : List Addr} {F H : Hp} {st : Store} (S : RSt T ι F H st) {p : Addr} {c : Cell} (hn : p ∉ ι) (hf : F p = none) (hc : CellAt T H F ι p c) : RSt T (ι ++ [p]) F H (st ++ [c]) := by
  refine ⟨S.same, by simp [S.len], ?_, fun i a d h1 h2 => ?_⟩
  · rw [List.nodup_append]
    exact ⟨S.nd, by simp, fun a ha b hb => by
      have e : b = p := by simpa using hb
      subst e
      exact fun z => hn (by rw [← z]; exact ha)⟩
  · by_cases h : i < ι.length
    · rw [List.getElem?_append_left h] at h1
      rw [List.getElem?_append_left (by rw [← S.len]; exact h)] at h2
      obtain ⟨n, q⟩ := S.cell i a d h1 h2
      exact ⟨n, q.mono (fun _ _ h => h) (List.prefix_append _ _) fun _ e => e⟩
    · have hi : i = ι.length := by
        have := (List.getElem?_eq_some_iff.mp h1).1
        simp at this
        omega
      subst hi
      rw [List.getElem?_append_right (Nat.le_refl _)] at h1
      rw [List.getElem?_append_right (by rw [S.len]; exact Nat.le_refl _)] at h2
      simp at h1
      rw [S.len] at h2
      simp at h2
      subst h1 h2
      exact ⟨hf, hc.mono (fun _ _ h => h) (List.prefix_append _ _) fun _ e => e⟩
theorem Ext.toCell {X : Addr → Prop} {ι0 ι : List Addr} {F0 H0 F H : Hp} (e : Ext X ι0 F0 H0 ι F H) {p : Addr} (h0 : H0 p = none) : Ext X ι0 F0 H0 (ι ++ [p]) F H where
  fr := e.fr
  io := e.io.trans (List.prefix_append _ _)
  kp := e.kp
  fz := e.fz
  nw := fun a m n => by
    rcases List.mem_append.mp m with m | m
    · exact e.nw a m n
    · have z : a = p := by simpa using m
      rw [z]; exact h0
  th := e.th
/-- a cell is changed -/
theorem RSt.write {ι : List Addr} {F H : Hp} {st : Store} (S : RSt T ι F H st) {n : Nat} {a : Addr} {o : HO} {c : Cell} (ha : ι[n]? = some a) (hc : CellAt T (upd H a o) F ι a c) : RSt T ι F (upd H a o) (putCell st n c) ∧ Ext0 ι F H ι F (upd H a o) := by
  have hm : a ∈ ι := List.mem_of_getElem? ha
  obtain ⟨ht, hf⟩ := S.there hm
  refine ⟨⟨fun b x e => ?_, by unfold putCell; rw [List.length_set]; exact S.len, S.nd, fun i b d h1 h2 => ?_⟩, ⟨fun _ _ h => h, List.prefix_refl _, fun b x e hb _ => ?_, fun _ _ _ => rfl, fun _ m k => absurd m k, fun b e => ?_⟩⟩
  · have hb : b ≠ a := fun z => by rw [z, hf] at e; cases e
    rw [upd_ne hb]
    exact S.same _ _ e
  · by_cases h : i = n
    · subst h
      have e1 : b = a := Option.some.inj (h1.symm.trans ha)
      subst e1
      unfold putCell at h2
      have hl : i < st.length := by rw [← S.len]; exact (List.getElem?_eq_some_iff.mp ha).1
      rw [List.getElem?_set_self hl] at h2
      cases h2
      exact ⟨hf, hc⟩
    · unfold putCell at h2
      rw [List.getElem?_set_ne (Ne.symm h)] at h2
      obtain ⟨q1, q2⟩ := S.cell i b d h1 h2
      have hb : b ≠ a := fun z => by
        subst z
        obtain ⟨l1, e1⟩ := List.getElem?_eq_some_iff.mp h1
        obtain ⟨l2, e2⟩ := List.getElem?_eq_some_iff.mp ha
        exact h ((List.getElem_inj S.nd).mp (e1.trans e2.symm))
      exact ⟨q1, q2.mono (fun _ _ h => h) (List.prefix_refl _) fun o' e => by rw [upd_ne hb]; exact e⟩
  · have hb' : b ≠ a := fun z => hb (by rw [z]; exact hm)
    rw [upd_ne hb']
    exact e
  · by_cases h : b = a
    · rw [h, upd_same]; exact fun w => nomatch w
    · rw [upd_ne h]; exact e
/-- a new tuple -/
theorem RSt.tup {ι : List Addr} {F H : Hp} {st : Store} (S : RSt T ι F H st) {p : Addr} {vs : List V} {ds : List D} (hp : H p = none) (r : RepL T F ι vs ds) (z : ds.length ≤ sizeLine) :
    Ext0 ι F H ι (upd F p (.tup vs)) (upd H p (.tup vs)) ∧ RSt T ι (upd F p (.tup vs)) (upd H p (.tup vs)) st ∧ Rep T (upd F p (.tup vs)) ι (.ref p) (.tup ds) := by
  obtain ⟨S1, e1⟩ := S.beside hp (.tup vs)
  have hf : F p = none := nf S.same hp
  exact ⟨e1.freeze (.inl hp) hf, S1.freeze upd_same (S.fresh hp) hf, .tup (.inl (.inl upd_same)) (r.mono (Same.upd hf) (List.prefix_refl _)) z⟩
/-- a new list, a value -/
theorem RSt.lst {ι : List Addr} {F H : Hp} {st : Store} (S : RSt T ι F H st) {p : Addr} {vs : List V} {ds : List D} (hp : H p = none) (r : RepL T F ι vs ds) (z : ds.length ≤ sizeLine) :
    Ext0 ι F H ι (upd F p (.lst vs)) (upd H p (.lst vs)) ∧ RSt T ι (upd F p (.lst vs)) (upd H p (.lst vs)) st ∧ Rep T (upd F p (.lst vs)) ι (.ref p) (.lst ds) := by
  obtain ⟨S1, e1⟩ := S.beside hp (.lst vs)
  have hf : F p = none := nf S.same hp
  exact ⟨e1.freeze (.inl hp) hf, S1.freeze upd_same (S.fresh hp) hf, .lst upd_same (r.mono (Same.upd hf) (List.prefix_refl _)) z⟩

/-! ### a list's content, value or cell -/
inductive RepW (T : Kt) (H F : Hp) (ι : List Addr) : V → D → Prop
  | of {v : V} {d : D} : Rep T F ι v d → RepW T H F ι v d
  | lst {a : Addr} {vs : List V} {ds : List D} : H a = some (.lst vs) → RepL T F ι vs ds → ds.length ≤ sizeLine → RepW T H F ι (.ref a) (.lst ds)
theorem RSt.view {ι : List Addr} {F H : Hp} {st : Store} (S : RSt T ι F H st) {v : V} {d : D} (r : Rep T F ι v d) : RepW T H F ι v (view st d) := by
  cases r with
  | ref h =>
    rename_i a n
    cases e : st[n]? with
    | none =>
      have ev : B.view st (.ref n) = .ref n := by simp [B.view, e]
      rw [ev]
      exact .of (.ref h)
    | some c =>
      obtain ⟨_, q⟩ := S.cell n a c h e
      cases c with
      | lst ds =>
        have ev : B.view st (.ref n) = .lst ds := by simp [B.view, e]
        rw [ev]
        obtain ⟨vs, e1, r1, z⟩ := q
        exact .lst e1 r1 z
      | dict kvs =>
        have ev : B.view st (.ref n) = .ref n := by simp [B.view, e]
        rw [ev]
        exact .of (.ref h)
      | ins c fs =>
        have ev : B.view st (.ref n) = .ref n := by simp [B.view, e]
        rw [ev]
        exact .of (.ref h)
  | non => exact .of .non
  | bl b => exact .of (.bl b)
  | int i => exact .of (.int i)
  | str s => exact .of (.str s)
  | tup a b c => exact .of (.tup a b c)
  | lst a b c => exact .of (.lst a b c)
  | scr a b => exact .of (.scr a b)
theorem RepW.lst' {H F : Hp} {ι : List Addr} {v : V} {ds : List D} (s : Same F H) (r : RepW T H F ι v (.lst ds)) : ∃ a vs, v = .ref a ∧ H a = some (.lst vs) ∧ RepL T F ι vs ds ∧ ds.length ≤ sizeLine := by
  cases r with
  | of r => cases r with
    | lst h r z => exact ⟨_, _, rfl, s _ _ h, r, z⟩
  | lst h r z => exact ⟨_, _, rfl, h, r, z⟩
theorem RepW.tup' {H F : Hp} {ι : List Addr} {v : V} {ds : List D} (s : Same F H) (r : RepW T H F ι v (.tup ds)) : ∃ a vs, v = .ref a ∧ SqT T.K H a vs ∧ RepL T F ι vs ds ∧ ds.length ≤ sizeLine := by
  cases r with
  | of r => cases r with
    | tup h r z => exact ⟨_, _, rfl, Same.seqT s h, r, z⟩
theorem RepW.seq' {H F : Hp} {ι : List Addr} {st : Store} (S : RSt T ι F H st) {v : V} {d : D} {ds : List D} (r : Rep T F ι v d) (e : seqOf st d = some ds) :
    ∃ a vs, v = .ref a ∧ (SqL T.K H a vs ∨ SqT T.K H a vs) ∧ RepL T F ι vs ds ∧ ds.length ≤ sizeLine := by
  have w := S.view r
  unfold seqOf at e
  split at e
  · rename_i xs h
    cases e
    rw [h] at w
    obtain ⟨a, vs, e1, e2, e3⟩ := w.lst' S.same
    exact ⟨a, vs, e1, .inl (SqL.of e2), e3⟩
  · rename_i xs h
    cases e
    rw [h] at w
    obtain ⟨a, vs, e1, e2, e3⟩ := w.tup' S.same
    exact ⟨a, vs, e1, .inr e2, e3⟩
  · cases e
theorem RepW.list' {H F : Hp} {ι : List Addr} {st : Store} (S : RSt T ι F H st) {v : V} {d : D} {ds : List D} (r : Rep T F ι v d) (e : listOf st d = some ds) :
    ∃ a vs, v = .ref a ∧ H a = some (.lst vs) ∧ RepL T F ι vs ds ∧ ds.length ≤ sizeLine := by
  have w := S.view r
  unfold listOf at e
  split at e
  · rename_i xs h
    cases e
    rw [h] at w
    exact w.lst' S.same
  · cases e
/-- flat data -/
def fV : D → V
  | .non => .non | .bl b => .bl b | .int i => .int i | .str s => .str s | _ => .non
theorem Rep.flat {F : Hp} {ι : List Addr} {v : V} {d : D} (r : Rep T F ι v d) (h : flat d = true) : v = fV d ∧ flatV v = true := by
  cases r <;> first | exact ⟨rfl, rfl⟩ | cases h
theorem RepL.flat {F : Hp} {ι : List Addr} : ∀ {vs : List V} {ds : List D}, RepL T F ι vs ds → ds.all flat = true → vs = ds.map fV ∧ vs.all flatV = true
  | _, _, .nil, _ => ⟨rfl, rfl⟩
  | _, _, .cons r t, h => by
    simp only [List.all_cons, Bool.and_eq_true] at h
    obtain ⟨e1, f1⟩ := Rep.flat r h.1
    obtain ⟨e2, f2⟩ := RepL.flat t h.2
    exact ⟨by simp [e1, ← e2], by simp [f1, f2]⟩
theorem eqV_fV : ∀ {x y : D}, flat x = true → flat y = true → eqV (fV y) (fV x) = eqv y x := by
  intro x y hx hy
  cases x <;> cases y <;> first | (cases hx; done) | (cases hy; done) | skip
  all_goals simp [fV, eqV, eqv]
theorem RepL.ints {F : Hp} {ι : List Addr} : ∀ {vs : List V} {ds : List D} {ns : List Int}, RepL T F ι vs ds → intsOf ds = some ns → vs = ns.map V.int
  | _, _, _, .nil, h => by cases h; rfl
  | _, _, _, .cons (d := d) (ds := ds) r t, h => by
    cases r <;> try (cases h)
    rename_i i
    unfold intsOf at h
    cases e : intsOf ds with
    | none => rw [e] at h; cases h
    | some ms =>
      rw [e] at h
      cases h
      rw [RepL.ints t e]
      rfl
theorem RepL.bls {F : Hp} {ι : List Addr} : ∀ {vs : List V} {ds : List D} {ns : List Bool}, RepL T F ι vs ds → blsOf ds = some ns → vs = ns.map V.bl
  | _, _, _, .nil, h => by cases h; rfl
  | _, _, _, .cons (d := d) (ds := ds) r t, h => by
    cases r <;> try (cases h)
    rename_i i
    unfold blsOf at h
    cases e : blsOf ds with
    | none => rw [e] at h; cases h
    | some ms =>
      rw [e] at h
      cases h
      rw [RepL.bls t e]
      rfl

/-! ### plain data as the library's data -/
theorem depthAll_le {n : Nat} : ∀ xs : List D, (∀ x ∈ xs, (toPd x).depth ≤ n) → PyData.depthAll (toPdL xs) ≤ n
  | [], _ => Nat.zero_le _
  | x :: xs, h => by
    show max (toPd x).depth (PyData.depthAll (toPdL xs)) ≤ n
    exact Nat.max_le.mpr ⟨h x List.mem_cons_self, depthAll_le xs fun y hy => h y (List.mem_cons_of_mem _ hy)⟩
theorem canAll_of : ∀ xs : List D, (∀ x ∈ xs, (toPd x).canLay0 = true) → PyData.canLayAll0 (toPdL xs) = true
  | [], _ => rfl
  | x :: xs, h => by
    show ((toPd x).canLay0 && PyData.canLayAll0 (toPdL xs)) = true
    rw [h x List.mem_cons_self, canAll_of xs fun y hy => h y (List.mem_cons_of_mem _ hy)]
    rfl
theorem eqOk_shape : ∀ (n : Nat) (d : D), eqOk n d = true → (toPd d).canLay0 = true ∧ (toPd d).depth ≤ n
  | n, .non, _ => ⟨rfl, Nat.zero_le _⟩
  | n, .bl _, _ => ⟨rfl, Nat.zero_le _⟩
  | n, .int _, _ => ⟨rfl, Nat.zero_le _⟩
  | n, .str s, h => ⟨by cases n <;> exact h, Nat.zero_le _⟩
  | 0, .tup xs, h => by cases h
  | n + 1, .tup xs, h => by
    have h' : ∀ x ∈ xs, eqOk n x = true := List.all_eq_true.mp h
    exact ⟨canAll_of xs fun x hx => (eqOk_shape n x (h' x hx)).1, Nat.succ_le_succ (depthAll_le xs fun x hx => (eqOk_shape n x (h' x hx)).2)⟩
  | 0, .lst xs, h => by cases h
  | n + 1, .lst xs, h => by
    have h' : ∀ x ∈ xs, eqOk n x = true := List.all_eq_true.mp h
    exact ⟨canAll_of xs fun x hx => (eqOk_shape n x (h' x hx)).1, Nat.succ_le_succ (depthAll_le xs fun x hx => (eqOk_shape n x (h' x hx)).2)⟩
  | n, .scr _, h => by cases n <;> cases h
  | n, .ref _, h => by cases n <;> cases h
  | n, .exc _, h => by cases n <;> cases h
theorem eqOk_shaped {d : D} (h : eqOk 60 d = true) : SeqAt.shaped (toPd d) = true := by
  obtain ⟨h1, h2⟩ := eqOk_shape 60 d h
  unfold SeqAt.shaped
  rw [h1, decide_eq_true (Nat.le_trans h2 (by decide))]
  rfl
theorem eqv_pd : ∀ (n m : Nat) (a b : D), eqOk n a = true → eqOk m b = true → eqv a b = PyData.eqv (toPd a) (toPd b) := by
  intro n
  induction n with
  | zero =>
    intro m a b ha hb
    cases a <;> first | cases ha | skip
    all_goals (cases b <;> first | (cases m <;> cases hb; done) | simp [eqv, toPd, PyData.eqv])
  | succ n ih =>
    intro m a b ha hb
    have all : ∀ (k : Nat) (xs ys : List D), (∀ x ∈ xs, eqOk n x = true) → (∀ y ∈ ys, eqOk k y = true) → eqvL xs ys = PyData.eqvAll (toPdL xs) (toPdL ys) := by
      intro k xs
      induction xs with
      | nil => intro ys _ _; cases ys <;> simp [eqvL, toPdL, PyData.eqvAll]
      | cons x xs ihx =>
        intro ys hx hy
        cases ys with
        | nil => simp [eqvL, toPdL, PyData.eqvAll]
        | cons y ys =>
          simp only [eqvL, toPdL, PyData.eqvAll]
          rw [ih k x y (hx x List.mem_cons_self) (hy y List.mem_cons_self), ihx ys (fun z hz => hx z (List.mem_cons_of_mem _ hz)) fun z hz => hy z (List.mem_cons_of_mem _ hz)]
    cases a with
    | scr _ => cases ha
    | ref _ => cases ha
    | exc _ => cases ha
    | tup xs =>
      cases b <;> first | (cases m <;> cases hb; done) | (simp only [eqv, toPd, PyData.eqv]; done) | skip
      rename_i ys
      cases m with
      | zero => cases hb
      | succ m => simp only [eqv, toPd, PyData.eqv]; exact all m xs ys (List.all_eq_true.mp ha) (List.all_eq_true.mp hb)
    | lst xs =>
      cases b <;> first | (cases m <;> cases hb; done) | (simp only [eqv, toPd, PyData.eqv]; done) | skip
      rename_i ys
      cases m with
      | zero => cases hb
      | succ m => simp only [eqv, toPd, PyData.eqv]; exact all m xs ys (List.all_eq_true.mp ha) (List.all_eq_true.mp hb)
    | non => cases b <;> first | (cases m <;> cases hb; done) | simp [eqv, toPd, PyData.eqv]
    | bl _ => cases b <;> first | (cases m <;> cases hb; done) | simp [eqv, toPd, PyData.eqv]
    | int _ => cases b <;> first | (cases m <;> cases hb; done) | simp [eqv, toPd, PyData.eqv]
    | str _ => cases b <;> first | (cases m <;> cases hb; done) | simp [eqv, toPd, PyData.eqv]
mutual
theorem Rep.dp {H F : Hp} {ι : List Addr} (s : Same F H) : ∀ {v : V} {d : D} {n : Nat}, Rep T F ι v d → eqOk n d = true → Dp T.K H v (toPd d)
  | _, _, _, .non, _ => .non
  | _, _, _, .bl b, _ => .bl b
  | _, _, _, .int i, _ => .int i
  | _, _, _, .str x, _ => .str x
  | _, _, 0, .tup _ _ _, h => by cases h
  | _, _, n + 1, .tup h r _, k => .tup (Same.seqT s h) (RepL.dp s r k)
  | _, _, 0, .lst _ _ _, h => by cases h
  | _, _, n + 1, .lst h r _, k => .lst (SqL.of (s _ _ h)) (RepL.dp s r k)
  | _, _, n, .scr _ _, k => by cases n <;> cases k
  | _, _, n, .ref _, k => by cases n <;> cases k
theorem RepL.dp {H F : Hp} {ι : List Addr} (s : Same F H) : ∀ {vs : List V} {ds : List D} {n : Nat}, RepL T F ι vs ds → ds.all (eqOk n) = true → DpAll T.K H vs (toPdL ds)
  | _, _, _, .nil, _ => .nil
  | _, _, n, .cons r t, k => by
    simp only [List.all_cons, Bool.and_eq_true] at k
    exact .cons (Rep.dp s r k.1) (RepL.dp s t k.2)
end
theorem RepW.dp {H F : Hp} {ι : List Addr} (s : Same F H) {v : V} {d : D} (r : RepW T H F ι v d) (h : eqOk 60 d = true) : Dp T.K H v (toPd d) := by
  cases r with
  | of r => exact r.dp s h
  | lst e r z => exact .lst (SqL.of e) (RepL.dp (n := 59) s r h)

theorem RepL.rep {F : Hp} {ι : List Addr} {vs : List V} {ds : List D} (r : RepL T F ι vs ds) : ∀ n : Nat, RepL T F ι (List.replicate n vs).flatten (List.replicate n ds).flatten
  | 0 => .nil
  | n + 1 => by
    rw [List.replicate_succ, List.replicate_succ, List.flatten_cons, List.flatten_cons]
    exact r.append (RepL.rep r n)
/-! ### operators by the values -/
def rV2 (T : Kt) (g : Store → D → D → Option D) : R2 := fun v u H Q => ∃ ι F st x y d, RSt T ι F H st ∧ Rep T F ι v x ∧ Rep T F ι u y ∧ g st x y = some d ∧
  ∀ ι' F' H' w, Ext0 ι F H ι' F' H' → RSt T ι' F' H' st → Rep T F' ι' w d → Q w H'
section
variable {X : Cx}
theorem b_add (hK : X.K = T.K) : OpR X (binaryOp .Add) (rV2 T fun _ => binD .add) := by
  intro pins s σ H x y v u Q I rx ry h
  obtain ⟨ι, F, st, a, b, d, S, ra, rb, e, q⟩ := h
  cases a <;> cases b <;> simp only [binD] at e <;> try (cases e; done)
  · cases ra; cases rb
    cases e
    exact op_add pins s σ H _ _ v u Q I rx ry ⟨_, _, rfl, rfl, q _ _ _ _ Ext.refl S (.int _)⟩
  · cases ra; cases rb
    split at e
    · rename_i z
      cases e
      exact op_add_str pins s σ H _ _ v u Q I rx ry ⟨_, _, rfl, rfl, z, q _ _ _ _ Ext.refl S (.str _)⟩
    · cases e
  · cases ra with
    | tup h1 r1 z1 => cases rb with
      | tup h2 r2 z2 =>
        split at e
        · rename_i z
          cases e
          have l1 := r1.length
          have l2 := r2.length
          refine op_catA pins s σ H _ _ v u Q I rx ry ⟨_, _, _, _, rfl, rfl, by rw [hK]; exact Same.seqT S.same h1, by rw [hK]; exact Same.seqT S.same h2, by omega, fun en => ?_, fun nn en => ?_, fun n1 n2 p hp => ?_⟩
          · subst en
            cases r1
            exact q _ _ _ _ Ext.refl S (.tup h2 r2 z2)
          · subst en
            cases r2
            rw [List.append_nil] at q
            exact q _ _ _ _ Ext.refl S (.tup h1 r1 z1)
          · obtain ⟨e1, S1, r⟩ := S.tup hp (r1.append r2) (by rw [List.length_append]; exact z)
            exact q _ _ _ _ e1 S1 r
        · cases e
theorem b_sub : OpR X (binaryOp .Sub) (rV2 T fun _ => binD .sub) := by
  intro pins s σ H x y v u Q I rx ry h
  obtain ⟨ι, F, st, a, b, d, S, ra, rb, e, q⟩ := h
  cases a <;> cases b <;> simp only [binD] at e <;> try (cases e; done)
  cases ra; cases rb
  cases e
  exact op_sub pins s σ H _ _ v u Q I rx ry ⟨_, _, rfl, rfl, q _ _ _ _ Ext.refl S (.int _)⟩
theorem b_mul (hK : X.K = T.K) : OpR X (binaryOp .Mult) (rV2 T fun _ => binD .mul) := by
  intro pins s σ H x y v u Q I rx ry h
  obtain ⟨ι, F, st, a, b, d, S, ra, rb, e, q⟩ := h
  cases a <;> cases b <;> simp only [binD] at e <;> try (cases e; done)
  rotate_left
  · cases ra with
    | tup h1 r1 z1 =>
      cases rb
      split at e
      · rename_i z
        cases e
        obtain ⟨k1, k2, k3, k4⟩ := z
        have l1 := r1.length
        refine op_repA pins s σ H _ _ v u Q I rx ry ⟨_, _, _, rfl, rfl, by rw [hK]; exact Same.seqT S.same h1, fun en => ?_, k1, k2, by omega, fun ek => ?_, fun ek p hp => ?_⟩
        · subst en
          cases r1
          exact k3 rfl
        · subst ek
          have e1 : ∀ l : List D, (List.replicate (1 : Int).toNat l).flatten = l := fun l => by
            show (List.replicate 1 l).flatten = l
            simp
          rw [e1] at q
          exact q _ _ _ _ Ext.refl S (.tup h1 r1 z1)
        · obtain ⟨e1, S1, r⟩ := S.tup hp (RepL.rep r1 _) (by
            rw [PyProof.Rows.lm_len_rep_flat, sizeLine_eq]
            have a1 := Nat.mul_le_mul (Int.toNat_le.mpr (show _ ≤ ((1000 : Nat) : Int) from k2)) k4
            exact Nat.le_trans a1 (by decide))
          exact q _ _ _ _ e1 S1 r
      · cases e
  cases ra; cases rb
  split at e
  · rename_i z
    cases e
    refine op_mul pins s σ H _ _ v u Q I rx ry ⟨_, _, rfl, rfl, ?_, q _ _ _ _ Ext.refl S (.int _)⟩
    unfold mulOk at z
    simp only [Bool.or_eq_true, decide_eq_true_eq] at z
    exact z.elim (fun z => .inl ⟨by omega, by omega⟩) (fun z => .inr ⟨by omega, by omega⟩)
  · cases e
theorem b_mod : OpR X (binaryOp .Mod) (rV2 T fun _ => binD .mod) := by
  intro pins s σ H x y v u Q I rx ry h
  obtain ⟨ι, F, st, a, b, d, S, ra, rb, e, q⟩ := h
  cases a <;> cases b <;> simp only [binD] at e <;> try (cases e; done)
  cases ra; cases rb
  split at e
  · rename_i z
    cases e
    exact op_mod pins s σ H _ _ v u Q I rx ry ⟨_, _, rfl, rfl, z, q _ _ _ _ Ext.refl S (.int _)⟩
  · cases e
theorem b_fdiv : OpR X (binaryOp .FloorDiv) (rV2 T fun _ => binD .fdiv) := by
  intro pins s σ H x y v u Q I rx ry h
  obtain ⟨ι, F, st, a, b, d, S, ra, rb, e, q⟩ := h
  cases a <;> cases b <;> simp only [binD] at e <;> try (cases e; done)
  cases ra; cases rb
  split at e
  · rename_i z
    cases e
    exact op_fdiv pins s σ H _ _ v u Q I rx ry ⟨_, _, rfl, rfl, ⟨z.1, by omega⟩, q _ _ _ _ Ext.refl S (.int _)⟩
  · cases e
theorem b_pow : OpR X (binaryOp .Pow) (rV2 T fun _ => binD .pow) := by
  intro pins s σ H x y v u Q I rx ry h
  obtain ⟨ι, F, st, a, b, d, S, ra, rb, e, q⟩ := h
  cases a <;> cases b <;> simp only [binD] at e <;> try (cases e; done)
  cases ra; cases rb
  split at e
  · rename_i z
    cases e
    exact op_pow pins s σ H _ _ v u Q I rx ry ⟨_, _, rfl, rfl, z, q _ _ _ _ Ext.refl S (.int _)⟩
  · cases e
def gC (o : Cop) : Store → D → D → Option D := fun st x y => (cmpD o st x y).map .bl
/-- == and != -/
theorem b_eq (hK : X.K = T.K) (hu : X.A.units + 64 < cLine) : OpR X (compareOp .Eq) (rV2 T (gC .eq)) := by
  intro pins s σ H x y v u Q I rx ry h
  obtain ⟨ι, F, st, a, b, d, S, ra, rb, e, q⟩ := h
  obtain ⟨k, e', rfl⟩ := Option.map_eq_some_iff.mp e
  have wa := S.view ra
  have wb := S.view rb
  replace e : eqD (view st a) (view st b) = some k := e'
  generalize view st a = a' at wa e
  generalize view st b = b' at wb e
  have gen : eqOk 60 a' = true → eqOk 60 b' = true → eqv a' b' = k → wpAny (model X.prog X.w) X.A (compareOp .Eq v u) (EP X pins σ Q) X.xe s := fun h1 h2 h3 => by
    refine op_eqD hu pins s σ H _ _ v u Q I rx ry ⟨toPd a', toPd b', ?_, ?_, eqOk_shaped h1, eqOk_shaped h2, ?_⟩
    · rw [hK]; exact wa.dp S.same h1
    · rw [hK]; exact wb.dp S.same h2
    · rw [← eqv_pd 60 60 a' b' h1 h2, h3]
      exact q _ _ _ _ Ext.refl S (.bl _)
  unfold eqD at e
  split at e
  · cases e
    cases wa with | of wa => cases wb with | of wb =>
    cases wa; cases wb
    refine op_eq pins s σ H _ _ v u Q I rx ry ⟨rfl, ?_⟩
    have z := q _ _ _ _ Ext.refl S (.bl _)
    rename_i x' y'
    have ed : decide (V.str x' = V.str y') = decide (x' = y') := by
      rw [Bool.eq_iff_iff]; simp
    rw [ed]; exact z
  · split at e
    · rename_i z
      rw [Bool.and_eq_true] at z
      exact gen z.1 z.2 (Option.some.inj e)
    · cases e
theorem b_ne (hK : X.K = T.K) (hu : X.A.units + 64 < cLine) : OpR X (compareOp .NotEq) (rV2 T (gC .ne)) := by
  intro pins s σ H x y v u Q I rx ry h
  obtain ⟨ι, F, st, a, b, d, S, ra, rb, e, q⟩ := h
  obtain ⟨k, e', rfl⟩ := Option.map_eq_some_iff.mp e
  have wa := S.view ra
  have wb := S.view rb
  replace e : (eqD (view st a) (view st b)).map (!·) = some k := e'
  obtain ⟨k', e3, rfl⟩ := Option.map_eq_some_iff.mp e
  clear e e'
  have e := e3
  clear e3
  generalize view st a = a' at wa e
  generalize view st b = b' at wb e
  have gen : eqOk 60 a' = true → eqOk 60 b' = true → eqv a' b' = k' → wpAny (model X.prog X.w) X.A (compareOp .NotEq v u) (EP X pins σ Q) X.xe s := fun h1 h2 h3 => by
    refine op_neD hu pins s σ H _ _ v u Q I rx ry ⟨toPd a', toPd b', ?_, ?_, eqOk_shaped h1, eqOk_shaped h2, ?_⟩
    · rw [hK]; exact wa.dp S.same h1
    · rw [hK]; exact wb.dp S.same h2
    · rw [← eqv_pd 60 60 a' b' h1 h2, h3]
      exact q _ _ _ _ Ext.refl S (.bl _)
  unfold eqD at e
  split at e
  · cases e
    cases wa with | of wa => cases wb with | of wb =>
    cases wa; cases wb
    refine op_ne pins s σ H _ _ v u Q I rx ry ⟨rfl, ?_⟩
    have z := q _ _ _ _ Ext.refl S (.bl _)
    rename_i x' y'
    have ed : decide (V.str x' = V.str y') = decide (x' = y') := by
      rw [Bool.eq_iff_iff]; simp
    rw [ed]; exact z
  · split at e
    · rename_i z
      rw [Bool.and_eq_true] at z
      exact gen z.1 z.2 (Option.some.inj e)
    · cases e
end
end B

set_option Elab.async false
set_option linter.all false
set_option maxRecDepth 100000
set_option maxHeartbeats 4000000
namespace B
set_option autoImplicit false
open PySem PySem.Spec L2
open PyProof.Rows hiding St
variable {T : Kt} {X : Cx}

theorem b_lt : OpR X (compareOp .Lt) (rV2 T (gC .lt)) := by
  intro pins s σ H x y v u Q I rx ry h
  obtain ⟨ι, F, st, a, b, d, S, ra, rb, e, q⟩ := h
  obtain ⟨k, e', rfl⟩ := Option.map_eq_some_iff.mp e
  clear e
  cases a <;> cases b <;> simp only [cmpD] at e' <;> try (cases e'; done)
  · cases e'
    cases ra; cases rb
    exact op_lt pins s σ H _ _ v u Q I rx ry ⟨_, _, rfl, rfl, q _ _ _ _ Ext.refl S (.bl _)⟩
  · cases e'
    cases ra; cases rb
    exact op_lt_str pins s σ H _ _ v u Q I rx ry ⟨_, _, rfl, rfl, q _ _ _ _ Ext.refl S (.bl _)⟩
theorem b_le : OpR X (compareOp .LtE) (rV2 T (gC .le)) := by
  intro pins s σ H x y v u Q I rx ry h
  obtain ⟨ι, F, st, a, b, d, S, ra, rb, e, q⟩ := h
  obtain ⟨k, e', rfl⟩ := Option.map_eq_some_iff.mp e
  clear e
  cases a <;> cases b <;> simp only [cmpD] at e' <;> try (cases e'; done)
  · cases e'
    cases ra; cases rb
    exact op_le pins s σ H _ _ v u Q I rx ry ⟨_, _, rfl, rfl, q _ _ _ _ Ext.refl S (.bl _)⟩
  · cases e'
    cases ra; cases rb
    exact op_le_str pins s σ H _ _ v u Q I rx ry ⟨_, _, rfl, rfl, q _ _ _ _ Ext.refl S (.bl _)⟩
theorem b_gt : OpR X (compareOp .Gt) (rV2 T (gC .gt)) := by
  intro pins s σ H x y v u Q I rx ry h
  obtain ⟨ι, F, st, a, b, d, S, ra, rb, e, q⟩ := h
  obtain ⟨k, e', rfl⟩ := Option.map_eq_some_iff.mp e
  clear e
  cases a <;> cases b <;> simp only [cmpD] at e' <;> try (cases e'; done)
  cases e'
  cases ra; cases rb
  exact op_gt pins s σ H _ _ v u Q I rx ry ⟨_, _, rfl, rfl, q _ _ _ _ Ext.refl S (.bl _)⟩
theorem b_ge : OpR X (compareOp .GtE) (rV2 T (gC .ge)) := by
  intro pins s σ H x y v u Q I rx ry h
  obtain ⟨ι, F, st, a, b, d, S, ra, rb, e, q⟩ := h
  obtain ⟨k, e', rfl⟩ := Option.map_eq_some_iff.mp e
  clear e
  cases a <;> cases b <;> simp only [cmpD] at e' <;> try (cases e'; done)
  cases e'
  cases ra; cases rb
  exact op_ge pins s σ H _ _ v u Q I rx ry ⟨_, _, rfl, rfl, q _ _ _ _ Ext.refl S (.bl _)⟩
theorem Rep.non_iff {F : Hp} {ι : List Addr} {v : V} {d : D} (r : Rep T F ι v d) : decide (v = .non) = decide (d = .non) := by
  cases r <;> simp
theorem b_is : OpR X (compareOp .Is) (rV2 T (gC .is)) := by
  intro pins s σ H x y v u Q I rx ry h
  obtain ⟨ι, F, st, a, b, d, S, ra, rb, e, q⟩ := h
  obtain ⟨k, e', rfl⟩ := Option.map_eq_some_iff.mp e
  clear e
  cases b <;> simp only [cmpD] at e' <;> try (cases e'; done)
  · cases e'
    cases rb
    refine op_isN pins s σ H _ _ v u Q I rx ry ⟨rfl, ?_⟩
    rw [ra.non_iff]
    exact q _ _ _ _ Ext.refl S (.bl _)
  · cases a <;> simp only at e' <;> try (cases e'; done)
    cases e'
    cases ra; cases rb
    exact op_is_bl pins s σ H _ _ v u Q I rx ry ⟨_, _, rfl, rfl, q _ _ _ _ Ext.refl S (.bl _)⟩
theorem b_isn : OpR X (compareOp .IsNot) (rV2 T (gC .isn)) := by
  intro pins s σ H x y v u Q I rx ry h
  obtain ⟨ι, F, st, a, b, d, S, ra, rb, e, q⟩ := h
  obtain ⟨k, e', rfl⟩ := Option.map_eq_some_iff.mp e
  clear e
  cases b <;> simp only [cmpD] at e' <;> try (cases e'; done)
  · cases e'
    cases rb
    refine op_notN pins s σ H _ _ v u Q I rx ry ⟨rfl, ?_⟩
    rw [ra.non_iff]
    exact q _ _ _ _ Ext.refl S (.bl _)
  · cases a <;> simp only at e' <;> try (cases e'; done)
    cases e'
    cases ra; cases rb
    exact op_isnot_bl pins s σ H _ _ v u Q I rx ry ⟨_, _, rfl, rfl, q _ _ _ _ Ext.refl S (.bl _)⟩
theorem inV_eq {F : Hp} {ι : List Addr} {v : V} {d : D} {vs : List V} {ds : List D} (r : Rep T F ι v d) (rs : RepL T F ι vs ds) (h : flat d = true) (hs : ds.all flat = true) : inV v vs = ds.any fun y => eqv y d := by
  have e1 := (r.flat h).1
  have e2 := (rs.flat hs).1
  subst e1 e2
  unfold inV
  rw [List.any_map]
  clear rs
  induction ds with
  | nil => rfl
  | cons z zs ih =>
    simp only [List.all_cons, Bool.and_eq_true] at hs
    simp only [List.any_cons, Function.comp]
    rw [ih hs.2, eqV_fV h hs.1]
theorem inD_cases {st : Store} {ι : List Addr} {F H : Hp} {v u : V} {a b : D} {k : Bool} (S : RSt T ι F H st) (ra : Rep T F ι v a) (rb : Rep T F ι u b) (e : inD a (view st b) = some k) :
    (∃ x y, v = .str x ∧ u = .str y ∧ x.length = 1 ∧ k = decide ((x.cps.getD 0 0) ∈ y.cps.toList)) ∨
      ∃ p vs, u = .ref p ∧ (SqL T.K H p vs ∨ SqT T.K H p vs) ∧ flatV v = true ∧ vs.all flatV = true ∧ inV v vs = k := by
  have wb := S.view rb
  generalize view st b = b' at wb e
  have seq : ∀ (ys : List D) (p : Addr) (vs : List V), RepL T F ι vs ys → (SqL T.K H p vs ∨ SqT T.K H p vs) → u = .ref p → (if flat a && ys.all flat then some (ys.any fun y => eqv y a) else none) = some k →
      ∃ p vs, u = .ref p ∧ (SqL T.K H p vs ∨ SqT T.K H p vs) ∧ flatV v = true ∧ vs.all flatV = true ∧ inV v vs = k := fun ys p vs r hs hu e => by
    split at e
    · rename_i z
      rw [Bool.and_eq_true] at z
      exact ⟨p, vs, hu, hs, (ra.flat z.1).2, (r.flat z.2).2, by rw [inV_eq ra r z.1 z.2]; exact Option.some.inj e⟩
    · cases e
  cases b' with
  | str y =>
    cases wb with | of wb =>
    cases wb
    cases a <;> simp only [inD] at e <;> try (cases e; done)
    cases ra
    split at e
    · rename_i z
      exact .inl ⟨_, _, rfl, rfl, z, (Option.some.inj e).symm⟩
    · cases e
  | tup ys =>
    obtain ⟨p, vs, hu, hs, r, _⟩ := wb.tup' S.same
    have e2 : (if flat a && ys.all flat then some (ys.any fun y => eqv y a) else none) = some k := by cases a <;> exact e
    exact .inr (seq ys p vs r (.inr hs) hu e2)
  | lst ys =>
    obtain ⟨p, vs, hu, hs, r, _⟩ := wb.lst' S.same
    have e2 : (if flat a && ys.all flat then some (ys.any fun y => eqv y a) else none) = some k := by cases a <;> exact e
    exact .inr (seq ys p vs r (.inl (SqL.of hs)) hu e2)
  | non => cases a <;> cases e
  | bl _ => cases a <;> cases e
  | int _ => cases a <;> cases e
  | scr _ => cases a <;> cases e
  | ref _ => cases a <;> cases e
  | exc _ => cases a <;> cases e
theorem one_sign {x : Str} (h : x.length = 1) : x = ⟨#[x.cps.getD 0 0]⟩ := by
  obtain ⟨⟨l⟩⟩ := x
  match l, h with
  | [c], _ => rfl
theorem b_in (hK : X.K = T.K) : OpR X (compareOp .In) (rV2 T (gC .inn)) := by
  intro pins s σ H x y v u Q I rx ry h
  obtain ⟨ι, F, st, a, b, d, S, ra, rb, e, q⟩ := h
  obtain ⟨k, e', rfl⟩ := Option.map_eq_some_iff.mp e
  replace e' : inD a (view st b) = some k := e'
  have q' := q _ _ _ _ Ext.refl S (.bl _)
  rcases inD_cases S ra rb e' with ⟨x', y', rfl, rfl, hl, rfl⟩ | ⟨p, vs, rfl, hs, f1, f2, rfl⟩
  · refine op_in_sign pins s σ H _ _ v u Q I rx ry ⟨_, _, by rw [← one_sign hl], rfl, q'⟩
  · exact op_in_seq pins s σ H _ _ v u Q I rx ry ⟨p, vs, rfl, by rw [hK]; exact hs, f1, f2, by simpa using q'⟩
theorem b_nin (hK : X.K = T.K) : OpR X (compareOp .NotIn) (rV2 T (gC .nin)) := by
  intro pins s σ H x y v u Q I rx ry h
  obtain ⟨ι, F, st, a, b, d, S, ra, rb, e, q⟩ := h
  obtain ⟨k, e', rfl⟩ := Option.map_eq_some_iff.mp e
  replace e' : (inD a (view st b)).map (!·) = some k := e'
  obtain ⟨k', e3, rfl⟩ := Option.map_eq_some_iff.mp e'
  have q' := q _ _ _ _ Ext.refl S (.bl _)
  rcases inD_cases S ra rb e3 with ⟨x', y', rfl, rfl, hl, rfl⟩ | ⟨p, vs, rfl, hs, f1, f2, rfl⟩
  · refine op_notIn_sign pins s σ H _ _ v u Q I rx ry ⟨_, _, by rw [← one_sign hl], rfl, q'⟩
  · exact op_notIn_seq pins s σ H _ _ v u Q I rx ry ⟨p, vs, rfl, by rw [hK]; exact hs, f1, f2, by simpa using q'⟩
def copOf : Cop → CmpOp
  | .eq => .Eq | .ne => .NotEq | .lt => .Lt | .le => .LtE | .gt => .Gt | .ge => .GtE | .is => .Is | .isn => .IsNot | .inn => .In | .nin => .NotIn
def bopOf : Bop → Operator
  | .add => .Add | .sub => .Sub | .mul => .Mult | .mod => .Mod | .fdiv => .FloorDiv | .pow => .Pow
theorem b_cmp (hK : X.K = T.K) (hu : X.A.units + 64 < cLine) (o : Cop) : OpR X (compareOp (copOf o)) (rV2 T (gC o)) := by
  cases o
  · exact b_eq hK hu
  · exact b_ne hK hu
  · exact b_lt
  · exact b_le
  · exact b_gt
  · exact b_ge
  · exact b_is
  · exact b_isn
  · exact b_in hK
  · exact b_nin hK
theorem b_bin (hK : X.K = T.K) (o : Bop) : OpR X (binaryOp (bopOf o)) (rV2 T fun _ => binD o) := by
  cases o
  · exact b_add hK
  · exact b_sub
  · exact b_mul hK
  · exact b_mod
  · exact b_fdiv
  · exact b_pow

/-! ### truth -/
theorem tru_D {H F : Hp} {ι : List Addr} {st : Store} (S : RSt T ι F H st) {v : V} {d : D} {k : Bool} (r : Rep T F ι v d) (e : truD st d = some k) : TruV T.K v H k := by
  cases r with
  | non => cases e; rfl
  | bl b => cases e; rfl
  | int i => cases e; rfl
  | str x =>
    replace e : (if x.length ≤ sizeLine then some (x.length != 0) else none) = some k := e
    split at e
    · rename_i z
      refine ⟨z, ?_⟩
      rw [← Option.some.inj e]
      cases x.length <;> rfl
    · cases e
  | tup h r z =>
    cases e
    refine .inr (.inl ⟨_, Same.seqT S.same h, ?_⟩)
    cases r <;> rfl
  | lst h r z =>
    cases e
    refine .inl ⟨_, SqL.of (S.same _ _ h), ?_⟩
    cases r <;> rfl
  | scr h z => cases e
  | ref h =>
    rename_i a n
    replace e : (match st[n]? with
      | some (.lst xs) => some (!xs.isEmpty)
      | _ => none) = some k := e
    cases e1 : st[n]? with
    | none => rw [e1] at e; cases e
    | some c =>
      rw [e1] at e
      cases c with
      | lst ds =>
        cases e
        obtain ⟨_, vs, e2, r, _⟩ := S.cell n a _ h e1
        refine .inl ⟨vs, SqL.of e2, ?_⟩
        cases r <;> rfl
      | dict _ => cases e
      | ins _ _ => cases e

/-! ### subscripts -/
theorem atI_rep {F : Hp} {ι : List Addr} {vs : List V} {ds : List D} {i : Int} {d : D} (r : RepL T F ι vs ds) (e : atD ds i = some d) : ∃ v, atI vs i = some v ∧ Rep T F ι v d := by
  unfold atD at e
  unfold atI at e ⊢
  rw [r.length]
  cases e1 : ixN ds.length i with
  | none => rw [e1] at e; cases e
  | some j =>
    rw [e1] at e
    exact r.get e
theorem b_idx (hK : X.K = T.K) (hu : X.A.units + 1 < cLine) : IxR X (rV2 T idxD) := by
  intro value slice pins s σ H x y v u Q I rx ry h hs
  obtain ⟨ι, F, st, a, b, d, S, ra, rb, e, q⟩ := h
  cases b <;> simp only [idxD] at e <;> try (cases e; done)
  · cases rb
    rename_i i
    have wa := S.view ra
    generalize view st a = a' at wa e
    cases a' <;> simp only at e <;> try (cases e; done)
    · rename_i z
      cases wa with | of wa =>
      cases wa
      split at e
      · rename_i hl
        obtain ⟨c, e1, rfl⟩ := Option.map_eq_some_iff.mp e
        exact ix_str value slice pins s σ H _ _ v u Q I rx ry ⟨z, i, c, rfl, rfl, hl, e1, q _ _ _ _ Ext.refl S (.str _)⟩ hs
      · cases e
    · obtain ⟨p, vs, rfl, hp, r, _⟩ := wa.tup' S.same
      obtain ⟨w, e1, rw'⟩ := atI_rep r e
      exact ix_tup value slice pins s σ H _ _ v u Q I rx ry ⟨p, vs, i, w, rfl, rfl, by rw [hK]; exact hp, e1, q _ _ _ _ Ext.refl S rw'⟩ hs
    · obtain ⟨p, vs, rfl, hp, r, _⟩ := wa.lst' S.same
      obtain ⟨w, e1, rw'⟩ := atI_rep r e
      exact ix_list value slice pins s σ H _ _ v u Q I rx ry ⟨p, vs, i, w, rfl, rfl, by rw [hK]; exact SqL.of hp, e1, q _ _ _ _ Ext.refl S rw'⟩ hs
    · rename_i ns
      cases wa with | of wa =>
      cases wa with
      | scr hq z =>
        obtain ⟨m, e1, rfl⟩ := Option.map_eq_some_iff.mp e
        have e2 : atI (ns.map V.int) i = some (.int m) := by
          unfold atI at e1 ⊢
          rw [List.length_map]
          cases e3 : ixN ns.length i with
          | none => rw [e3] at e1; cases e1
          | some j =>
            rw [e3] at e1
            simp only [Option.bind_some] at e1 ⊢
            rw [List.getElem?_map, e1]
            rfl
        exact ix_list value slice pins s σ H _ _ v u Q I rx ry ⟨_, _, i, _, rfl, rfl, by rw [hK]; exact S.same.seq hq, e2, q _ _ _ _ Ext.refl S (.int _)⟩ hs
  · cases rb
    rename_i k
    cases a <;> simp only at e <;> try (cases e; done)
    rename_i n
    cases ra with
    | ref hr =>
      rename_i p
      cases e1 : st[n]? with
      | none => rw [e1] at e; cases e
      | some c =>
        rw [e1] at e
        cases c with
        | lst _ => cases e
        | ins _ _ => cases e
        | dict kvs =>
          replace e : getK kvs k = some d := e
          obtain ⟨_, ws, e2, r⟩ := S.cell n p _ hr e1
          rcases r.val (k := k) with ⟨z, _⟩ | ⟨w, d', z1, z2, rd⟩
          · rw [z] at e; cases e
          · rw [z1] at e
            cases e
            have g : DGet H p (.str k) (some w) := by
              have := DGet.k (k := (Sum.inr k : Key)) e2
              rw [z2] at this
              exact this
            cases rx
            refine tail_any (dict_typeIs I g) PySem.F.slot_dict_getitem.lookup (d_getItem hu I g ry fun w' s3 I3 rw' => ⟨w, H, I3, rw', q _ _ _ _ Ext.refl S rd⟩) hs
end B

set_option Elab.async false
set_option linter.all false
set_option maxRecDepth 100000
set_option maxHeartbeats 4000000
namespace B
set_option autoImplicit false
open PySem PySem.Spec L2
open PyProof.Rows hiding St

/-! ### shapes of the text -/
def plain : Expr → Bool
  | .Set _ _ _ => false
  | .Starred _ _ => false
  | .Slice _ _ _ _ => false
  | .Call (.Name _ _) [] [] _ => false
  | _ => true
def noComp : Expr → Bool
  | .ListComp _ _ _ _ => false
  | .SetComp _ _ _ _ => false
  | .DictComp _ _ _ _ _ => false
  | _ => true
def bareTest : Expr → Bool
  | .Name _ _ => true
  | .Call _ _ _ _ => true
  | .Attribute _ _ _ => true
  | .Subscript _ _ _ => true
  | .Constant _ _ _ => true
  | _ => false
section
variable {env : Env} {e o it b : Expr} {es : List Expr}
theorem star_cons (h : plain e = true) : starEach (e :: es) env = (false, eval e env) :: starEach es env := by
  cases e <;> first | rfl | cases h
theorem star_any {pos : Pos} : ∀ {es : List Expr}, (∀ e ∈ es, plain e = true) → (backTo pos (starEach es env)).any (·.1) = false
  | [], _ => rfl
  | e :: es, h => by
    rw [star_cons (h e List.mem_cons_self)]
    show (false || (backTo pos (starEach es env)).any (·.1)) = false
    rw [star_any (fun x hx => h x (List.mem_cons_of_mem _ hx))]
    rfl
theorem star_all {pos : Pos} : ∀ {es : List Expr}, (∀ e ∈ es, plain e = true) → (backTo pos (starEach es env)).all (fun x => !x.1) = true
  | [], _ => rfl
  | e :: es, h => by
    rw [star_cons (h e List.mem_cons_self)]
    show (true && (backTo pos (starEach es env)).all (fun x => !x.1)) = true
    rw [star_all (fun x hx => h x (List.mem_cons_of_mem _ hx))]
    rfl
theorem base_eq {attr : Str} (h : plain o = true) : attributeBase o attr env (eval o env) = eval o env := by
  unfold attributeBase
  split
  · cases h
  · rfl
theorem fold_eq (h : plain it = true) (x : Value) : foldedSetIterable it env x = pure x := by
  cases it <;> first | rfl | cases h
theorem ix_eq (h : plain b = true) : PlainIx b := fun o i => by
  cases b <;> first | rfl | cases h
theorem behind_eq {op : CmpOp} (h : plain b = true) : behindInMarks op b = false := by
  cases b <;> first | rfl | cases h
theorem swaps_eq {t : Option Expr} {l : Nat} (h : noComp e = true) : swapsWith e t l env = pure false := by
  cases e <;> first | rfl | cases h
theorem swaps_fl {a i : Expr} {f : Str} {p : Pos} {l : Nat} : swapsWith e (some (.Attribute a f p)) l env = pure false := by
  cases e <;> rfl
theorem swaps_sb {a i : Expr} {p : Pos} {l : Nat} : swapsWith e (some (.Subscript a i p)) l env = pure false := by
  cases e <;> rfl
theorem swaps_tp {ts : List Expr} {k : Nat} {p : Pos} {l : Nat} : swapsWith e (some (.Tuple ts k p)) l env = pure false := by
  cases e <;> rfl
theorem test_eq (h : bareTest e = true) (whole : Sem Value) : isTrue e env whole = (do let v ← whole; standAt e.pos; holding [v] (truthy v)) := by
  cases e <;> first | rfl | cases h
theorem meth_eq {m : Str} {apos pos : Pos} (ho : plain o = true) (hs : ∀ e ∈ es, plain e = true) (hn : es.length < 29) (hp : (apos.endLine == pos.line) = true) :
    eval (.Call (.Attribute o m apos) es [] pos) env = (do
      let ov ← eval o env
      standAt apos.atName
      let (f, first) ← holding [ov] (getMethod ov m (do return (← importBound o env).getD true))
      callWith pos f first (backTo pos (starEach es env)) (backToKw pos (keywordEach [] env))) := by
  have hf : methodCallForm (es.length + ([] : List Keyword).length) (backTo pos (starEach es env)) (backToKw pos (keywordEach [] env)) = true := by
    unfold methodCallForm
    rw [star_all hs]
    simp [backToKw, keywordEach]
    omega
  have e1 : eval (.Call (.Attribute o m apos) es [] pos) env = (do
      let ov ← attributeBase o m env (eval o env)
      standAt apos.atName
      methodCall o m apos pos env ov (es.length + ([] : List Keyword).length) (backTo pos (starEach es env)) (backToKw pos (keywordEach [] env))) := by rfl
  rw [e1, base_eq ho]
  unfold methodCall methodCallPos calleeOf
  rw [hf]
  simp only [Bool.not_true, Bool.false_or, hp, if_true]
  rfl
end
end B

set_option Elab.async false
set_option linter.all false
set_option maxRecDepth 100000
set_option maxHeartbeats 4000000
namespace B
set_option autoImplicit false
open PySem PySem.Spec L2
open PyProof.Rows hiding St
variable {T : Kt} {X : Cx}

/-! ### what is walked -/
def Steps (T : Kt) (ι : List Addr) (F : Hp) (J : L2.It) (p : Items) : Prop :=
  ∀ (i : Nat) (ι' : List Addr) (F' H' : Hp) (st' : Store), Same F F' → ι <+: ι' → RSt T ι' F' H' st' → p.2 st' = true →
    (∀ d, p.1[i]? = some d → J.go i H' ∧ ∀ x H'', J.yld i H' x H'' → ∃ F'', Ext0 ι' F' H' ι' F'' H'' ∧ RSt T ι' F'' H'' st' ∧ Rep T F'' ι' x d) ∧ (p.1.length ≤ i → J.stop i H')
abbrev rI (T : Kt) : Rel L2.It Items := fun _ ι F _ J p => Steps T ι F J p ∧ p.1.length ≤ sizeLine
theorem an_I : Anti (rI T) := fun _ _ _ _ _ _ _ _ q => q
abbrev tIt (T : Kt) (W : WX) (f : Slots → Store → R Items) : TI := tM T (rI T) W f
theorem PI.imp {tg e : Expr} {t t' : TI} (h : PI X tg e t) (i : ∀ σ H Q, t' σ H Q → t σ H Q) : PI X tg e t' := ⟨fun pins s σ H Q I q => h.run pins s σ H Q I (i σ H Q q)⟩
def iAny (K : PySem.W.Frag) (tl : TE) : TI := fun σ H R => tl σ H fun x H1 => (∃ a xs, x = .ref a ∧ SqL K H1 a xs ∧ R (Itl K a) H1) ∨ (∃ a xs, x = .ref a ∧ SqT K H1 a xs ∧ R (Itt K a) H1) ∨ ∃ z, x = .str z ∧ R (Its z) H1
theorem pi_any {tg l : Expr} {tl : TE} (hl : PE X l tl) : PI X tg l (iAny X.K tl) := by
  refine ⟨fun pins s σ H R I h => ?_⟩
  refine thn (hl.run pins s σ H _ I h) fun v s1 ⟨x, H1, I1, r1, q1⟩ => ?_
  have fp : ∀ b ∈ [s1.heap.objs.size], FpOk X pins H1 b := fun b hb => by
    have e : b = s1.heap.objs.size := by simpa using hb
    subst e
    exact I1.fpOk (Nat.le_refl _) (I1.hok.fresh (Nat.le_refl _))
  rcases q1 with ⟨a, xs, e, hq, q⟩ | ⟨a, xs, e, hq, q⟩ | ⟨z, e, q⟩
  · subst e
    cases r1
    obtain ⟨its, rv, p, hz⟩ := I1.list hq
    refine wpAny_pyIter_list p.isList ?_
    exact ⟨s1.heap.objs.size, [s1.heap.objs.size], _, _, H1, rfl, I1.kept (t' := s1.toks) fun b o e => Heap.get?_push_of_some _ e, turn_list a _, ⟨_, Heap.get?_push_size _ rfl, rfl, rfl⟩, fp, q⟩
  · subst e
    cases r1
    obtain ⟨its, rv, p, hz⟩ := I1.tuple hq
    refine wpAny_pyIter_tuple (show s1.heap.IsTuple a its.toArray from p) ?_
    exact ⟨s1.heap.objs.size, [s1.heap.objs.size], _, _, H1, rfl, I1.kept (t' := s1.toks) fun b o e => Heap.get?_push_of_some _ e, turn_tuple a _, ⟨_, Heap.get?_push_size _ rfl, rfl, rfl⟩, fp, q⟩
  · subst e
    obtain ⟨t, rfl⟩ := r1
    cases ha : z.cps.all (· < 128)
    · exact wpAny_pyIter_wide ha (pi_one (tk := s1.toks) I1 _ (turn_str _ z t "str_iterator" (.inr rfl)) ⟨_, Heap.get?_push_size _ rfl, rfl, rfl⟩ q)
    · exact wpAny_pyIter_ascii ha (pi_one (tk := s1.toks) I1 _ (turn_str _ z t "str_ascii_iterator" (.inl rfl)) ⟨_, Heap.get?_push_size _ rfl, rfl, rfl⟩ q)
theorem repL_at {F : Hp} {ι : List Addr} {vs : List V} {ds : List D} (r : RepL T F ι vs ds) {i : Nat} {x : V} {d : D} (hx : vs[i]? = some x) (hd : ds[i]? = some d) : Rep T F ι x d := by
  obtain ⟨v, e, q⟩ := r.get hd
  rw [hx] at e
  cases e
  exact q
theorem srcOk_at {ι : List Addr} {F H : Hp} {st : Store} (S : RSt T ι F H st) {v : V} {d : D} {xs : List D} (r : Rep T F ι v d) (e : itemsOf st d = some xs) :
    (∃ a vs, v = .ref a ∧ H a = some (.lst vs) ∧ RepL T F ι vs xs ∧ ∀ (ι' : List Addr) (F' H' : Hp) (st' : Store), Same F F' → ι <+: ι' → RSt T ι' F' H' st' → srcOk st' d xs = true → ∃ vs', H' a = some (.lst vs') ∧ RepL T F' ι' vs' xs) ∨
    (∃ a vs, v = .ref a ∧ SqT T.K H a vs ∧ RepL T F ι vs xs ∧ ∀ (F' H' : Hp), Same F F' → Same F' H' → SqT T.K H' a vs) ∨ ∃ z, v = .str z ∧ d = .str z ∧ xs = signs z := by
  cases r with
  | tup h r z =>
    cases e
    exact .inr (.inl ⟨_, _, rfl, Same.seqT S.same h, r, fun F' H' s1 s2 => Same.seqT (s1.trans s2) h⟩)
  | lst h r z =>
    cases e
    exact .inl ⟨_, _, rfl, S.same _ _ h, r, fun ι' F' H' st' s1 p1 S' _ => ⟨_, S'.same _ _ (s1 _ _ h), r.mono s1 p1⟩⟩
  | str z =>
    replace e : (if z.length ≤ sizeLine then some (signs z) else none) = some xs := e
    split at e
    · cases e; exact .inr (.inr ⟨z, rfl, rfl, rfl⟩)
    · cases e
  | ref h =>
    rename_i a n
    cases e1 : st[n]? with
    | none => simp [itemsOf, view, e1] at e
    | some c =>
      cases c with
      | dict _ => simp [itemsOf, view, e1] at e
      | ins _ _ => simp [itemsOf, view, e1] at e
      | lst ds =>
        simp [itemsOf, view, e1] at e
        subst e
        obtain ⟨_, vs, e2, r, _⟩ := S.cell n a _ h e1
        refine .inl ⟨a, vs, rfl, e2, r, fun ι' F' H' st' s1 p1 S' ok => ?_⟩
        have e3 : st'[n]? = some (.lst ds) := of_decide_eq_true ok
        obtain ⟨_, vs', e4, r', _⟩ := S'.cell n a _ (pre_get p1 h) e3
        exact ⟨vs', e4, r'⟩
  | non => cases e
  | bl _ => cases e
  | int _ => cases e
  | scr _ _ => cases e
theorem items_len {ι : List Addr} {F H : Hp} {st : Store} (S : RSt T ι F H st) {v : V} {d : D} {xs : List D} (r : Rep T F ι v d) (e : itemsOf st d = some xs) : xs.length ≤ sizeLine := by
  have w := S.view r
  unfold itemsOf at e
  split at e
  · rename_i ys h
    cases e
    rw [h] at w
    obtain ⟨_, _, _, _, _, z⟩ := w.lst' S.same
    exact z
  · rename_i ys h
    cases e
    rw [h] at w
    obtain ⟨_, _, _, _, _, z⟩ := w.tup' S.same
    exact z
  · rename_i s h
    split at e
    · rename_i hz
      cases e
      unfold signs
      rw [List.length_map]
      exact hz
    · cases e
  · cases e
theorem signs_get {z : Str} {i : Nat} {d : D} (h : (signs z)[i]? = some d) : ∃ c, z.cps[i]? = some c ∧ d = .str ⟨#[c]⟩ := by
  unfold signs at h
  rw [List.getElem?_map] at h
  cases e : z.cps.toList[i]? with
  | none => rw [e] at h; cases h
  | some c =>
    rw [e] at h
    cases h
    exact ⟨c, by simpa using e, rfl⟩
theorem steps_val {ι : List Addr} {F H : Hp} {st : Store} (S : RSt T ι F H st) {v : V} {d : D} {xs : List D} (r : Rep T F ι v d) (e : itemsOf st d = some xs) :
    (∃ a ys, v = .ref a ∧ SqL T.K H a ys ∧ Steps T ι F (Itl T.K a) (xs, fun st => srcOk st d xs)) ∨ (∃ a ys, v = .ref a ∧ SqT T.K H a ys ∧ Steps T ι F (Itt T.K a) (xs, fun st => srcOk st d xs)) ∨
      ∃ z, v = .str z ∧ Steps T ι F (Its z) (xs, fun st => srcOk st d xs) := by
  rcases srcOk_at S r e with ⟨a, vs, rfl, hv, rl, k⟩ | ⟨a, vs, rfl, hv, rl, k⟩ | ⟨z, rfl, rfl, rfl⟩
  · refine .inl ⟨a, vs, rfl, SqL.of hv, fun i ι' F' H' st' s1 p1 S' ok => ?_⟩
    obtain ⟨vs', h', r'⟩ := k ι' F' H' st' s1 p1 S' ok
    refine ⟨fun dd hd => ?_, fun hi => ⟨vs', SqL.of h', by rw [r'.length]; exact hi⟩⟩
    obtain ⟨x, hx, rx⟩ := r'.get hd
    refine ⟨⟨vs', x, SqL.of h', hx⟩, fun y H'' hy => ?_⟩
    obtain ⟨rfl, f⟩ := hy
    have := f vs' (SqL.of h')
    rw [hx] at this
    cases this
    exact ⟨F', Ext.refl, S', rx⟩
  · refine .inr (.inl ⟨a, vs, rfl, hv, fun i ι' F' H' st' s1 p1 S' ok => ?_⟩)
    have h' := k F' H' s1 S'.same
    have r' := rl.mono s1 p1
    refine ⟨fun dd hd => ?_, fun hi => ⟨vs, h', by rw [r'.length]; exact hi⟩⟩
    obtain ⟨x, hx, rx⟩ := r'.get hd
    refine ⟨⟨vs, x, h', hx⟩, fun y H'' hy => ?_⟩
    obtain ⟨rfl, f⟩ := hy
    have := f vs h'
    rw [hx] at this
    cases this
    exact ⟨F', Ext.refl, S', rx⟩
  · refine .inr (.inr ⟨z, rfl, fun i ι' F' H' st' s1 p1 S' ok => ⟨fun dd hd => ?_, fun hi => ?_⟩⟩)
    · obtain ⟨c, hc, rfl⟩ := signs_get hd
      have hl : i < z.cps.size := (Array.getElem?_eq_some_iff.mp hc).1
      refine ⟨hl, fun y H'' hy => ?_⟩
      obtain ⟨rfl, c', hc', rfl⟩ := hy
      rw [hc] at hc'
      cases hc'
      exact ⟨F', Ext.refl, S', .str _⟩
    · have : (signs z).length = z.cps.size := by simp [signs]
      show z.cps.size ≤ i
      rw [← this]; exact hi
theorem rngL_get {lo : Int} {n i : Nat} {d : D} (h : (rngL lo n)[i]? = some d) : i < n ∧ d = .int (lo + (i : Nat)) := by
  unfold rngL at h
  rw [List.getElem?_map] at h
  by_cases hi : i < n
  · rw [List.getElem?_range hi] at h
    cases h
    exact ⟨hi, rfl⟩
  · rw [List.getElem?_eq_none (by simp; omega)] at h
    cases h
theorem steps_rng {ι : List Addr} {F : Hp} (lo : Int) (n : Nat) : Steps T ι F (Itr lo n) (rngL lo n, fun _ => true) := fun i ι' F' H' st' s1 p1 S' ok =>
  ⟨fun d hd => by
    obtain ⟨hi, rfl⟩ := rngL_get hd
    refine ⟨hi, fun x H'' hy => ?_⟩
    obtain ⟨rfl, rfl⟩ := hy
    exact ⟨F', Ext.refl, S', .int _⟩, fun hi => by
    have : (rngL lo n).length = n := by simp [rngL]
    show n ≤ i
    rw [← this]; exact hi⟩
theorem enumL_get {xs : List D} {i : Nat} {d : D} (h : (enumL xs)[i]? = some d) : ∃ x, xs[i]? = some x ∧ d = .tup [.int (i : Nat), x] := by
  unfold enumL at h
  rw [List.getElem?_map, List.getElem?_zipIdx] at h
  cases e : xs[i]? with
  | none => rw [e] at h; cases h
  | some x =>
    rw [e] at h
    cases h
    exact ⟨x, rfl, by simp⟩
theorem enumL_length (xs : List D) : (enumL xs).length = xs.length := by simp [enumL]
theorem two_line : ([V.non, V.non] : List V).length ≤ sizeLine := by decide
theorem steps_enumL {ι : List Addr} {F : Hp} {a : Addr} {d : D} {xs : List D} (k : ∀ (ι' : List Addr) (F' H' : Hp) (st' : Store), Same F F' → ι <+: ι' → RSt T ι' F' H' st' → srcOk st' d xs = true → ∃ vs', H' a = some (.lst vs') ∧ RepL T F' ι' vs' xs) :
    Steps T ι F (Ite T.K a) (enumL xs, fun st => srcOk st d xs) := fun i ι' F' H' st' s1 p1 S' ok => by
  obtain ⟨vs', h', r'⟩ := k ι' F' H' st' s1 p1 S' ok
  refine ⟨fun dd hd => ?_, fun hi => ⟨vs', SqL.of h', by rw [r'.length, ← enumL_length]; exact hi⟩⟩
  obtain ⟨x, hx, rfl⟩ := enumL_get hd
  obtain ⟨v, hv, rv⟩ := r'.get hx
  refine ⟨⟨vs', v, SqL.of h', hv⟩, fun y H'' hy => ?_⟩
  obtain ⟨p, x', rfl, hp, rfl, f⟩ := hy
  have := f vs' (SqL.of h')
  rw [hv] at this
  cases this
  obtain ⟨e1, S1, r1⟩ := S'.tup hp (.cons (.int _) (.cons rv .nil)) (show 2 ≤ sizeLine by decide)
  exact ⟨_, e1, S1, r1⟩
theorem steps_enumT {ι : List Addr} {F : Hp} {a : Addr} {xs : List D} {vs : List V} (h : ∀ (F' H' : Hp), Same F F' → Same F' H' → SqT T.K H' a vs) (r : RepL T F ι vs xs) {ok : Store → Bool} :
    Steps T ι F (Iet T.K a) (enumL xs, ok) := fun i ι' F' H' st' s1 p1 S' _ => by
  have h' : SqT T.K H' a vs := h _ _ s1 S'.same
  have r' := r.mono s1 p1
  refine ⟨fun dd hd => ?_, fun hi => ⟨vs, h', by rw [r'.length, ← enumL_length]; exact hi⟩⟩
  obtain ⟨x, hx, rfl⟩ := enumL_get hd
  obtain ⟨v, hv, rv⟩ := r'.get hx
  refine ⟨⟨vs, v, h', hv⟩, fun y H'' hy => ?_⟩
  obtain ⟨p, x', rfl, hp, rfl, f⟩ := hy
  have := f vs h'
  rw [hv] at this
  cases this
  obtain ⟨e1, S1, r1⟩ := S'.tup hp (.cons (.int _) (.cons rv .nil)) (show 2 ≤ sizeLine by decide)
  exact ⟨_, e1, S1, r1⟩
theorem steps_enumS {ι : List Addr} {F : Hp} {z : Str} {ok : Store → Bool} : Steps T ι F (Ies z) (enumL (signs z), ok) := fun i ι' F' H' st' s1 p1 S' _ => by
  have hl : (enumL (signs z)).length = z.cps.size := by rw [enumL_length]; simp [signs]
  refine ⟨fun dd hd => ?_, fun hi => by show z.cps.size ≤ i; rw [← hl]; exact hi⟩
  obtain ⟨x, hx, rfl⟩ := enumL_get hd
  unfold signs at hx
  rw [List.getElem?_map] at hx
  cases ec : z.cps.toList[i]? with
  | none => rw [ec] at hx; cases hx
  | some c =>
    rw [ec] at hx
    cases hx
    have hi : i < z.cps.size := by
      have := (List.getElem?_eq_some_iff.mp ec).1
      simpa using this
    refine ⟨hi, fun y H'' hy => ?_⟩
    obtain ⟨p, c', rfl, hp, rfl, f⟩ := hy
    have ec' : z.cps[i]? = some c := by simpa using ec
    rw [ec'] at f
    cases f
    obtain ⟨e1, S1, r1⟩ := S'.tup hp (.cons (.int _) (.cons (.str _) .nil)) (show 2 ≤ sizeLine by decide)
    exact ⟨_, e1, S1, r1⟩
theorem zipL_get {xs ys : List D} {i : Nat} {d : D} (h : (zipL xs ys)[i]? = some d) : ∃ x y, xs[i]? = some x ∧ ys[i]? = some y ∧ d = .tup [x, y] := by
  unfold zipL at h
  rw [List.getElem?_map] at h
  cases e : (xs.zip ys)[i]? with
  | none => rw [e] at h; cases h
  | some p =>
    rw [e] at h
    cases h
    obtain ⟨e1, e2⟩ := List.getElem?_zip_eq_some.mp e
    exact ⟨p.1, p.2, e1, e2, rfl⟩
theorem zipL_length (xs ys : List D) : (zipL xs ys).length = min xs.length ys.length := by simp [zipL]
theorem steps_zipL {ι : List Addr} {F : Hp} {a b : Addr} {xs ys : List D} {vs ws : List V} (h1 : F a = some (.lst vs)) (h2 : F b = some (.lst ws)) (r1 : RepL T F ι vs xs) (r2 : RepL T F ι ws ys) :
    Steps T ι F (Itz T.K a b) (zipL xs ys, fun _ => true) := fun i ι' F' H' st' s1 p1 S' ok => by
  have k1 : SqL T.K H' a vs := SqL.of (S'.same _ _ (s1 _ _ h1))
  have k2 : SqL T.K H' b ws := SqL.of (S'.same _ _ (s1 _ _ h2))
  have q1 := r1.mono s1 p1
  have q2 := r2.mono s1 p1
  refine ⟨fun dd hd => ?_, fun hi => ⟨vs, ws, k1, k2, ?_⟩⟩
  · obtain ⟨x, y, hx, hy, rfl⟩ := zipL_get hd
    obtain ⟨v, hv, rv⟩ := q1.get hx
    obtain ⟨w, hw, rw'⟩ := q2.get hy
    refine ⟨⟨vs, ws, v, w, k1, k2, hv, hw⟩, fun z H'' hz => ?_⟩
    obtain ⟨p, x', y', rfl, hp, rfl, f1, f2⟩ := hz
    have z1 := f1 vs k1
    have z2 := f2 ws k2
    rw [hv] at z1
    rw [hw] at z2
    cases z1
    cases z2
    obtain ⟨e1, S1, r⟩ := S'.tup hp (.cons rv (.cons rw' .nil)) (show 2 ≤ sizeLine by decide)
    exact ⟨_, e1, S1, r⟩
  · have l := zipL_length xs ys
    rw [r1.length, r2.length]
    simp only [l] at hi
    omega
theorem steps_zipT {ι : List Addr} {F : Hp} {a b : Addr} {xs ys : List D} {vs ws : List V} (h1 : SqT T.K F a vs) (h2 : SqT T.K F b ws) (r1 : RepL T F ι vs xs) (r2 : RepL T F ι ws ys) :
    Steps T ι F (RZ.ItzT T.K a b) (zipL xs ys, fun _ => true) := fun i ι' F' H' st' s1 p1 S' ok => by
  have k1 : SqT T.K H' a vs := Same.seqT (s1.trans S'.same) h1
  have k2 : SqT T.K H' b ws := Same.seqT (s1.trans S'.same) h2
  have q1 := r1.mono s1 p1
  have q2 := r2.mono s1 p1
  refine ⟨fun dd hd => ?_, fun hi => ⟨vs, ws, k1, k2, ?_⟩⟩
  · obtain ⟨x, y, hx, hy, rfl⟩ := zipL_get hd
    obtain ⟨v, hv, rv⟩ := q1.get hx
    obtain ⟨w, hw, rw'⟩ := q2.get hy
    refine ⟨⟨vs, ws, v, w, k1, k2, hv, hw⟩, fun z H'' hz => ?_⟩
    obtain ⟨p, x', y', rfl, hp, rfl, f1, f2⟩ := hz
    have z1 := f1 vs k1
    have z2 := f2 ws k2
    rw [hv] at z1
    rw [hw] at z2
    cases z1
    cases z2
    obtain ⟨e1, S1, r⟩ := S'.tup hp (.cons rv (.cons rw' .nil)) (show 2 ≤ sizeLine by decide)
    exact ⟨_, e1, S1, r⟩
  · have l := zipL_length xs ys
    rw [r1.length, r2.length]
    simp only [l] at hi
    omega
end B

set_option Elab.async false
set_option linter.all false
set_option maxRecDepth 100000
set_option maxHeartbeats 4000000
namespace B
set_option autoImplicit false
open PySem PySem.Spec L2
open PyProof.Rows hiding St
variable {T : Kt} {X : Cx}

/-! ### built-in functions by the values -/
def rVB (T : Kt) (b : BI) : List V → Hp → VK → Prop := fun vs H Q => ∃ ι F st ds d, RSt T ι F H st ∧ RepL T F ι vs ds ∧ biD b st ds = some d ∧
  ∀ ι' F' H' w, Ext0 ι F H ι' F' H' → RSt T ι' F' H' st → Rep T F' ι' w d → Q w H'
def biN : BI → Str
  | .len => "len" | .int => "int" | .tuple => "tuple" | .all => "all" | .sum => "sum" | .max2 => "max" | .min2 => "min" | .maxL => "max" | .minL => "min" | .str => "str"
theorem RepL.one {F : Hp} {ι : List Addr} {vs : List V} {d : D} (r : RepL T F ι vs [d]) : ∃ v, vs = [v] ∧ Rep T F ι v d := by
  cases r with | cons r t => cases t; exact ⟨_, rfl, r⟩
theorem RepL.two {F : Hp} {ι : List Addr} {vs : List V} {d e : D} (r : RepL T F ι vs [d, e]) : ∃ v w, vs = [v, w] ∧ Rep T F ι v d ∧ Rep T F ι w e := by
  cases r with | cons r t => cases t with | cons r' t => cases t; exact ⟨_, _, rfl, r, r'⟩
theorem c_len (hK : X.K = T.K) : CallR X (.builtin "len") (rVB T .len) := by
  intro pins s σ H xs us Q I r h
  obtain ⟨ι, F, st, ds, d, S, rl, e, q⟩ := h
  unfold biD at e
  split at e <;> try (cases e; done)
  all_goals try (rename_i z; cases z; done)
  rename_i d0 _
  obtain ⟨v, rfl, rv⟩ := rl.one
  have wv := S.view rv
  generalize view st d0 = d' at wv e
  cases d' <;> simp only at e <;> try (cases e; done)
  · rename_i z
    cases wv with | of wv =>
    cases wv
    split at e
    · rename_i hl
      cases e
      exact call_len_str pins s σ H _ us Q I r ⟨z, rfl, hl, q _ _ _ _ Ext.refl S (.int _)⟩
    · cases e
  · cases e
    obtain ⟨a, vs, rfl, h1, r1, _⟩ := wv.tup' S.same
    refine call_len_seq pins s σ H _ us Q I r ⟨a, vs, rfl, .inr (by rw [hK]; exact h1), ?_⟩
    rw [r1.length]
    exact q _ _ _ _ Ext.refl S (.int _)
  · cases e
    obtain ⟨a, vs, rfl, h1, r1, _⟩ := wv.lst' S.same
    refine call_len_seq pins s σ H _ us Q I r ⟨a, vs, rfl, .inl (SqL.of h1), ?_⟩
    rw [r1.length]
    exact q _ _ _ _ Ext.refl S (.int _)
  · cases e
    cases wv with | of wv =>
    cases wv with
    | scr h1 z =>
      refine call_len_seq pins s σ H _ us Q I r ⟨_, _, rfl, .inl (by rw [hK]; exact S.same.seq h1), ?_⟩
      rw [List.length_map]
      exact q _ _ _ _ Ext.refl S (.int _)
theorem c_int : CallR X (.type "int") (rVB T .int) := by
  intro pins s σ H xs us Q I r h
  obtain ⟨ι, F, st, ds, d, S, rl, e, q⟩ := h
  unfold biD at e
  split at e <;> try (cases e; done)
  all_goals try (rename_i z; cases z; done)
  · obtain ⟨v, rfl, rv⟩ := rl.one
    cases rv
    cases e
    exact call_int1 pins s σ H _ us Q I r (.inl ⟨_, rfl, q _ _ _ _ Ext.refl S (.int _)⟩)
  · obtain ⟨v, rfl, rv⟩ := rl.one
    cases rv
    cases e
    exact call_int1 pins s σ H _ us Q I r (.inr ⟨_, rfl, q _ _ _ _ Ext.refl S (.int _)⟩)
theorem c_tuple (hK : X.K = T.K) : CallR X (.type "tuple") (rVB T .tuple) := by
  intro pins s σ H xs us Q I r h
  obtain ⟨ι, F, st, ds, d, S, rl, e, q⟩ := h
  unfold biD at e
  split at e <;> try (cases e; done)
  all_goals try (rename_i z; cases z; done)
  obtain ⟨v, rfl, rv⟩ := rl.one
  obtain ⟨ys, e1, rfl⟩ := Option.map_eq_some_iff.mp e
  have wv := S.view rv
  unfold seqOf at e1
  split at e1
  · rename_i xs h
    cases e1
    rw [h] at wv
    obtain ⟨a, vs, rfl, h1, r1, z⟩ := wv.lst' S.same
    refine call_tuple_of pins s σ H _ us Q I r ⟨a, vs, rfl, .inl ⟨SqL.of h1, fun p hp => ?_⟩⟩
    obtain ⟨e1, S1, r2⟩ := S.tup hp r1 z
    exact q _ _ _ _ e1 S1 r2
  · rename_i xs h
    cases e1
    rw [h] at wv
    cases wv with | of wv =>
    cases wv with
    | tup h1 r1 z =>
      exact call_tuple_of pins s σ H _ us Q I r ⟨_, _, rfl, .inr ⟨by rw [hK]; exact Same.seqT S.same h1, q _ _ _ _ Ext.refl S (.tup h1 r1 z)⟩⟩
  · cases e1
theorem c_all (hc : X.calm = true) (hK : X.K = T.K) : CallR X (.builtin "all") (rVB T .all) := by
  intro pins s σ H xs us Q I r h
  obtain ⟨ι, F, st, ds, d, S, rl, e, q⟩ := h
  unfold biD at e
  split at e <;> try (cases e; done)
  all_goals try (rename_i z; cases z; done)
  obtain ⟨v, rfl, rv⟩ := rl.one
  split at e
  · rename_i ys hy
    obtain ⟨bs, e1, rfl⟩ := Option.map_eq_some_iff.mp e
    obtain ⟨a, vs, rfl, h1, r1, z⟩ := RepW.list' (H := H) S rv hy
    have ev := r1.bls e1
    subst ev
    exact cr_all hc pins s σ H _ us Q I r ⟨a, bs, rfl, SqL.of h1, q _ _ _ _ Ext.refl S (.bl _)⟩
  · cases e
theorem c_sum (hc : X.calm = true) (hK : X.K = T.K) : CallR X (.builtin "sum") (rVB T .sum) := by
  intro pins s σ H xs us Q I r h
  obtain ⟨ι, F, st, ds, d, S, rl, e, q⟩ := h
  unfold biD at e
  split at e <;> try (cases e; done)
  all_goals try (rename_i z; cases z; done)
  obtain ⟨v, rfl, rv⟩ := rl.one
  split at e
  · rename_i ys hy
    obtain ⟨bs, e1, rfl⟩ := Option.map_eq_some_iff.mp e
    obtain ⟨a, vs, rfl, h1, r1, z⟩ := RepW.list' (H := H) S rv hy
    have ev := r1.ints e1
    subst ev
    exact cr_sum hc pins s σ H _ us Q I r ⟨a, bs, rfl, SqL.of h1, q _ _ _ _ Ext.refl S (.int _)⟩
  · cases e
theorem c_max2 (hc : X.calm = true) : CallR X (.builtin "max") (rVB T .max2) := by
  intro pins s σ H xs us Q I r h
  obtain ⟨ι, F, st, ds, d, S, rl, e, q⟩ := h
  unfold biD at e
  split at e <;> try (cases e; done)
  all_goals try (rename_i z; cases z; done)
  obtain ⟨v, w, rfl, rv, rw'⟩ := rl.two
  cases rv; cases rw'
  cases e
  exact call_max2 hc pins s σ H _ us Q I r ⟨_, _, rfl, q _ _ _ _ Ext.refl S (.int _)⟩
theorem c_min2 (hc : X.calm = true) : CallR X (.builtin "min") (rVB T .min2) := by
  intro pins s σ H xs us Q I r h
  obtain ⟨ι, F, st, ds, d, S, rl, e, q⟩ := h
  unfold biD at e
  split at e <;> try (cases e; done)
  all_goals try (rename_i z; cases z; done)
  obtain ⟨v, w, rfl, rv, rw'⟩ := rl.two
  cases rv; cases rw'
  cases e
  exact call_min2 hc pins s σ H _ us Q I r ⟨_, _, rfl, q _ _ _ _ Ext.refl S (.int _)⟩
theorem maxI_eq {ns : List Int} {m : Int} (hm : m ∈ ns) (hle : ∀ y, y ∈ ns → y ≤ m) : maxI ns = m := by
  have go : ∀ (l : List Int) (a : Int), (l.foldl (fun a b => if b > a then b else a) a ∈ a :: l) ∧ ∀ y ∈ a :: l, y ≤ l.foldl (fun a b => if b > a then b else a) a := by
    intro l
    induction l with
    | nil => intro a; simp
    | cons b l ih =>
      intro a
      rw [List.foldl_cons]
      obtain ⟨h1, h2⟩ := ih (if b > a then b else a)
      constructor
      · rcases List.mem_cons.mp h1 with h | h
        · rw [h]; split <;> simp
        · simp [h]
      · intro y hy
        have h0 := h2 _ List.mem_cons_self
        rcases List.mem_cons.mp hy with rfl | hy
        · refine Int.le_trans ?_ h0
          split <;> omega
        · rcases List.mem_cons.mp hy with rfl | hy
          · refine Int.le_trans ?_ h0
            split <;> omega
          · exact h2 y (List.mem_cons_of_mem _ hy)
  cases ns with
  | nil => cases hm
  | cons a l =>
    obtain ⟨h1, h2⟩ := go l a
    exact Int.le_antisymm (hle _ h1) (h2 m hm)
theorem minI_eq {ns : List Int} {m : Int} (hm : m ∈ ns) (hle : ∀ y, y ∈ ns → m ≤ y) : minI ns = m := by
  have go : ∀ (l : List Int) (a : Int), (l.foldl (fun a b => if b < a then b else a) a ∈ a :: l) ∧ ∀ y ∈ a :: l, l.foldl (fun a b => if b < a then b else a) a ≤ y := by
    intro l
    induction l with
    | nil => intro a; simp
    | cons b l ih =>
      intro a
      rw [List.foldl_cons]
      obtain ⟨h1, h2⟩ := ih (if b < a then b else a)
      constructor
      · rcases List.mem_cons.mp h1 with h | h
        · rw [h]; split <;> simp
        · simp [h]
      · intro y hy
        have h0 := h2 _ List.mem_cons_self
        rcases List.mem_cons.mp hy with rfl | hy
        · refine Int.le_trans h0 ?_
          split <;> omega
        · rcases List.mem_cons.mp hy with rfl | hy
          · refine Int.le_trans h0 ?_
            split <;> omega
          · exact h2 y (List.mem_cons_of_mem _ hy)
  cases ns with
  | nil => cases hm
  | cons a l =>
    obtain ⟨h1, h2⟩ := go l a
    exact Int.le_antisymm (h2 m hm) (hle _ h1)
theorem c_maxL (hc : X.calm = true) (hK : X.K = T.K) : CallR X (.builtin "max") (rVB T .maxL) := by
  intro pins s σ H xs us Q I r h
  obtain ⟨ι, F, st, ds, d, S, rl, e, q⟩ := h
  unfold biD at e
  split at e <;> try (cases e; done)
  all_goals try (rename_i z; cases z; done)
  obtain ⟨v, rfl, rv⟩ := rl.one
  split at e
  · rename_i ys hy
    split at e
    · rename_i n ns e1
      cases e
      obtain ⟨a, vs, rfl, h1, r1, z⟩ := RepW.list' (H := H) S rv hy
      have ev := r1.ints e1
      subst ev
      refine cr_max hc pins s σ H _ us Q I r ⟨a, n :: ns, rfl, SqL.of h1, by simp, fun m hm hle => ?_⟩
      rw [← maxI_eq hm hle]
      exact q _ _ _ _ Ext.refl S (.int _)
    · cases e
  · cases e
theorem c_minL (hc : X.calm = true) (hK : X.K = T.K) : CallR X (.builtin "min") (rVB T .minL) := by
  intro pins s σ H xs us Q I r h
  obtain ⟨ι, F, st, ds, d, S, rl, e, q⟩ := h
  unfold biD at e
  split at e <;> try (cases e; done)
  all_goals try (rename_i z; cases z; done)
  obtain ⟨v, rfl, rv⟩ := rl.one
  split at e
  · rename_i ys hy
    split at e
    · rename_i n ns e1
      cases e
      obtain ⟨a, vs, rfl, h1, r1, z⟩ := RepW.list' (H := H) S rv hy
      have ev := r1.ints e1
      subst ev
      refine cr_min hc pins s σ H _ us Q I r ⟨a, n :: ns, rfl, SqL.of h1, by simp, fun m hm hle => ?_⟩
      rw [← minI_eq hm hle]
      exact q _ _ _ _ Ext.refl S (.int _)
    · cases e
  · cases e
theorem c_none {b : BI} (h : ∀ st ds, biD b st ds = none) {f : Value} : CallR X f (rVB T b) := by
  intro pins s σ H xs us Q I r q
  obtain ⟨ι, F, st, ds, d, S, rl, e, q⟩ := q
  rw [h] at e
  cases e
theorem pe_bi {e : Expr} {es : List Expr} {t : TA} {p pos : Pos} (hc : X.calm = true) (hK : X.K = T.K) (b : BI) (hg : Gl X (biN b)) (hm : X.mg (biN b) = none) (ha : PA X (e :: es) t)
    (he : starEach (e :: es) X.env = (false, eval e X.env) :: starEach es X.env) (hpl : (backTo pos (starEach es X.env)).any (·.1) = false) : PE X (.Call (.Name (biN b) p) (e :: es) [] pos) (tCB (rVB T b) t) := by
  cases b
  · exact pe_callB (c_len hK) hg hm (by decide +kernel) ha (by decide +kernel) (by decide +kernel) he hpl
  · exact pe_callTy c_int hg hm (by decide +kernel) ha (by decide +kernel) (by decide +kernel) he hpl
  · exact pe_callTy (c_tuple hK) hg hm (by decide +kernel) ha (by decide +kernel) (by decide +kernel) he hpl
  · exact pe_callB (c_all hc hK) hg hm (by decide +kernel) ha (by decide +kernel) (by decide +kernel) he hpl
  · exact pe_callB (c_sum hc hK) hg hm (by decide +kernel) ha (by decide +kernel) (by decide +kernel) he hpl
  · exact pe_callB (c_max2 hc) hg hm (by decide +kernel) ha (by decide +kernel) (by decide +kernel) he hpl
  · exact pe_callB (c_min2 hc) hg hm (by decide +kernel) ha (by decide +kernel) (by decide +kernel) he hpl
  · exact pe_callB (c_maxL hc hK) hg hm (by decide +kernel) ha (by decide +kernel) (by decide +kernel) he hpl
  · exact pe_callB (c_minL hc hK) hg hm (by decide +kernel) ha (by decide +kernel) (by decide +kernel) he hpl
  · exact pe_callTy (T := "str") (c_none fun st ds => rfl) hg hm (by decide +kernel) ha (by decide +kernel) (by decide +kernel) he hpl
end B

set_option Elab.async false
set_option linter.all false
set_option maxRecDepth 100000
set_option maxHeartbeats 4000000
namespace B
set_option autoImplicit false
open PySem PySem.Spec L2
open PyProof.Rows hiding St

/-! ### the check that a text is that of an IR -/
structure Tab where
  fns : List (Nat × Str)
  mts : List (Nat × Nat × Str)
  mks : List (Nat × Str)
  flds : List Str
  blt : List Str
  gl : List (Str × D)
  exs : List (Nat × Str)
  ar : List Nat
def visB (sc : Scope) (x : Str) : Bool :=
  match sc.names.lookup x with
  | some .local => true
  | some .cell => true
  | some .free => true
  | _ => false
def locB (sc : Scope) (x : Str) : Bool :=
  match sc.names.lookup x with
  | some .local => true
  | some .cell => true
  | _ => false
def glB (sc : Scope) (x : Str) : Bool :=
  match sc.names.lookup x with
  | some .globalImplicit => true
  | _ => false
def nodb (x : Str) : Bool := !(x == ("__debug__" : Str)) && !(x == ("__classdict__" : Str))
theorem vis_of {sc : Scope} {x : Str} (h : visB sc x = true) : Vis sc x := by
  unfold visB at h
  split at h
  · exact .inl (by assumption)
  · exact .inr (.inl (by assumption))
  · exact .inr (.inr (by assumption))
  · cases h
theorem loc_of {sc : Scope} {x : Str} (h : locB sc x = true) : Loc sc x := by
  unfold locB at h
  split at h
  · exact .inl (by assumption)
  · exact .inr (by assumption)
  · cases h
theorem gl_of {X : Cx} {sc : Scope} {x : Str} (hs : X.env.scope = sc) (h : glB sc x = true) : Gl X x := by
  subst hs
  unfold glB at h
  split at h
  · show X.env.scope.names.lookup x = _
    assumption
  · cases h
theorem nodb_of {x : Str} (h : nodb x = true) : (x == ("__debug__" : Str)) = false ∧ (x == ("__classdict__" : Str)) = false := by
  unfold nodb at h
  simp only [Bool.and_eq_true, Bool.not_eq_true'] at h
  exact h
def conOk : D → Const → Bool
  | .non, .none => true
  | .bl a, .bool b => a == b
  | .int a, .int b => a == b
  | .str a, .str b => decide (a = b)
  | _, _ => false
mutual
/-- the slots that a target fills -/
def Tg.slots : Tg → List Nat
  | .nm i => [i]
  | .tp ts => ts.slots
  | .fl _ _ => []
  | .sb _ _ => []
def Ts.slots : Ts → List Nat
  | .nil => []
  | .cons t ts => t.slots ++ ts.slots
end
mutual
def chkE (tb : Tab) (N : List Str) : Nat → Ex → Scope → Expr → Bool
  | n + 1, .var i, sc, .Name x _ => decide (N[i]? = some x) && visB sc x && nodb x
  | n + 1, .con d, _, .Constant c _ _ => conOk d c
  | n + 1, .glob x d, sc, .Name y _ => decide (x = y) && glB sc y && nodb y && decide ((x, d) ∈ tb.gl)
  | n + 1, .bin o a b, sc, .BinOp x op y _ => decide (op = bopOf o) && chkE tb N n a sc x && chkE tb N n b sc y
  | n + 1, .neg a, sc, .UnaryOp .USub x _ => chkE tb N n a sc x
  | n + 1, .cmp o a b, sc, .Compare x [op] [y] _ => decide (op = copOf o) && plain y && chkE tb N n a sc x && chkE tb N n b sc y
  | n + 1, .chn o o' a b c, sc, .Compare x [op, op'] [y, z] _ => decide (op = copOf o) && decide (op' = copOf o') && plain z && chkE tb N n a sc x && chkE tb N n b sc y && chkE tb N n c sc z
  | n + 1, .and a b, sc, .BoolOp .And (x :: y :: r) p => chkE tb N n a sc x && (match r with
    | [] => chkE tb N n b sc y
    | _ => chkE tb N n b sc (.BoolOp .And (y :: r) p))
  | n + 1, .or a b, sc, .BoolOp .Or (x :: y :: r) p => chkE tb N n a sc x && (match r with
    | [] => chkE tb N n b sc y
    | _ => chkE tb N n b sc (.BoolOp .Or (y :: r) p))
  | n + 1, .not a, sc, .UnaryOp .Not x _ => chkE tb N n a sc x
  | n + 1, .ife c a b, sc, .IfExp x y z _ => chkT tb N n c sc x && chkE tb N n a sc y && chkE tb N n b sc z
  | n + 1, .tup es, sc, .Tuple xs _ _ => decide (xs.length ≤ 1000) && chkEs tb N n es sc xs
  | n + 1, .frz c, sc, a => chkC tb N n c sc a
  | n + 1, .cel c, sc, a => chkC tb N n c sc a
  | n + 1, .idx a b, sc, .Subscript x y _ => plain y && chkE tb N n a sc x && chkE tb N n b sc y
  | n + 1, .slc a lo hi, sc, .Subscript x (.Slice l h none _) _ => chkE tb N n a sc x && chkO tb N n lo sc l && chkO tb N n hi sc h
  | n + 1, .fld a f, sc, .Attribute x g _ => decide (f = g) && decide (f ∈ tb.flds) && plain x && chkE tb N n a sc x
  | n + 1, .call f es, sc, .Call (.Name x _) (y :: ys) [] _ => decide ((f, x) ∈ tb.fns) && glB sc x && nodb x && chkEs tb N n es sc (y :: ys)
  | n + 1, .make f es, sc, .Call (.Name x _) (y :: ys) [] _ => decide ((f, x) ∈ tb.mks) && glB sc x && nodb x && chkEs tb N n es sc (y :: ys)
  | n + 1, .meth f c m o es, sc, .Call (.Attribute x g ap) ys [] p => decide (m = g) && decide ((f, c, m) ∈ tb.mts) && plain x && decide (ys.length < 29) && (ap.endLine == p.line) && chkE tb N n o sc x && chkEs tb N n es sc ys
  | n + 1, .blt b es, sc, .Call (.Name x _) (y :: ys) [] _ => decide (x = biN b) && decide (x ∈ tb.blt) && glB sc x && chkEs tb N n es sc (y :: ys)
  | n + 1, .app o e, sc, .Call (.Attribute x g ap) [y] [] p => decide (g = ("append" : Str)) && plain x && plain y && (ap.endLine == p.line) && chkE tb N n o sc x && chkE tb N n e sc y
  | n + 1, .ext o e, sc, .Call (.Attribute x g ap) [y] [] p => decide (g = ("extend" : Str)) && plain x && plain y && (ap.endLine == p.line) && chkE tb N n o sc x && chkE tb N n e sc y
  | n + 1, .pop o, sc, .Call (.Attribute x g ap) [] [] p => decide (g = ("pop" : Str)) && plain x && (ap.endLine == p.line) && chkE tb N n o sc x
  | n + 1, .olen i, sc, .Call (.Name x _) [.Name y _] [] _ => decide (x = ("len" : Str)) && decide (x ∈ tb.blt) && glB sc x && decide (N[i]? = some y) && visB sc y && nodb y
  | n + 1, .oidx i e, sc, .Subscript (.Name y _) z _ => plain z && decide (N[i]? = some y) && visB sc y && nodb y && chkE tb N n e sc z
  | n + 1, .lset e, sc, .Call (.Name x _) [.Call (.Name y _) [a] [] _] [] _ => decide (x = ("len" : Str)) && decide (x ∈ tb.blt) && glB sc x && decide (y = ("set" : Str)) && decide (y ∈ tb.blt) && glB sc y && plain a && chkE tb N n e sc a
  | n + 1, .dof e, sc, .Call (.Name x _) [y] [] _ => decide (x = ("dict" : Str)) && decide (x ∈ tb.blt) && glB sc x && plain y && chkE tb N n e sc y
  | _, _, _, _ => false
def chkT (tb : Tab) (N : List Str) : Nat → Ex → Scope → Expr → Bool
  | n + 1, .and a b, sc, .BoolOp .And (x :: y :: r) p => chkT tb N n a sc x && (match r with
    | [] => chkT tb N n b sc y
    | _ => chkT tb N n b sc (.BoolOp .And (y :: r) p))
  | n + 1, .or a b, sc, .BoolOp .Or (x :: y :: r) p => chkT tb N n a sc x && (match r with
    | [] => chkT tb N n b sc y
    | _ => chkT tb N n b sc (.BoolOp .Or (y :: r) p))
  | n + 1, .not a, sc, .UnaryOp .Not x _ => chkT tb N n a sc x
  | n + 1, .cmp o a b, sc, .Compare x [op] [y] _ => decide (op = copOf o) && plain y && chkE tb N n a sc x && chkE tb N n b sc y
  | n + 1, .chn o o' a b c, sc, .Compare x [op, op'] [y, z] _ => decide (op = copOf o) && decide (op' = copOf o') && plain z && chkE tb N n a sc x && chkE tb N n b sc y && chkE tb N n c sc z
  | n + 1, .and _ _, _, _ => false
  | n + 1, .or _ _, _, _ => false
  | n + 1, .not _, _, _ => false
  | n + 1, .cmp _ _ _, _, _ => false
  | n + 1, .chn _ _ _ _ _, _, _ => false
  | 0, _, _, _ => false
  | n + 1, e, sc, a => bareTest a && chkE tb N n e sc a
def chkO (tb : Tab) (N : List Str) : Nat → Eo → Scope → Option Expr → Bool
  | n + 1, .none, _, none => true
  | n + 1, .some e, sc, some a => chkE tb N n e sc a
  | _, _, _, _ => false
def chkCo (tb : Tab) (N : List Str) : Nat → Eo → Scope → List Expr → Bool
  | n + 1, .none, _, [] => true
  | n + 1, .some e, sc, [a] => chkT tb N n e sc a
  | _, _, _, _ => false
def chkEs (tb : Tab) (N : List Str) : Nat → Es → Scope → List Expr → Bool
  | n + 1, .nil, _, [] => true
  | n + 1, .cons e es, sc, x :: xs => plain x && chkE tb N n e sc x && chkEs tb N n es sc xs
  | _, _, _, _ => false
def chkC (tb : Tab) (N : List Str) : Nat → Cr → Scope → Expr → Bool
  | n + 1, .disp es, sc, .List xs _ => decide (xs.length ≤ 1000) && chkEs tb N n es sc xs
  | n + 1, .comp elt tg it cond own, sc, .ListComp e [⟨t, i, ifs, 0⟩] sc' _ =>
    decide (∀ j ∈ tg.slots, j ∈ own) && blkC N sc sc' (own.map fun i => (N.getD i Str.empty, i)) && decide (own.all fun i => decide (i < N.length)) && plain i && chkI tb N n it sc t i && chkG tb N n tg sc' t && chkCo tb N n cond sc' ifs && chkE tb N n elt sc' e
  | n + 1, .copy e, sc, .Call (.Name x _) [y] [] _ => decide (x = ("list" : Str)) && decide (x ∈ tb.blt) && glB sc x && plain y && chkE tb N n e sc y
  | n + 1, .cat a b, sc, .BinOp x .Add y _ => chkE tb N n a sc x && chkE tb N n b sc y
  | n + 1, .rev e, sc, .Subscript a (.Slice none none (some (.UnaryOp .USub (.Constant (.int 1) _ _) _)) _) _ => chkE tb N n e sc a
  | n + 1, .sort e, sc, .Call (.Name x _) [a] [] _ => decide (x = ("sorted" : Str)) && decide (x ∈ tb.blt) && glB sc x && plain a && chkE tb N n e sc a
  | n + 1, .srev e, sc, .Call (.Name x _) [a] [⟨some k, .Constant (.bool true) _ _, _⟩] _ => decide (x = ("sorted" : Str)) && decide (x ∈ tb.blt) && glB sc x && plain a && decide (k = ("reverse" : Str)) && chkE tb N n e sc a
  | n + 1, .sset e, sc, .Call (.Name x _) [.Call (.Name y _) [a] [] _] [] _ => decide (x = ("sorted" : Str)) && decide (x ∈ tb.blt) && glB sc x && decide (y = ("set" : Str)) && decide (y ∈ tb.blt) && glB sc y && plain a && chkE tb N n e sc a
  | n + 1, .rep a b, sc, .BinOp x .Mult y _ => chkE tb N n a sc x && chkE tb N n b sc y
  | _, _, _, _ => false
def chkI (tb : Tab) (N : List Str) : Nat → Wk → Scope → Expr → Expr → Bool
  | n + 1, .val e, sc, _, a => chkE tb N n e sc a
  | n + 1, .rng1 e, sc, _, .Call (.Name x _) [y] [] _ => decide (x = ("range" : Str)) && decide (x ∈ tb.blt) && glB sc x && plain y && chkE tb N n e sc y
  | n + 1, .rng2 e f, sc, _, .Call (.Name x _) [y, z] [] _ => decide (x = ("range" : Str)) && decide (x ∈ tb.blt) && glB sc x && plain y && plain z && chkE tb N n e sc y && chkE tb N n f sc z
  | n + 1, .rng3 e f, sc, _, .Call (.Name x _) [y, z, .UnaryOp .USub (.Constant (.int 1) _ _) _] [] _ => decide (x = ("range" : Str)) && decide (x ∈ tb.blt) && glB sc x && plain y && plain z && chkE tb N n e sc y && chkE tb N n f sc z
  | n + 1, .enum e, sc, .Tuple _ _ _, .Call (.Name x _) [y] [] _ => decide (x = ("enumerate" : Str)) && decide (x ∈ tb.blt) && glB sc x && plain y && chkE tb N n e sc y
  | n + 1, .zip e f, sc, .Tuple _ _ _, .Call (.Name x _) [y, z] [] _ => decide (x = ("zip" : Str)) && decide (x ∈ tb.blt) && glB sc x && plain y && plain z && chkE tb N n e sc y && chkE tb N n f sc z
  | _, _, _, _, _ => false
def chkG (tb : Tab) (N : List Str) : Nat → Tg → Scope → Expr → Bool
  | n + 1, .nm i, sc, .Name x _ => decide (N[i]? = some x) && locB sc x
  | n + 1, .tp ts, sc, .Tuple es _ _ => chkGs tb N n ts sc es
  | n + 1, .fl o f, sc, .Attribute x g _ => decide (f = g) && decide (f ∈ tb.flds) && plain x && chkE tb N n o sc x
  | n + 1, .sb o i, sc, .Subscript x y _ => plain x && plain y && chkE tb N n o sc x && chkE tb N n i sc y
  | _, _, _, _ => false
def chkGs (tb : Tab) (N : List Str) : Nat → Ts → Scope → List Expr → Bool
  | n + 1, .nil, _, [] => true
  | n + 1, .cons t ts, sc, x :: xs => plain x && chkG tb N n t sc x && chkGs tb N n ts sc xs
  | _, _, _, _ => false
end
theorem chkEs_plain {tb : Tab} {N : List Str} : ∀ {n : Nat} {es : Es} {sc : Scope} {xs : List Expr}, chkEs tb N n es sc xs = true → ∀ x ∈ xs, plain x = true
  | 0, _, _, _, h, _, _ => by simp [chkEs] at h
  | _ + 1, .nil, _, [], _, _, h => by cases h
  | n + 1, .cons e es, sc, x :: xs, h, y, hy => by
    simp only [chkEs, Bool.and_eq_true] at h
    rcases List.mem_cons.mp hy with rfl | hy
    · exact h.1.1
    · exact chkEs_plain h.2 y hy
  | _ + 1, .nil, _, _ :: _, h, _, _ => by simp [chkEs] at h
  | _ + 1, .cons _ _, _, [], h, _, _ => by simp [chkEs] at h
/-! ### the scope that runs -/
structure ScOk (X : Cx) (sc : Scope) : Prop where
  vis : ∀ x, visB sc x = true → Vis X.env.scope x
  loc : ∀ x, locB sc x = true → Loc X.env.scope x ∧ (X.fn x = true ∨ X.env.scope.names.lookup x = some .local)
  gl : ∀ x, glB sc x = true → Gl X x
  fr : ∀ x, sc.names.lookup x = some .cell ∨ sc.names.lookup x = some .free → X.env.scope.names.lookup x = some .cell ∨ X.env.scope.names.lookup x = some .free
theorem ScOk.of {X : Cx} {sc : Scope} (hs : X.env.scope = sc) (hf : ∀ x, X.fn x = true) : ScOk X sc := by
  subst hs
  exact ⟨fun x h => vis_of h, fun x h => ⟨loc_of h, .inl (hf x)⟩, fun x h => gl_of rfl h, fun x h => h⟩
theorem lookup_free {sc : Scope} : ∀ {names : List (Str × NameKind)} {x : Str}, names.lookup x = some .free →
    ∃ k, (k = .cell ∨ k = .free) ∧ (names.map fun (n, k) => if (k == NameKind.free && sc.kind == .function && sc.names.lookup n == some .cell) then (n, NameKind.cell) else (n, k)).lookup x = some k
  | [], _, h => by simp at h
  | (n, k) :: r, x, h => by
    have ih := @lookup_free sc r x
    show ∃ k', (k' = .cell ∨ k' = .free) ∧ List.lookup x ((if (k == NameKind.free && sc.kind == .function && sc.names.lookup n == some .cell) = true then (n, NameKind.cell) else (n, k)) :: (r.map _)) = some k'
    cases hx : x == n with
    | true =>
      simp only [List.lookup_cons, hx] at h
      cases h
      by_cases c : (NameKind.free == NameKind.free && sc.kind == .function && sc.names.lookup n == some .cell) = true
      · rw [if_pos c]
        exact ⟨.cell, .inl rfl, by simp only [List.lookup_cons, hx]⟩
      · rw [if_neg c]
        exact ⟨.free, .inr rfl, by simp only [List.lookup_cons, hx]⟩
    | false =>
      simp only [List.lookup_cons, hx] at h
      obtain ⟨k', hk, e⟩ := ih h
      by_cases c : (k == NameKind.free && sc.kind == .function && sc.names.lookup n == some .cell) = true
      · rw [if_pos c]
        exact ⟨k', hk, by simp only [List.lookup_cons, hx]; exact e⟩
      · rw [if_neg c]
        exact ⟨k', hk, by simp only [List.lookup_cons, hx]; exact e⟩
theorem ScOk.blk {X : Cx} {s : Shared} {H : Hp} {C : Addr} {cl : List (Str × Addr)} {fp : List Addr} {sc' : Scope} : ScOk (X.blk s H sc' (compEnvC sc' cl C X.env) fp) sc' := by
  have keep : ∀ (x : Str) (k : NameKind), k ≠ .free → sc'.names.lookup x = some k → (compEnvC sc' cl C X.env).scope.names.lookup x = some k := fun x k hk h => lookup_relS_keep (sc := X.env.scope) hk h
  have fr : ∀ (x : Str), sc'.names.lookup x = some .free → (compEnvC sc' cl C X.env).scope.names.lookup x = some .cell ∨ (compEnvC sc' cl C X.env).scope.names.lookup x = some .free := fun x h => by
    obtain ⟨k, hk, e⟩ := lookup_free (sc := X.env.scope) h
    rcases hk with rfl | rfl
    · exact .inl e
    · exact .inr e
  refine ⟨fun x h => ?_, fun x h => ?_, fun x h => ?_, fun x h => ?_⟩
  · rcases vis_of h with h | h | h
    · exact .inl (keep x _ (by decide) h)
    · exact .inr (.inl (keep x _ (by decide) h))
    · rcases fr x h with h | h
      · exact .inr (.inl h)
      · exact .inr (.inr h)
  · rcases loc_of h with h | h
    · exact ⟨.inl (keep x _ (by decide) h), .inr (keep x _ (by decide) h)⟩
    · refine ⟨.inr (keep x _ (by decide) h), .inl ?_⟩
      show (sc'.names.lookup x == some .cell) = true
      rw [h]
      rfl
  · unfold glB at h
    split at h
    · exact keep x _ (by decide) (by assumption)
    · cases h
  · rcases h with h | h
    · exact .inl (keep x _ (by decide) h)
    · exact fr x h
theorem BlkOk.of {X : Cx} {sc sc' : Scope} {N : List Str} {own : List (Str × Nat)} (S : ScOk X sc) (b : BlkOk N sc sc' own) : BlkOk N X.env.scope sc' own :=
  ⟨b.kind, b.uniq, b.ix, fun y hy e => S.fr _ (b.free y hy e), b.own⟩
end B

set_option Elab.async false
set_option linter.all false
set_option maxRecDepth 100000
set_option maxHeartbeats 4000000
namespace B
set_option autoImplicit false
open PySem PySem.Spec L2
open PyProof.Rows hiding St
variable {T : Kt} {X : Cx}

/-- a def's promise -/
def spOf (T : Kt) (φ : List D → Store → R D) (n : Nat) : Sp := fun vs H Q E => vs.length = n ∧ ∃ ι F ds st, RSt T ι F H st ∧ RepL T F ι vs ds ∧ Post T (rD T) (fun c d _ H' => E c d H') [] ι F H (φ ds st) Q
structure Facts (T : Kt) (tb : Tab) (Φ : Phi) (X : Cx) (k : Nat) : Prop where
  hK : X.K = T.K
  calm : X.calm = true
  nd : X.N.Nodup
  room : Room (k + 1) X.A
  fns : ∀ f x, (f, x) ∈ tb.fns → ∃ (a : Addr) (fd : FuncData) (ps : List Str), X.mg x = some (.ref a) ∧ PySem.W.keepIn X.K (.ref a) = true ∧ Binds X.K fd ps [] ∧ FnOk X.prog X.w X.K X.mg X.base (L2.CX X.prog X.w) k a fd ps (spOf T (Φ f) (tb.ar.getD f 0))
  mts : ∀ f c m, (f, c, m) ∈ tb.mts → ∃ (a : Addr) (fd : FuncData) (ps : List Str), Cls X.K (T.cl c) ∧ Meth X.K (T.cl c) m a ∧ Binds X.K fd ps [] ∧ FnOk X.prog X.w X.K X.mg X.base (L2.CX X.prog X.w) k a fd ps (spOf T (Φ f) (tb.ar.getD f 0))
  mks : ∀ f x, (f, x) ∈ tb.mks → ∃ (a : Addr) (fd : FuncData) (ps : List Str), T.kn f ∧ Mk X.K (T.cl f) a ∧ X.mg x = some (.ref (T.cl f)) ∧ Binds X.K fd ps [] ∧ FnOk X.prog X.w X.K X.mg X.base (L2.CX X.prog X.w) k a fd ps (spOf T (Φ f) (tb.ar.getD f 0))
  flds : ∀ c f, T.kn c → f ∈ tb.flds → Cls X.K (T.cl c) ∧ NoAttr X.K (T.cl c) f
  blt : ∀ x, x ∈ tb.blt → X.mg x = none
  gl : ∀ x d, (x, d) ∈ tb.gl → ∃ u v, X.mg x = some u ∧ RelV v u ∧ ∀ F ι, Rep T F ι v d
  ar : ∀ f ds st, Φ f ds st ≠ .stuck → ds.length = tb.ar.getD f 0
  exs : ∀ c x, (c, x) ∈ tb.exs → ∃ (bmB : List Value) (B newId initId : String), ExcBaseFacts B newId initId bmB ∧ PySem.W.excIn X.K (T.xc c) bmB newId = true ∧ X.mg x = some (.ref (T.xc c)) ∧ PySem.W.keepIn X.K (.ref (T.xc c)) = true ∧ Raises X (.ref (T.xc c))
theorem Facts.blk {tb : Tab} {Φ : Phi} {k : Nat} (G : Facts T tb Φ X k) (s : Shared) (H : Hp) (sc : Scope) (e : PySem.Env) (fp : List Addr) : Facts T tb Φ (X.blk s H sc e fp) k :=
  ⟨G.hK, G.calm, G.nd, G.room, G.fns, G.mts, G.mks, G.flds, G.blt, G.gl, G.ar, G.exs⟩
/-- what a part of an expression asks -/
structure Pt (X : Cx) (W : WX) : Prop where
  tk : Takes X W
variable {W : WX} {Φ : Phi} {tb : Tab} {k : Nat}
section
variable {ea eb ec : Ex} {a b c : Expr} {pos : Pos}

theorem x_var {i : Nat} {x : Str} (hN : X.N[i]? = some x) (hv : Vis X.env.scope x) (hd : nodb x = true) : PE X (.Name x pos) (tE T W (evE Φ (.var i))) := by
  refine PE.imp (pe_var hN hv (nodb_of hd).1 (nodb_of hd).2) fun σ H Q ⟨ι, F, ρ, st, S, E, P⟩ => ?_
  simp only [evE] at P
  unfold getV at P
  split at P
  · rename_i d e
    obtain ⟨v, e1, r⟩ := E.val i d e
    exact ⟨v, e1, P ι F H v Ext.refl S r⟩
  · exact P.elim
theorem x_con {d : D} {cst : Const} {j : Nat} (h : conOk d cst = true) : PE X (.Constant cst j pos) (tE T W (evE Φ (.con d))) := by
  cases d <;> cases cst <;> simp only [conOk] at h <;> try (cases h; done)
  · exact PE.imp pe_non fun σ H Q ⟨ι, F, ρ, st, S, E, P⟩ => by simp only [evE] at P; exact P ι F H _ Ext.refl S .non
  · rw [beq_iff_eq] at h
    subst h
    exact PE.imp pe_bl fun σ H Q ⟨ι, F, ρ, st, S, E, P⟩ => by simp only [evE] at P; exact P ι F H _ Ext.refl S (.bl _)
  · rw [beq_iff_eq] at h
    subst h
    exact PE.imp pe_int fun σ H Q ⟨ι, F, ρ, st, S, E, P⟩ => by simp only [evE] at P; exact P ι F H _ Ext.refl S (.int _)
  · have h := of_decide_eq_true h
    subst h
    exact PE.imp pe_str fun σ H Q ⟨ι, F, ρ, st, S, E, P⟩ => by simp only [evE] at P; exact P ι F H _ Ext.refl S (.str _)
theorem x_glob {x : Str} {d : D} (G : Facts T tb Φ X k) (hm : (x, d) ∈ tb.gl) (hg : Gl X x) (hd : nodb x = true) : PE X (.Name x pos) (tE T W (evE Φ (.glob x d))) := by
  obtain ⟨u, v, e, r, q⟩ := G.gl x d hm
  exact PE.imp (pe_glob hg e r (nodb_of hd).1) fun σ H Q ⟨ι, F, ρ, st, S, E, P⟩ => by simp only [evE] at P; exact P ι F H _ Ext.refl S (q F ι)
/-- a pair of values, then an operation on them -/
theorem post_v2 {g : Store → D → D → Option D} {σ : St} {ι ι1 : List Addr} {F F1 H H1 : Hp} {st : Store} {x y : D} {v u : V} {Q : VK} {o : Option D} (S : RSt T ι1 F1 H1 st) (rx : Rep T F1 ι1 v x) (ry : Rep T F1 ι1 u y) (ho : o = g st x y)
    (P : Post T (rD T) W σ ι1 F1 H1 (lift o st) Q) : rV2 T g v u H1 Q := by
  subst ho
  cases e : g st x y with
  | none => rw [e] at P; exact P.elim
  | some d =>
    rw [e] at P
    exact ⟨ι1, F1, st, x, y, d, S, rx, ry, e, fun ι' F' H' w e1 S1 r => P ι' F' H' w e1 S1 r⟩
theorem x_bin {o : Bop} (G : Facts T tb Φ X k) (ha : PE X a (tE T W (evE Φ ea))) (hb : PE X b (tE T W (evE Φ eb))) : PE X (.BinOp a (bopOf o) b pos) (tE T W (evE Φ (.bin o ea eb))) := by
  refine PE.imp (pe_op (b_bin G.hK o) ha hb) fun σ H Q ⟨ι, F, ρ, st, S, E, P⟩ => ?_
  simp only [evE] at P
  refine ⟨ι, F, ρ, st, S, E, P.bind an_D fun x st1 ι1 F1 H1 v e1 S1 r1 P1 => ?_⟩
  refine ⟨ι1, F1, ρ, st1, S1, E.ext e1, P1.bind an_D fun y st2 ι2 F2 H2 u e2 S2 r2 P2 => ?_⟩
  exact post_v2 (ι := ι) (F := F) (H := H) S2 (r1.ext e2) r2 rfl P2
theorem x_neg (ha : PE X a (tE T W (evE Φ ea))) : PE X (.UnaryOp .USub a pos) (tE T W (evE Φ (.neg ea))) := by
  refine PE.imp (pe_un un_neg ha) fun σ H Q ⟨ι, F, ρ, st, S, E, P⟩ => ?_
  simp only [evE] at P
  refine ⟨ι, F, ρ, st, S, E, P.bind an_D fun x st1 ι1 F1 H1 v e1 S1 r1 P1 => ?_⟩
  cases x <;> first | exact P1.elim | skip
  cases r1
  exact ⟨_, rfl, P1 ι1 F1 H1 _ Ext.refl S1 (.int _)⟩
theorem lift_bl {o : Option Bool} {st : Store} : ((lift o st).bind fun k st => R.ok (D.bl k) st) = lift (o.map D.bl) st := by
  cases o <;> rfl
theorem x_cmp {o : Cop} (G : Facts T tb Φ X k) (hp : plain b = true) (ha : PE X a (tE T W (evE Φ ea))) (hb : PE X b (tE T W (evE Φ eb))) : PE X (.Compare a [copOf o] [b] pos) (tE T W (evE Φ (.cmp o ea eb))) := by
  refine PE.imp (pe_cmpR (b_cmp G.hK G.room.units o) ha hb (behind_eq hp)) fun σ H Q ⟨ι, F, ρ, st, S, E, P⟩ => ?_
  simp only [evE] at P
  refine ⟨ι, F, ρ, st, S, E, P.bind an_D fun x st1 ι1 F1 H1 v e1 S1 r1 P1 => ?_⟩
  refine ⟨ι1, F1, ρ, st1, S1, E.ext e1, P1.bind an_D fun y st2 ι2 F2 H2 u e2 S2 r2 P2 => ?_⟩
  rw [lift_bl] at P2
  exact post_v2 (ι := ι) (F := F) (H := H) (g := gC o) S2 (r1.ext e2) r2 rfl P2
theorem last_marks {op op' : CmpOp} (hp : plain c = true) : lastMarks [op, op'] [b, c] = false := by
  show behindInMarks op' c = false
  exact behind_eq hp
/-- the reading of a chain -/
theorem chn_red {o o' : Cop} {σ : St} {H : Hp} {Q : VK} (h : tE T W (evE Φ (.chn o o' ea eb ec)) σ H Q) : tChain (rV2 T (gC o)) (rV2 T (gC o')) (tE T W (evE Φ ea)) (tE T W (evE Φ eb)) (tE T W (evE Φ ec)) σ H Q := by
  obtain ⟨ι, F, ρ, st, S, E, P⟩ := h
  simp only [evE] at P
  refine ⟨ι, F, ρ, st, S, E, P.bind an_D fun x st1 ι1 F1 H1 v e1 S1 r1 P1 => ?_⟩
  refine ⟨ι1, F1, ρ, st1, S1, E.ext e1, P1.bind an_D fun y st2 ι2 F2 H2 u e2 S2 r2 P2 => ?_⟩
  cases ec : cmpD o st2 x y with
  | none => rw [ec] at P2; exact P2.elim
  | some kk =>
    rw [ec] at P2
    refine ⟨ι2, F2, st2, x, y, .bl kk, S2, r1.ext e2, r2, by unfold gC; rw [ec]; rfl, fun ι3 F3 H3 w e3 S3 r3 => ?_⟩
    cases r3
    refine ⟨kk, rfl, ?_⟩
    have P3 := Post.ext an_D e3 P2
    have E3 := (E.ext e1).ext (e2.trans0 e3)
    cases kk with
    | true =>
      rw [if_pos rfl]
      have P3 : Post T (rD T) W σ ι3 F3 H3 ((evE Φ _ ρ st2).bind fun z st => (lift (cmpD o' st y z) st).bind fun k st => R.ok (D.bl k) st) Q := P3
      refine ⟨ι3, F3, ρ, st2, S3, E3, P3.bind an_D fun z st4 ι4 F4 H4 w4 e4 S4 r4 P4 => ?_⟩
      rw [lift_bl] at P4
      exact post_v2 (ι := ι) (F := F) (H := H) (g := gC o') S4 (r2.ext (e3.trans0 e4)) r4 rfl P4
    | false =>
      rw [if_neg Bool.false_ne_true]
      exact P3 ι3 F3 H3 _ Ext.refl S3 (.bl _)
theorem x_chn {o o' : Cop} (G : Facts T tb Φ X k) (hp : plain c = true) (ha : PE X a (tE T W (evE Φ ea))) (hb : PE X b (tE T W (evE Φ eb))) (hc : PE X c (tE T W (evE Φ ec))) :
    PE X (.Compare a [copOf o, copOf o'] [b, c] pos) (tE T W (evE Φ (.chn o o' ea eb ec))) :=
  PE.imp (pe_chain (b_cmp G.hK G.room.units o) (b_cmp G.hK G.room.units o') ha hb hc (last_marks hp)) fun σ H Q h => chn_red h
theorem x_and {rest : List Expr} (ha : PE X a (tE T W (evE Φ ea))) (hb : PE X (.BoolOp .And (b :: rest) pos) (tE T W (evE Φ eb))) : PE X (.BoolOp .And (a :: b :: rest) pos) (tE T W (evE Φ (.and ea eb))) := by
  refine PE.imp (pe_and ha hb) fun σ H Q ⟨ι, F, ρ, st, S, E, P⟩ => ?_
  simp only [evE] at P
  refine ⟨ι, F, ρ, st, S, E, P.bind an_D fun x st1 ι1 F1 H1 v e1 S1 r1 P1 => ?_⟩
  cases x <;> first | exact P1.elim | skip
  rename_i kk
  cases r1
  refine ⟨kk, rfl, ?_⟩
  cases kk with
  | true => exact ⟨ι1, F1, ρ, st1, S1, E.ext e1, P1⟩
  | false => exact P1 ι1 F1 H1 _ Ext.refl S1 (.bl _)
theorem x_or {rest : List Expr} (ha : PE X a (tE T W (evE Φ ea))) (hb : PE X (.BoolOp .Or (b :: rest) pos) (tE T W (evE Φ eb))) : PE X (.BoolOp .Or (a :: b :: rest) pos) (tE T W (evE Φ (.or ea eb))) := by
  refine PE.imp (pe_or ha hb) fun σ H Q ⟨ι, F, ρ, st, S, E, P⟩ => ?_
  simp only [evE] at P
  refine ⟨ι, F, ρ, st, S, E, P.bind an_D fun x st1 ι1 F1 H1 v e1 S1 r1 P1 => ?_⟩
  cases x <;> first | exact P1.elim | skip
  rename_i kk
  cases r1
  refine ⟨kk, rfl, ?_⟩
  cases kk with
  | true => exact P1 ι1 F1 H1 _ Ext.refl S1 (.bl _)
  | false => exact ⟨ι1, F1, ρ, st1, S1, E.ext e1, P1⟩
/-- a value's truth -/
theorem post_tru {β α : Type} {rel : Rel β α} {σ : St} {ι : List Addr} {F H : Hp} {st : Store} {x : D} {v : V} {g : Bool → Store → R α} {Q : β → Hp → Prop} (hK : X.K = T.K) (S : RSt T ι F H st) (r : Rep T F ι v x)
    (P : Post T rel W σ ι F H ((lift (truD st x) st).bind g) Q) : ∃ kk, TruV X.K v H kk ∧ Post T rel W σ ι F H (g kk st) Q := by
  cases e : truD st x with
  | none => rw [e] at P; exact P.elim
  | some kk =>
    rw [e] at P
    exact ⟨kk, by rw [hK]; exact tru_D S r e, P⟩
theorem x_not (G : Facts T tb Φ X k) (ha : PE X a (tE T W (evE Φ ea))) : PE X (.UnaryOp .Not a pos) (tE T W (evE Φ (.not ea))) := by
  refine PE.imp (pe_notT ha) fun σ H Q ⟨ι, F, ρ, st, S, E, P⟩ => ?_
  simp only [evE] at P
  refine ⟨ι, F, ρ, st, S, E, P.bind an_D fun x st1 ι1 F1 H1 v e1 S1 r1 P1 => ?_⟩
  obtain ⟨kk, tv, P2⟩ := post_tru G.hK S1 r1 P1
  exact ⟨kk, tv, P2 ι1 F1 H1 _ Ext.refl S1 (.bl _)⟩
theorem x_ife (hc : PT X c (tK T W (evT Φ ec))) (ha : PE X a (tE T W (evE Φ ea))) (hb : PE X b (tE T W (evE Φ eb))) : PE X (.IfExp c a b pos) (tE T W (evE Φ (.ife ec ea eb))) := by
  refine PE.imp (pe_ifExp hc ha hb) fun σ H Q ⟨ι, F, ρ, st, S, E, P⟩ => ?_
  simp only [evE] at P
  refine ⟨ι, F, ρ, st, S, E, P.bind an_D fun kk st1 ι1 F1 H1 v e1 S1 r1 P1 => ?_⟩
  subst r1
  cases v with
  | true => exact ⟨ι1, F1, ρ, st1, S1, E.ext e1, P1⟩
  | false => exact ⟨ι1, F1, ρ, st1, S1, E.ext e1, P1⟩
theorem x_idx (G : Facts T tb Φ X k) (hp : plain b = true) (ha : PE X a (tE T W (evE Φ ea))) (hb : PE X b (tE T W (evE Φ eb))) : PE X (.Subscript a b pos) (tE T W (evE Φ (.idx ea eb))) := by
  refine PE.imp (pe_ix (b_idx G.hK (hu_of G.room)) ha hb (ix_eq hp)) fun σ H Q ⟨ι, F, ρ, st, S, E, P⟩ => ?_
  simp only [evE] at P
  refine ⟨ι, F, ρ, st, S, E, P.bind an_D fun x st1 ι1 F1 H1 v e1 S1 r1 P1 => ?_⟩
  refine ⟨ι1, F1, ρ, st1, S1, E.ext e1, P1.bind an_D fun y st2 ι2 F2 H2 u e2 S2 r2 P2 => ?_⟩
  exact post_v2 (ι := ι) (F := F) (H := H) S2 (r1.ext e2) r2 rfl P2
theorem x_fld {f : Str} (G : Facts T tb Φ X k) (hf : f ∈ tb.flds) (hp : plain a = true) (ha : PE X a (tE T W (evE Φ ea))) : PE X (.Attribute a f pos) (tE T W (evE Φ (.fld ea f))) := by
  refine PE.imp (pe_fld ha (base_eq hp)) fun σ H Q ⟨ι, F, ρ, st, S, E, P⟩ => ?_
  simp only [evE] at P
  refine ⟨ι, F, ρ, st, S, E, P.bind an_D fun x st1 ι1 F1 H1 v e1 S1 r1 P1 => ?_⟩
  cases x with
  | ref n =>
    cases r1 with
    | ref hr =>
      rename_i a
      have P1 : Post T (rD T) W σ ι1 F1 H1 (lift (match st1[n]? with
        | some (.ins _ fs) => getF fs f
        | _ => none) st1) Q := P1
      cases e2 : st1[n]? with
      | none => rw [e2] at P1; exact P1.elim
      | some cc =>
        rw [e2] at P1
        cases cc with
        | lst _ => exact P1.elim
        | dict _ => exact P1.elim
        | ins c fs =>
          have P1 : Post T (rD T) W σ ι1 F1 H1 (lift (getF fs f) st1) Q := P1
          obtain ⟨_, dx, ws, e3, rf, kn⟩ := S1.cell n a _ hr e2
          obtain ⟨hcl, hna⟩ := G.flds c f kn hf
          rcases rf.lookup (f := f) with ⟨z, _⟩ | ⟨w, d, z1, z2, rd⟩
          · unfold getF at P1
            rw [z] at P1
            exact P1.elim
          · unfold getF at P1
            rw [z1] at P1
            exact ⟨a, _, dx, ws, w, rfl, e3, hcl, hna, z2, P1 ι1 F1 H1 w Ext.refl S1 rd⟩
  | _ => exact P1.elim
end
end B

set_option Elab.async false
set_option linter.all false
set_option maxRecDepth 100000
set_option maxHeartbeats 4000000
namespace B
set_option autoImplicit false
open PySem PySem.Spec L2
open PyProof.Rows hiding St
variable {T : Kt} {X : Cx} {W : WX} {Φ : Phi} {tb : Tab} {k : Nat}
def Es.len : Es → Nat
  | .nil => 0
  | .cons _ r => r.len + 1
theorem evEs_len : ∀ {es : Es} {ρ : Slots} {st st' : Store} {ds : List D}, evEs Φ es ρ st = .ok ds st' → ds.length = es.len
  | .nil, _, _, _, _, h => by
    simp only [evEs] at h
    cases h
    rfl
  | .cons e es, ρ, st, st', ds, h => by
    simp only [evEs] at h
    cases h1 : evE Φ e ρ st with
    | ok d st1 =>
      rw [h1] at h
      simp only [R.bind] at h
      cases h2 : evEs Φ es ρ st1 with
      | ok ds2 st2 =>
        rw [h2] at h
        simp only at h
        cases h
        simp only [List.length_cons, Es.len, evEs_len h2]
      | exc _ _ => rw [h2] at h; cases h
      | stuck => rw [h2] at h; cases h
    | exc _ _ => rw [h1] at h; cases h
    | stuck => rw [h1] at h; cases h
theorem chkEs_len {N : List Str} : ∀ {n : Nat} {es : Es} {sc : Scope} {xs : List Expr}, chkEs tb N n es sc xs = true → es.len = xs.length
  | 0, _, _, _, h => by simp [chkEs] at h
  | _ + 1, .nil, _, [], _ => rfl
  | n + 1, .cons e es, sc, x :: xs, h => by
    simp only [chkEs, Bool.and_eq_true] at h
    simp only [Es.len, List.length_cons, chkEs_len h.2]
  | _ + 1, .nil, _, _ :: _, h => by simp [chkEs] at h
  | _ + 1, .cons _ _, _, [], h => by simp [chkEs] at h
theorem line1000 {n : Nat} (h : n ≤ 1000) : n ≤ sizeLine := Nat.le_trans h (by decide)

/-! ### arguments -/
theorem a_nil : PA X [] (tEs T W (evEs Φ .nil)) := by
  refine PA.imp pa_nil fun σ H Q ⟨ι, F, ρ, st, S, E, P⟩ => ?_
  simp only [evEs] at P
  exact P ι F H [] Ext.refl S .nil
theorem a_cons {e : Expr} {es : List Expr} {x : Ex} {xs : Es} (hp : plain e = true) (h : PE X e (tE T W (evE Φ x))) (hs : PA X es (tEs T W (evEs Φ xs))) : PA X (e :: es) (tEs T W (evEs Φ (.cons x xs))) := by
  refine PA.imp (pa_cons h hs (star_cons hp)) fun σ H Q ⟨ι, F, ρ, st, S, E, P⟩ => ?_
  simp only [evEs] at P
  refine ⟨ι, F, ρ, st, S, E, P.bind an_Ds fun d st1 ι1 F1 H1 v e1 S1 r1 P1 => ?_⟩
  refine ⟨ι1, F1, ρ, st1, S1, E.ext e1, P1.bind an_Ds fun ds st2 ι2 F2 H2 vs e2 S2 r2 P2 => ?_⟩
  exact P2 ι2 F2 H2 (v :: vs) Ext.refl S2 (.cons (r1.ext e2) r2)
section
variable {ea eb ec : Ex} {a b c : Expr} {pos : Pos} {xs : Es} {es : List Expr}
theorem x_tup {j : Nat} {σ : Unit} (hl : xs.len ≤ 1000) (h : PA X es (tEs T W (evEs Φ xs))) : PE X (.Tuple es j pos) (tE T W (evE Φ (.tup xs))) := by
  refine PE.imp (pe_tup h) fun σ H Q ⟨ι, F, ρ, st, S, E, P⟩ => ?_
  simp only [evE] at P
  refine ⟨ι, F, ρ, st, S, E, ?_⟩
  cases ev : evEs Φ xs ρ st with
  | stuck => rw [ev] at P; exact P
  | exc _ _ => rw [ev] at P; exact P
  | ok ds st1 =>
    rw [ev] at P
    have hz : ds.length ≤ sizeLine := by rw [evEs_len ev]; exact line1000 hl
    intro ι1 F1 H1 vs e1 S1 r1
    refine ⟨by rw [r1.length]; exact hz, fun p hp => ?_⟩
    obtain ⟨e2, S2, r2⟩ := S1.tup hp r1 hz
    exact P _ _ _ _ (e1.trans0 e2) S2 r2
theorem frz_red {cr : Cr} {σ : St} {H : Hp} {Q : VK} (h : tE T W (evE Φ (.frz cr)) σ H Q) : tCr T W (evC Φ cr) σ H Q := by
  obtain ⟨ι, F, ρ, st, S, E, P⟩ := h
  simp only [evE] at P
  refine ⟨ι, F, ρ, st, S, E, ?_⟩
  cases ev : evC Φ cr ρ st with
  | stuck => rw [ev] at P; exact P
  | exc _ _ => rw [ev] at P; exact P
  | ok ds st1 =>
    rw [ev] at P
    intro ι1 F1 H1 v e1 S1 hh
    obtain ⟨p, vs, rfl, hp, h0, hf, hn, r, z⟩ := hh
    exact P _ _ _ _ (e1.freeze (.inl h0) hf) (S1.freeze hp hn hf) (.lst upd_same (r.mono (Same.upd hf) (List.prefix_refl _)) z)
theorem x_frz {cr : Cr} (h : PE X a (tCr T W (evC Φ cr))) : PE X a (tE T W (evE Φ (.frz cr))) := PE.imp h fun σ H Q q => frz_red q
theorem cel_red {cr : Cr} {σ : St} {H : Hp} {Q : VK} (h : tE T W (evE Φ (.cel cr)) σ H Q) : tCr T W (evC Φ cr) σ H Q := by
  obtain ⟨ι, F, ρ, st, S, E, P⟩ := h
  simp only [evE] at P
  refine ⟨ι, F, ρ, st, S, E, ?_⟩
  cases ev : evC Φ cr ρ st with
  | stuck => rw [ev] at P; exact P
  | exc _ _ => rw [ev] at P; exact P
  | ok ds st1 =>
    rw [ev] at P
    intro ι1 F1 H1 v e1 S1 hh
    obtain ⟨p, vs, rfl, hp, h0, hf, hn, r, z⟩ := hh
    refine P _ _ _ _ (e1.toCell h0) (S1.toCell hn hf (c := .lst ds) ⟨vs, hp, r, z⟩) (.ref ?_)
    rw [← S1.len]
    simp
theorem x_cel {cr : Cr} (h : PE X a (tCr T W (evC Φ cr))) : PE X a (tE T W (evE Φ (.cel cr))) := PE.imp h fun σ H Q q => cel_red q
/-! ### slices -/
def gSl (x : D) (l h : Option Int) : Option D :=
  match x with
  | .tup xs => some (.tup (cutD xs l h))
  | .lst xs => some (.lst (cutD xs l h))
  | .str s => if s.length ≤ sizeLine then some (.str (L2.cutS s l h)) else none
  | _ => none
def rSl (T : Kt) : V → Option Int → Option Int → Hp → VK → Prop := fun v l h H Q => ∃ ι F st x d, RSt T ι F H st ∧ RepW T H F ι v x ∧ gSl x l h = some d ∧
  ∀ ι' F' H' w, Ext0 ι F H ι' F' H' → RSt T ι' F' H' st → Rep T F' ι' w d → Q w H'
theorem RepL.cut {F : Hp} {ι : List Addr} {vs : List V} {ds : List D} (r : RepL T F ι vs ds) (l h : Option Int) : RepL T F ι (cutV vs l h) (cutD ds l h) := by
  unfold cutV cutD
  rw [r.length]
  exact (r.drop _).take _
theorem cutD_length (xs : List D) (lo hi : Option Int) : (cutD xs lo hi).length ≤ xs.length := by
  unfold cutD
  rw [List.length_take, List.length_drop]
  omega
theorem b_sl (hK : X.K = T.K) : SlR X (rSl T) := by
  intro pins s σ H x v vl vu lo hi sl Q I rx hs pl pu h
  obtain ⟨ι, F, st, d0, d, S, r, e, q⟩ := h
  rcases r with r | ⟨h1, r, z⟩
  case lst =>
    cases e
    refine sl_list pins s σ H _ v vl vu lo hi sl Q I rx hs pl pu ⟨_, _, rfl, SqL.of h1, fun p hp => ?_⟩
    obtain ⟨e2, S2, r2⟩ := S.lst hp (r.cut lo hi) (Nat.le_trans (cutD_length _ _ _) z)
    exact q _ _ _ _ e2 S2 r2
  cases r with
  | tup h1 r z =>
    cases e
    refine sl_tupA pins s σ H _ v vl vu lo hi sl Q I rx hs pl pu ⟨_, _, rfl, by rw [hK]; exact Same.seqT S.same h1, fun hw => ?_, fun hw p hp => ?_⟩
    · rename_i a xs ds
      have hl := r.length
      have ec : cutD ds lo hi = ds := by
        unfold cutD
        rw [← hl, hw.1, hw.2, List.drop_zero, Nat.sub_zero, hl]
        exact List.take_length
      rw [ec] at q
      exact q _ _ _ _ Ext.refl S (.tup h1 r z)
    · obtain ⟨e2, S2, r2⟩ := S.tup hp (r.cut lo hi) (Nat.le_trans (cutD_length _ _ _) z)
      exact q _ _ _ _ e2 S2 r2
  | lst h1 r z =>
    cases e
    refine sl_list pins s σ H _ v vl vu lo hi sl Q I rx hs pl pu ⟨_, _, rfl, SqL.of (S.same _ _ h1), fun p hp => ?_⟩
    obtain ⟨e2, S2, r2⟩ := S.lst hp (r.cut lo hi) (Nat.le_trans (cutD_length _ _ _) z)
    exact q _ _ _ _ e2 S2 r2
  | str z =>
    replace e : (if z.length ≤ sizeLine then some (D.str (L2.cutS z lo hi)) else none) = some d := e
    split at e
    · rename_i hz
      cases e
      exact sl_str pins s σ H _ v vl vu lo hi sl Q I rx hs pl pu ⟨_, rfl, hz, q _ _ _ _ Ext.refl S (.str _)⟩
    · cases e
  | _ => cases e
theorem o_none : PO X none (tM T rOI W (evEo Φ .none)) := by
  refine ⟨fun pins s σ H Q I h => po_none.run pins s σ H Q I ?_⟩
  obtain ⟨ι, F, ρ, st, S, E, P⟩ := h
  simp only [evEo] at P
  exact P ι F H none Ext.refl S rfl
theorem o_some (h : PE X a (tE T W (evE Φ ea))) : PO X (some a) (tM T rOI W (evEo Φ (.some ea))) := by
  refine ⟨fun pins s σ H Q I h' => (po_some h).run pins s σ H Q I ?_⟩
  obtain ⟨ι, F, ρ, st, S, E, P⟩ := h'
  simp only [evEo] at P
  refine ⟨ι, F, ρ, st, S, E, P.bind an_OI fun x st1 ι1 F1 H1 v e1 S1 r1 P1 => ?_⟩
  cases x <;> first | exact P1.elim | skip
  cases r1
  exact ⟨_, rfl, P1 ι1 F1 H1 _ Ext.refl S1 rfl⟩
theorem x_slc {lo hi : Eo} {l h : Option Expr} {p2 : Pos} (G : Facts T tb Φ X k) (ha : PE X a (tE T W (evE Φ ea))) (hl : PO X l (tM T rOI W (evEo Φ lo))) (hh : PO X h (tM T rOI W (evEo Φ hi))) :
    PE X (.Subscript a (.Slice l h none p2) pos) (tE T W (evE Φ (.slc ea lo hi))) := by
  refine PE.imp (pe_slice (b_sl G.hK) ha hl hh) fun σ H Q ⟨ι, F, ρ, st, S, E, P⟩ => ?_
  simp only [evE] at P
  refine ⟨ι, F, ρ, st, S, E, P.bind an_D fun x st1 ι1 F1 H1 v e1 S1 r1 P1 => ?_⟩
  refine ⟨ι1, F1, ρ, st1, S1, E.ext e1, P1.bind an_D fun y st2 ι2 F2 H2 u e2 S2 r2 P2 => ?_⟩
  have E2 := (E.ext e1).ext e2
  refine ⟨ι2, F2, ρ, st2, S2, E2, P2.bind an_D fun z st3 ι3 F3 H3 w e3 S3 r3 P3 => ?_⟩
  subst r2 r3
  have rx := S3.view (r1.ext (e2.trans0 e3))
  generalize view st3 x = x at rx P3
  refine ⟨ι3, F3, st3, x, ?_⟩
  have fin : ∀ d, gSl x u w = some d → Post T (rD T) W σ ι3 F3 H3 (R.ok d st3) Q → ∃ d, RSt T ι3 F3 H3 st3 ∧ RepW T H3 F3 ι3 v x ∧ gSl x u w = some d ∧ ∀ ι' F' H' w, Ext0 ι3 F3 H3 ι' F' H' → RSt T ι' F' H' st3 → Rep T F' ι' w d → Q w H' :=
    fun d hd P => ⟨d, S3, rx, hd, P⟩
  cases x <;> first | exact P3.elim | skip
  · rename_i sx
    by_cases hz : sx.length ≤ sizeLine
    · simp only [hz, if_true] at P3
      exact fin _ (by simp [gSl, hz]) P3
    · simp only [hz, if_false] at P3
      exact P3.elim
  · exact fin _ rfl P3
  · exact fin _ rfl P3
/-! ### calls -/
theorem sp_of {φ : List D → Store → R D} {n : Nat} {ι : List Addr} {F H : Hp} {st : Store} {vs : List V} {ds : List D} {σ : St} {Q : VK} (hn : φ ds st ≠ .stuck → ds.length = n) (S : RSt T ι F H st) (r : RepL T F ι vs ds) (P : Post T (rD T) W σ ι F H (φ ds st) Q) :
    spOf T φ n vs H Q (WE W σ) := by
  refine ⟨?_, ι, F, ds, st, S, r, ?_⟩
  · rw [r.length]
    refine hn fun e => ?_
    rw [e] at P
    exact P
  · cases e : φ ds st with
    | ok d st' => rw [e] at P; exact P
    | exc c st' => rw [e] at P; exact P
    | stuck => rw [e] at P; exact P
theorem x_call {f : Nat} {x : Str} {p : Pos} (G : Facts T tb Φ X k) (tk : Takes X W) (hf : (f, x) ∈ tb.fns) (hg : Gl X x) (hd : nodb x = true) (hp : ∀ e ∈ a :: es, plain e = true) (h : PA X (a :: es) (tEs T W (evEs Φ xs))) :
    PE X (.Call (.Name x p) (a :: es) [] pos) (tE T W (evE Φ (.call f xs))) := by
  obtain ⟨ad, fd, ps, hm, hk, hb, hF⟩ := G.fns f x hf
  refine PE.imp (pe_callS hF (G.room.mono (Nat.le_succ _)) hg hm hk hb (fun σ => passAt tk σ) h (nodb_of hd).1 (star_cons (hp a List.mem_cons_self)) (star_any fun e he => hp e (List.mem_cons_of_mem _ he))) fun σ H Q ⟨ι, F, ρ, st, S, E, P⟩ => ?_
  simp only [evE] at P
  refine ⟨ι, F, ρ, st, S, E, P.bind an_D fun ds st1 ι1 F1 H1 vs e1 S1 r1 P1 => ?_⟩
  exact sp_of (G.ar f ds st1) S1 r1 P1
/-- o.m(..), what is raised is wished for at the slots -/
def tMethS (C : Addr) (m : Str) (sp : Sp) (E : St → XK) (ta : TE) (t : TA) : TE := fun σ H Q => ta σ H fun x H1 => ∃ a dx fs, x = .ref a ∧ H1 a = some (.ins C dx fs) ∧ fs.lookup m = none ∧
  t σ H1 fun vs H2 => sp (x :: vs) H2 Q (E σ)
theorem pe_methS {CX : CXT} {C f : Addr} {fd : FuncData} {ps : List Str} {sp : Sp} {E : St → XK} {m : Str} {apos : Pos} {o e : Expr} {ta : TE} {t : TA} (he : PE X o ta) (c : Cls X.K C) (hm : Meth X.K C m f)
    (F : FnOk X.prog X.w X.K X.mg X.base CX k f fd ps sp) (hr : Room k X.A) (hb : Binds X.K fd ps []) (hx : ∀ σ, PassesAt CX X σ (E σ)) (ha : PA X (e :: es) t) (hp : plain o = true) (hs : ∀ x ∈ e :: es, plain x = true) (hn : (e :: es).length < 29) (hl : (apos.endLine == pos.line) = true) :
    PE X (.Call (.Attribute o m apos) (e :: es) [] pos) (tMethS C m sp E ta t) := by
  refine ⟨fun pins s σ H Q I h => ?_⟩
  refine PySem.W.methodCall_KW (pl := do return (← importBound o X.env).getD true) (thn (he.run pins s σ H _ I h) fun u s1 ⟨x, H1, I1, rx, a, dx, fs, ex, ea, l, q⟩ => ?_) (meth_eq hp hs hn hl)
  subst ex
  obtain rfl : u = Value.ref a := rx
  refine getmeth_ok I1 ea c hm l ?_
  refine PySem.W.callWith_K (first := [.ref a]) (h₀ := X.base) I1.ok.mod.kin hm.kp (thn (ha.run pos pins s1 σ H1 _ I1 q) fun us s2 ⟨vs, H2, I2, r, q2⟩ => ⟨I2.kIn, ?_⟩) (star_cons (hs e List.mem_cons_self)) (star_any fun x hx => hs x (List.mem_cons_of_mem _ hx))
  exact run_fnS (us := .ref a :: us) (vs := .ref a :: vs) F hr hb (hx σ) I2 (.cons rfl r) q2
theorem pe_methS0 {CX : CXT} {C f : Addr} {fd : FuncData} {ps : List Str} {sp : Sp} {E : St → XK} {m : Str} {apos : Pos} {o : Expr} {ta : TE} (he : PE X o ta) (c : Cls X.K C) (hm : Meth X.K C m f)
    (F : FnOk X.prog X.w X.K X.mg X.base CX k f fd ps sp) (hr : Room k X.A) (hb : Binds X.K fd ps []) (hx : ∀ σ, PassesAt CX X σ (E σ)) (hp : plain o = true) (hl : (apos.endLine == pos.line) = true) :
    PE X (.Call (.Attribute o m apos) [] [] pos) (tMethS C m sp E ta tNil) := by
  refine ⟨fun pins s σ H Q I h => ?_⟩
  refine PySem.W.methodCall_KW (pl := do return (← importBound o X.env).getD true) (thn (he.run pins s σ H _ I h) fun u s1 ⟨x, H1, I1, rx, a, dx, fs, ex, ea, l, q⟩ => ?_) (meth_eq hp (fun _ h => nomatch h) (by decide) hl)
  subst ex
  obtain rfl : u = Value.ref a := rx
  refine getmeth_ok I1 ea c hm l ?_
  exact PySem.W.callWith_K0 (first := [.ref a]) I1.kIn hm.kp (run_fnS (us := [.ref a]) (vs := [.ref a]) F hr hb (hx σ) I1 (.cons rfl .nil) q)
theorem inst_of {ι : List Addr} {F H : Hp} {st : Store} {v : V} {x : D} {c : Nat} {m : Str} (S : RSt T ι F H st) (r : Rep T F ι v x) (h : instOf st x c m = true) : ∃ a dx fs, v = .ref a ∧ H a = some (.ins (T.cl c) dx fs) ∧ fs.lookup m = none := by
  cases r with
  | ref hr =>
    rename_i a n
    replace h : (match st[n]? with
      | some (.ins c' fs) => decide (c' = c) && (getF fs m).isNone
      | _ => false) = true := h
    cases e2 : st[n]? with
    | none => rw [e2] at h; cases h
    | some cc =>
      rw [e2] at h
      cases cc with
      | lst _ => cases h
      | dict _ => cases h
      | ins c' fs =>
        replace h : (decide (c' = c) && (getF fs m).isNone) = true := h
        rw [Bool.and_eq_true] at h
        have hc := of_decide_eq_true h.1
        subst hc
        obtain ⟨_, dx, ws, e3, rf, kn⟩ := S.cell n a _ hr e2
        refine ⟨a, dx, ws, rfl, e3, ?_⟩
        rcases rf.lookup (f := m) with ⟨_, z⟩ | ⟨w, d, z1, z2, rd⟩
        · exact z
        · have h2 := h.2
          unfold getF at h2
          rw [z1] at h2
          cases h2
  | _ => cases h
theorem x_meth {f c : Nat} {m : Str} {o : Expr} {eo : Ex} {apos : Pos} (G : Facts T tb Φ X k) (tk : Takes X W) (hf : (f, c, m) ∈ tb.mts) (hp : plain o = true) (hs : ∀ e ∈ es, plain e = true) (hn : es.length < 29) (hl : (apos.endLine == pos.line) = true)
    (ho : PE X o (tE T W (evE Φ eo))) (h : PA X es (tEs T W (evEs Φ xs))) (hx : es = [] → xs = .nil) : PE X (.Call (.Attribute o m apos) es [] pos) (tE T W (evE Φ (.meth f c m eo xs))) := by
  obtain ⟨ad, fd, ps, hc, hm, hb, hF⟩ := G.mts f c m hf
  cases es with
  | cons e es =>
    refine PE.imp (pe_methS ho hc hm hF (G.room.mono (Nat.le_succ _)) hb (fun σ => passAt tk σ) h hp hs hn hl) fun σ H Q ⟨ι, F, ρ, st, S, E, P⟩ => ?_
    simp only [evE] at P
    refine ⟨ι, F, ρ, st, S, E, P.bind an_D fun x st1 ι1 F1 H1 v e1 S1 r1 P1 => ?_⟩
    cases hi : instOf st1 x c m with
    | false => rw [hi] at P1; exact P1.elim
    | true =>
      rw [hi, if_pos rfl] at P1
      obtain ⟨a, dx, fs, rfl, ea, l⟩ := inst_of S1 r1 hi
      refine ⟨a, dx, fs, rfl, ea, l, ι1, F1, ρ, st1, S1, E.ext e1, P1.bind an_D fun ds st2 ι2 F2 H2 vs e2 S2 r2 P2 => ?_⟩
      exact sp_of (G.ar f _ st2) S2 (.cons (r1.ext e2) r2) P2
  | nil =>
    have ex := hx rfl
    subst ex
    refine PE.imp (pe_methS0 ho hc hm hF (G.room.mono (Nat.le_succ _)) hb (fun σ => passAt tk σ) hp hl) fun σ H Q ⟨ι, F, ρ, st, S, E, P⟩ => ?_
    simp only [evE] at P
    refine ⟨ι, F, ρ, st, S, E, P.bind an_D fun x st1 ι1 F1 H1 v e1 S1 r1 P1 => ?_⟩
    cases hi : instOf st1 x c m with
    | false => rw [hi] at P1; exact P1.elim
    | true =>
      rw [hi, if_pos rfl] at P1
      obtain ⟨a, dx, fs, rfl, ea, l⟩ := inst_of S1 r1 hi
      refine ⟨a, dx, fs, rfl, ea, l, ?_⟩
      simp only [evEs, R.bind] at P1
      exact sp_of (G.ar f _ st1) S1 (.cons r1 .nil) P1
/-- C(..) -/
theorem x_make {f : Nat} {x : Str} {p : Pos} (G : Facts T tb Φ X k) (hf : (f, x) ∈ tb.mks) (hg : Gl X x) (hd : nodb x = true) (hp : ∀ e ∈ a :: es, plain e = true) (h : PA X (a :: es) (tEs T W (evEs Φ xs))) :
    PE X (.Call (.Name x p) (a :: es) [] pos) (tE T W (evE Φ (.make f xs))) := by
  obtain ⟨ad, fd, ps, hkn, hM, hm, hb, hF⟩ := G.mks f x hf
  refine PE.imp (pe_make hM hF G.room hg hm hb .nil passL h (nodb_of hd).1 (star_cons (hp a List.mem_cons_self)) (star_any fun e he => hp e (List.mem_cons_of_mem _ he))) fun σ H Q ⟨ι, F, ρ, st, S, E, P⟩ => ?_
  simp only [evE] at P
  refine ⟨ι, F, ρ, st, S, E, P.bind an_D fun ds st1 ι1 F1 H1 vs e1 S1 r1 P1 => ?_⟩
  intro y dx hy hdx hne
  obtain ⟨S2, e2⟩ := S1.beside hdx (.own y)
  have hy2 : (upd H1 dx (.own y)) y = none := by rw [upd_ne (Ne.symm hne)]; exact hy
  obtain ⟨S3, e3⟩ := S2.beside hy2 (.ins (T.cl f) dx [])
  have hFy : F1 y = none := nf S1.same hy
  have S4 := S3.toCell (c := .ins f []) (S1.fresh hy) hFy ⟨dx, [], upd_same, .nil, hkn⟩
  have e4 : Ext0 ι1 F1 H1 (ι1 ++ [y]) F1 (upd (upd H1 dx (.own y)) y (.ins (T.cl f) dx [])) := (e2.trans0 e3).toCell hy
  have hyr : Rep T F1 (ι1 ++ [y]) (.ref y) (.ref st1.length) := .ref (by rw [← S1.len]; simp)
  rw [List.append_nil]
  cases ev : Φ f (.ref st1.length :: ds) (st1 ++ [.ins f []]) with
  | stuck => rw [ev] at P1; exact P1.elim
  | exc _ _ => rw [ev] at P1; exact P1.elim
  | ok r st5 =>
    rw [ev] at P1
    refine ⟨?_, ι1 ++ [y], F1, _, _, S4, .cons hyr (r1.mono (fun _ _ h => h) (List.prefix_append _ _)), ?_⟩
    · have z := G.ar f _ _ (by rw [ev]; exact fun w => nomatch w)
      rw [← z]
      simp [r1.length]
    · rw [ev]
      intro ι5 F5 H5 w e5 S5 r5
      cases r <;> first | exact P1.elim | skip
      cases r5
      exact ⟨rfl, P1 _ _ _ _ (e4.trans0 e5) S5 (hyr.ext e5)⟩
theorem x_blt {b : BI} {p : Pos} (G : Facts T tb Φ X k) (hm : biN b ∈ tb.blt) (hg : Gl X (biN b)) (hp : ∀ e ∈ a :: es, plain e = true) (h : PA X (a :: es) (tEs T W (evEs Φ xs))) :
    PE X (.Call (.Name (biN b) p) (a :: es) [] pos) (tE T W (evE Φ (.blt b xs))) := by
  refine PE.imp (pe_bi (T := T) G.calm G.hK b hg (G.blt _ hm) h (star_cons (hp a List.mem_cons_self)) (star_any fun e he => hp e (List.mem_cons_of_mem _ he))) fun σ H Q ⟨ι, F, ρ, st, S, E, P⟩ => ?_
  simp only [evE] at P
  refine ⟨ι, F, ρ, st, S, E, P.bind an_D fun ds st1 ι1 F1 H1 vs e1 S1 r1 P1 => ?_⟩
  cases e : biD b st1 ds with
  | none => rw [e] at P1; exact P1.elim
  | some d =>
    rw [e] at P1
    exact ⟨ι1, F1, st1, ds, d, S1, r1, e, fun ι' F' H' w e2 S2 r2 => P1 ι' F' H' w e2 S2 r2⟩
end
end B

set_option Elab.async false
set_option linter.all false
set_option maxRecDepth 100000
set_option maxHeartbeats 4000000
namespace B
set_option autoImplicit false
open PySem PySem.Spec L2
open PyProof.Rows hiding St
variable {T : Kt} {X : Cx} {W : WX} {Φ : Phi} {tb : Tab} {k : Nat}
section
variable {ea eb ec : Ex} {a b c : Expr} {pos apos : Pos} {xs : Es} {es : List Expr}
theorem few1 {o y : Expr} {env : PySem.Env} (hy : plain y = true) : ((backTo pos (starEach [y] env)).all (fun x => !x.1) && (backToKw pos (keywordEach [] env)).all (fun x => x.1.isSome)
      && decide (([y] : List Expr).length + ([] : List Keyword).length + (if ([] : List Keyword).isEmpty then 0 else 1) < 30)) = true := by
  rw [star_all (fun x hx => by
    have e : x = y := by simpa using hx
    rw [e]; exact hy)]
  rfl
/-- the list at a cell -/
theorem lstAt_of {ι : List Addr} {F H : Hp} {st : Store} {x : D} {ds : List D} {v : V} (S : RSt T ι F H st) (r : Rep T F ι v x) (e : lstAt st x = some ds) : ∃ a vs n, v = .ref a ∧ x = .ref n ∧ ι[n]? = some a ∧ H a = some (.lst vs) ∧ RepL T F ι vs ds ∧ ds.length ≤ sizeLine := by
  cases r with
  | ref hr =>
    rename_i a n
    replace e : (match st[n]? with
      | some (.lst xs) => some xs
      | _ => none) = some ds := e
    cases e1 : st[n]? with
    | none => rw [e1] at e; cases e
    | some cc =>
      rw [e1] at e
      cases cc with
      | lst ys =>
        cases e
        obtain ⟨_, vs, e2, r1, z⟩ := S.cell n _ _ hr e1
        exact ⟨a, vs, n, rfl, rfl, hr, e2, r1, z⟩
      | dict _ => cases e
      | ins _ _ => cases e
  | _ => cases e
theorem x_app (hp : plain a = true) (hy : plain b = true) (hl : (apos.endLine == pos.line) = true) (ha : PE X a (tE T W (evE Φ ea))) (hb : PE X b (tE T W (evE Φ eb))) : PE X (.Call (.Attribute a "append" apos) [b] [] pos) (tE T W (evE Φ (.app ea eb))) := by
  refine PE.imp (pe_bm PySem.F.plainAttrs_list PySem.F.slot_list_append PySem.F.type_list_append mt_append ha (pa_cons hb pa_nil (star_cons hy)) (base_eq hp) (few1 (o := a) hy) hl (star_cons hy) rfl) fun σ H Q ⟨ι, F, ρ, st, S, E, P⟩ => ?_
  simp only [evE] at P
  refine ⟨ι, F, ρ, st, S, E, P.bind an_D fun x st1 ι1 F1 H1 v e1 S1 r1 P1 => ?_⟩
  cases hx : lstAt st1 x with
  | none => rw [hx] at P1; exact P1.elim
  | some ys =>
    rw [hx] at P1
    simp only [Option.isSome_some, if_true] at P1
    obtain ⟨p, vs, n, rfl, rfl, hn, hv, rv, _⟩ := lstAt_of S1 r1 hx
    refine ⟨.inl ⟨rfl, _, SqL.of hv⟩, ι1, F1, ρ, st1, S1, E.ext e1, P1.bind an_D fun y st2 ι2 F2 H2 w e2 S2 r2 P2 => ?_⟩
    cases hx2 : lstAt st2 (.ref n) with
    | none => rw [hx2] at P2; exact P2.elim
    | some zs =>
      rw [hx2] at P2
      obtain ⟨p', vs2, n', ep, en, hn2, hv2, rv2, z2⟩ := lstAt_of S2 (r1.ext e2) hx2
      cases ep; cases en
      by_cases hz : zs.length < sizeLine
      · simp only [hz, if_true] at P2
        refine ⟨p, vs2, w, rfl, rfl, hv2, by rw [rv2.length]; exact hz, ?_⟩
        obtain ⟨S3, e3⟩ := S2.write (o := .lst (vs2 ++ [w])) (c := .lst (zs ++ [y])) hn2 ⟨_, upd_same, rv2.append (.cons r2 .nil), by rw [List.length_append]; exact hz⟩
        exact P2 _ _ _ _ e3 S3 .non
      · simp only [hz, if_false] at P2
        exact P2.elim
theorem x_ext (hp : plain a = true) (hy : plain b = true) (hl : (apos.endLine == pos.line) = true) (ha : PE X a (tE T W (evE Φ ea))) (hb : PE X b (tE T W (evE Φ eb))) : PE X (.Call (.Attribute a "extend" apos) [b] [] pos) (tE T W (evE Φ (.ext ea eb))) := by
  refine PE.imp (pe_bm PySem.F.plainAttrs_list PySem.F.slot_list_extend PySem.F.type_list_extend mt_extend ha (pa_cons hb pa_nil (star_cons hy)) (base_eq hp) (few1 (o := a) hy) hl (star_cons hy) rfl) fun σ H Q ⟨ι, F, ρ, st, S, E, P⟩ => ?_
  simp only [evE] at P
  refine ⟨ι, F, ρ, st, S, E, P.bind an_D fun x st1 ι1 F1 H1 v e1 S1 r1 P1 => ?_⟩
  cases hx : lstAt st1 x with
  | none => rw [hx] at P1; exact P1.elim
  | some ys =>
    rw [hx] at P1
    simp only [Option.isSome_some, if_true] at P1
    obtain ⟨p, vs, n, rfl, rfl, hn, hv, rv, _⟩ := lstAt_of S1 r1 hx
    refine ⟨.inl ⟨rfl, _, SqL.of hv⟩, ι1, F1, ρ, st1, S1, E.ext e1, P1.bind an_D fun y st2 ι2 F2 H2 w e2 S2 r2 P2 => ?_⟩
    cases y <;> first | exact P2.elim | skip
    rename_i ws
    cases hx2 : lstAt st2 (.ref n) with
    | none => rw [hx2] at P2; exact P2.elim
    | some zs =>
      rw [hx2] at P2
      obtain ⟨p', vs2, n', ep, en, hn2, hv2, rv2, z2⟩ := lstAt_of S2 (r1.ext e2) hx2
      cases ep; cases en
      by_cases hz : zs.length + ws.length ≤ sizeLine
      · simp only [hz, if_true] at P2
        cases r2 with
        | lst h2 r2 z =>
          refine ⟨p, _, vs2, _, rfl, rfl, hv2, S2.same _ _ h2, by rw [rv2.length, r2.length]; exact hz, ?_⟩
          obtain ⟨S3, e3⟩ := S2.write (o := .lst (vs2 ++ _)) (c := .lst (zs ++ ws)) hn2 ⟨_, upd_same, rv2.append r2, by rw [List.length_append]; exact hz⟩
          exact P2 _ _ _ _ e3 S3 .non
      · simp only [hz, if_false] at P2
        exact P2.elim
theorem x_pop (hp : plain a = true) (hl : (apos.endLine == pos.line) = true) (ha : PE X a (tE T W (evE Φ ea))) : PE X (.Call (.Attribute a "pop" apos) [] [] pos) (tE T W (evE Φ (.pop ea))) := by
  refine PE.imp (pe_bm0 PySem.F.plainAttrs_list PySem.F.slot_list_pop PySem.F.type_list_pop mt_pop ha (base_eq hp) hl) fun σ H Q ⟨ι, F, ρ, st, S, E, P⟩ => ?_
  simp only [evE] at P
  refine ⟨ι, F, ρ, st, S, E, P.bind an_D fun x st1 ι1 F1 H1 v e1 S1 r1 P1 => ?_⟩
  cases hx : lstAt st1 x with
  | none => rw [hx] at P1; exact P1.elim
  | some ys =>
    rw [hx] at P1
    obtain ⟨p, vs, n, rfl, rfl, hn, hv, rv, z⟩ := lstAt_of S1 r1 hx
    cases hy : ys[ys.length - 1]? with
    | none => simp only [hy] at P1; exact P1.elim
    | some y =>
      simp only [hy] at P1
      obtain ⟨w, hw, rw'⟩ := rv.get hy
      rw [← rv.length] at hw
      refine ⟨.inl ⟨rfl, _, SqL.of hv⟩, p, vs, w, rfl, rfl, hv, hw, ?_⟩
      obtain ⟨S3, e3⟩ := S1.write (o := .lst vs.dropLast) (c := .lst ys.dropLast) hn ⟨_, upd_same, rv.dropLast, by rw [List.length_dropLast]; omega⟩
      exact P1 _ _ _ _ e3 S3 rw'
/-- an owned list, looked at -/
theorem x_olen {i : Nat} {y : Str} {p p2 : Pos} (G : Facts T tb Φ X k) (hm : (("len" : Str)) ∈ tb.blt) (hg : Gl X "len") (hN : X.N[i]? = some y) (hv : Vis X.env.scope y) (hd : nodb y = true) :
    PE X (.Call (.Name "len" p) [.Name y p2] [] pos) (tE T W (evE Φ (.olen i))) := by
  refine PE.imp (pe_callB call_len_seq hg (G.blt _ hm) PySem.boot_len (pa_cons (pe_var hN hv (nodb_of hd).1 (nodb_of hd).2) pa_nil)) fun σ H Q ⟨ι, F, ρ, st, S, E, P⟩ => ?_
  simp only [evE] at P
  unfold getO at P
  split at P
  · rename_i xs hx
    split at hx
    · rename_i ys hy
      cases hx
      obtain ⟨a, vs, e1, e2, r, z, f, n⟩ := E.own i _ hy
      refine ⟨.ref a, e1, a, vs, rfl, .inl (SqL.of e2), ?_⟩
      rw [r.length]
      exact P ι F H _ Ext.refl S (.int _)
    · cases hx
  · exact P.elim
theorem x_oidx {i : Nat} {y : Str} {p : Pos} (G : Facts T tb Φ X k) (hN : X.N[i]? = some y) (hv : Vis X.env.scope y) (hd : nodb y = true) (hp : plain b = true) (hb : PE X b (tE T W (evE Φ eb))) :
    PE X (.Subscript (.Name y p) b pos) (tE T W (evE Φ (.oidx i eb))) := by
  refine PE.imp (pe_ix ix_list (pe_var hN hv (nodb_of hd).1 (nodb_of hd).2) hb (ix_eq hp)) fun σ H Q ⟨ι, F, ρ, st, S, E, P⟩ => ?_
  simp only [evE] at P
  -- the slot first
  have own : ∀ xs, getO ρ i = some xs → ∃ a vs, σ[i]? = some (some (.ref a)) ∧ H a = some (.lst vs) ∧ a ∉ ι ∧ RepL T F ι vs xs := fun xs hx => by
    unfold getO at hx
    split at hx
    · rename_i ys hy
      cases hx
      obtain ⟨a, vs, e1, e2, r, z, f, n⟩ := E.own i _ hy
      exact ⟨a, vs, e1, e2, n, r⟩
    · cases hx
  cases ho : getO ρ i with
  | none => rw [ho] at P; exact P.elim
  | some xs =>
    rw [ho] at P
    simp only at P
    obtain ⟨a, vs, e1, e2, n, r⟩ := own xs ho
    refine ⟨.ref a, e1, ι, F, ρ, st, S, E, P.bind an_D fun y st1 ι1 F1 H1 w x1 S1 r1 P1 => ?_⟩
    cases y <;> first | exact P1.elim | skip
    cases r1
    rename_i j
    cases ea : atD xs j with
    | none => simp only [ea] at P1; exact P1.elim
    | some d =>
      simp only [ea] at P1
      obtain ⟨u, hu, ru⟩ := atI_rep (r.ext x1) ea
      have hk := x1.kp a _ e2 n (fun z => z)
      exact ⟨a, vs, j, u, rfl, rfl, SqL.of hk, hu, P1 _ _ _ _ Ext.refl S1 ru⟩
end
end B

set_option Elab.async false
set_option linter.all false
set_option maxRecDepth 100000
set_option maxHeartbeats 4000000
namespace B
set_option autoImplicit false
open PySem PySem.Spec L2
open PyProof.Rows hiding St
variable {T : Kt} {X : Cx} {W : WX} {Φ : Phi} {tb : Tab} {k : Nat}
section
variable {ea eb ec : Ex} {a b c : Expr} {pos apos : Pos} {xs : Es} {es : List Expr}

/-! ### tests -/
theorem evT_def {e : Ex} {ρ : Slots} {st : Store} (h1 : ∀ x y, e ≠ .and x y) (h2 : ∀ x y, e ≠ .or x y) (h3 : ∀ x, e ≠ .not x) : evT Φ e ρ st = (evE Φ e ρ st).bind fun x st => lift (truD st x) st := by
  cases e <;> first | rfl | exact absurd rfl (h1 _ _) | exact absurd rfl (h2 _ _) | exact absurd rfl (h3 _) | (simp only [evT])
theorem t_and {rest : List Expr} (ha : PT X a (tK T W (evT Φ ea))) (hb : PT X (.BoolOp .And (b :: rest) pos) (tK T W (evT Φ eb))) (hw : PW X (.BoolOp .And (b :: rest) pos) (tK T W (evT Φ eb))) : PW X (.BoolOp .And (a :: b :: rest) pos) (tK T W (evT Φ (.and ea eb))) := by
  refine PW.imp (pw_and ha hw) fun σ H Q ⟨ι, F, ρ, st, S, E, P⟩ => ?_
  simp only [evT] at P
  refine ⟨ι, F, ρ, st, S, E, P.bind an_B fun kk st1 ι1 F1 H1 v e1 S1 r1 P1 => ?_⟩
  subst r1
  cases v with
  | true => exact ⟨ι1, F1, ρ, st1, S1, E.ext e1, P1⟩
  | false => exact P1 ι1 F1 H1 _ Ext.refl S1 rfl
theorem t_or {rest : List Expr} (ha : PT X a (tK T W (evT Φ ea))) (hw : PW X (.BoolOp .Or (b :: rest) pos) (tK T W (evT Φ eb))) : PW X (.BoolOp .Or (a :: b :: rest) pos) (tK T W (evT Φ (.or ea eb))) := by
  refine PW.imp (pw_or ha hw) fun σ H Q ⟨ι, F, ρ, st, S, E, P⟩ => ?_
  simp only [evT] at P
  refine ⟨ι, F, ρ, st, S, E, P.bind an_B fun kk st1 ι1 F1 H1 v e1 S1 r1 P1 => ?_⟩
  subst r1
  cases v with
  | true => exact P1 ι1 F1 H1 _ Ext.refl S1 rfl
  | false => exact ⟨ι1, F1, ρ, st1, S1, E.ext e1, P1⟩
theorem t_not (ha : PT X a (tK T W (evT Φ ea))) : PT X (.UnaryOp .Not a pos) (tK T W (evT Φ (.not ea))) := by
  refine PT.imp (pt_not ha) fun σ H Q ⟨ι, F, ρ, st, S, E, P⟩ => ?_
  simp only [evT] at P
  refine ⟨ι, F, ρ, st, S, E, P.bind an_B fun kk st1 ι1 F1 H1 v e1 S1 r1 P1 => ?_⟩
  subst r1
  exact P1 ι1 F1 H1 _ Ext.refl S1 rfl
theorem t_val {e : Ex} (G : Facts T tb Φ X k) (hb : bareTest a = true) (h : PE X a (tE T W (evE Φ e))) (h1 : ∀ x y, e ≠ .and x y) (h2 : ∀ x y, e ≠ .or x y) (h3 : ∀ x, e ≠ .not x) : PT X a (tK T W (evT Φ e)) := by
  refine PT.imp (pt_truth h (test_eq hb)) fun σ H Q ⟨ι, F, ρ, st, S, E, P⟩ => ?_
  rw [evT_def h1 h2 h3] at P
  refine ⟨ι, F, ρ, st, S, E, P.bind an_B fun x st1 ι1 F1 H1 v e1 S1 r1 P1 => ?_⟩
  cases e : truD st1 x with
  | none => rw [e] at P1; exact P1.elim
  | some kk =>
    rw [e] at P1
    exact ⟨kk, by rw [G.hK]; exact tru_D S1 r1 e, P1 ι1 F1 H1 _ Ext.refl S1 rfl⟩
/-- an expression that gives a truth, as a test -/
theorem bl_of {e : Ex} {σ : St} {H : Hp} {Q : Bool → Hp → Prop} (hb : ∀ ρ st d st', evE Φ e ρ st = .ok d st' → ∃ kk, d = .bl kk) (h1 : ∀ x y, e ≠ .and x y) (h2 : ∀ x y, e ≠ .or x y) (h3 : ∀ x, e ≠ .not x) (h : tK T W (evT Φ e) σ H Q) :
    tE T W (evE Φ e) σ H (fun x H' => ∃ kk, x = .bl kk ∧ Q kk H') := by
  obtain ⟨ι, F, ρ, st, S, E, P⟩ := h
  rw [evT_def h1 h2 h3] at P
  refine ⟨ι, F, ρ, st, S, E, ?_⟩
  cases ev : evE Φ e ρ st with
  | stuck => rw [ev] at P; exact P
  | exc _ _ => rw [ev] at P; exact P
  | ok x st1 =>
    rw [ev] at P
    obtain ⟨kk, rfl⟩ := hb _ _ _ _ ev
    intro ι1 F1 H1 v e1 S1 r1
    cases r1
    exact ⟨kk, rfl, P _ _ _ _ e1 S1 rfl⟩
theorem bl_cmp {o : Cop} : ∀ (ρ : Slots) (st : Store) (d : D) (st' : Store), evE Φ (.cmp o ea eb) ρ st = .ok d st' → ∃ kk, d = .bl kk := fun ρ st d st' h => by
  simp only [evE] at h
  cases h1 : evE Φ ea ρ st with
  | ok x st1 =>
    rw [h1] at h
    simp only [R.bind] at h
    cases h2 : evE Φ eb ρ st1 with
    | ok y st2 =>
      rw [h2] at h
      cases h3 : cmpD o st2 x y with
      | none => simp only [h3, lift] at h; cases h
      | some kk => simp only [h3, lift] at h; cases h; exact ⟨kk, rfl⟩
    | exc _ _ => rw [h2] at h; cases h
    | stuck => rw [h2] at h; cases h
  | exc _ _ => rw [h1] at h; cases h
  | stuck => rw [h1] at h; cases h
theorem bl_chn {o o' : Cop} : ∀ (ρ : Slots) (st : Store) (d : D) (st' : Store), evE Φ (.chn o o' ea eb ec) ρ st = .ok d st' → ∃ kk, d = .bl kk := fun ρ st d st' h => by
  simp only [evE] at h
  cases h1 : evE Φ ea ρ st with
  | ok x st1 =>
    rw [h1] at h
    simp only [R.bind] at h
    cases h2 : evE Φ eb ρ st1 with
    | ok y st2 =>
      rw [h2] at h
      cases h3 : cmpD o st2 x y with
      | none => simp only [h3, lift] at h; cases h
      | some kk =>
        simp only [h3, lift] at h
        cases kk with
        | false => simp at h; exact ⟨false, h.1.symm⟩
        | true =>
          simp only [if_true] at h
          cases h4 : evE Φ ec ρ st2 with
          | ok z st3 =>
            rw [h4] at h
            cases h5 : cmpD o' st3 y z with
            | none => simp only [h5] at h; cases h
            | some kk => simp only [h5] at h; cases h; exact ⟨kk, rfl⟩
          | exc _ _ => rw [h4] at h; cases h
          | stuck => rw [h4] at h; cases h
    | exc _ _ => rw [h2] at h; cases h
    | stuck => rw [h2] at h; cases h
  | exc _ _ => rw [h1] at h; cases h
  | stuck => rw [h1] at h; cases h
theorem cmp_red {o : Cop} {σ : St} {H : Hp} {Q : VK} (h : tE T W (evE Φ (.cmp o ea eb)) σ H Q) : tOp (rV2 T (gC o)) (tE T W (evE Φ ea)) (tE T W (evE Φ eb)) σ H Q := by
  obtain ⟨ι, F, ρ, st, S, E, P⟩ := h
  simp only [evE] at P
  refine ⟨ι, F, ρ, st, S, E, P.bind an_D fun x st1 ι1 F1 H1 v e1 S1 r1 P1 => ?_⟩
  refine ⟨ι1, F1, ρ, st1, S1, E.ext e1, P1.bind an_D fun y st2 ι2 F2 H2 u e2 S2 r2 P2 => ?_⟩
  rw [lift_bl] at P2
  exact post_v2 (ι := ι) (F := F) (H := H) (g := gC o) S2 (r1.ext e2) r2 rfl P2
theorem t_cmp {o : Cop} (G : Facts T tb Φ X k) (hp : plain b = true) (ha : PE X a (tE T W (evE Φ ea))) (hb : PE X b (tE T W (evE Φ eb))) : PT X (.Compare a [copOf o] [b] pos) (tK T W (evT Φ (.cmp o ea eb))) :=
  PT.imp (pt_cmpR (b_cmp G.hK G.room.units o) ha hb (behind_eq hp)) fun σ H Q h => cmp_red (bl_of bl_cmp (fun _ _ z => nomatch z) (fun _ _ z => nomatch z) (fun _ z => nomatch z) h)
theorem t_chn {o o' : Cop} (G : Facts T tb Φ X k) (hp : plain c = true) (ha : PE X a (tE T W (evE Φ ea))) (hb : PE X b (tE T W (evE Φ eb))) (hc : PE X c (tE T W (evE Φ ec))) :
    PT X (.Compare a [copOf o, copOf o'] [b, c] pos) (tK T W (evT Φ (.chn o o' ea eb ec))) :=
  PT.imp (pt_chain (b_cmp G.hK G.room.units o) (b_cmp G.hK G.room.units o') ha hb hc (last_marks hp)) fun σ H Q h => chn_red (bl_of bl_chn (fun _ _ z => nomatch z) (fun _ _ z => nomatch z) (fun _ z => nomatch z) h)

/-! ### lists that are made -/
theorem RSt.other {ι : List Addr} {F H : Hp} {st : Store} (S : RSt T ι F H st) {p : Addr} {o : HO} (hn : p ∉ ι) (hf : F p = none) : RSt T ι F (upd H p o) st := by
  refine ⟨fun b x e => ?_, S.len, S.nd, fun i a c h1 h2 => ?_⟩
  · have hb : b ≠ p := fun z => by rw [z, hf] at e; cases e
    rw [upd_ne hb]
    exact S.same _ _ e
  · obtain ⟨n, q⟩ := S.cell i a c h1 h2
    have ha : a ≠ p := fun z => hn (by rw [← z]; exact List.mem_of_getElem? h1)
    exact ⟨n, q.mono (fun _ _ h => h) (List.prefix_refl _) fun o' e => by rw [upd_ne ha]; exact e⟩
theorem Ext.other {X : Addr → Prop} {ι0 ι : List Addr} {F0 H0 F H : Hp} (e : Ext X ι0 F0 H0 ι F H) {p : Addr} {o : HO} (h0 : H0 p = none ∨ X p) : Ext X ι0 F0 H0 ι F (upd H p o) where
  fr := e.fr
  io := e.io
  kp := fun a o' h n x => by
    have ha : a ≠ p := fun z => by
      subst z
      rcases h0 with h0 | h0
      · rw [h0] at h; cases h
      · exact x h0
    rw [upd_ne ha]
    exact e.kp a o' h n x
  fz := e.fz
  nw := e.nw
  th := fun a h => by
    by_cases z : a = p
    · rw [z, upd_same]; exact fun w => nomatch w
    · rw [upd_ne z]; exact e.th a h
theorem free_of {X : Addr → Prop} {ι ι' : List Addr} {F F' H H' : Hp} (e : Ext X ι F H ι' F' H') {p : Addr} (h : H' p = none) : H p = none := by
  cases q : H p with
  | none => rfl
  | some o => exact absurd h (e.th p (by rw [q]; exact fun w => nomatch w))
theorem c_disp {xs : Es} (hl : xs.len ≤ 1000) (h : PA X es (tEs T W (evEs Φ xs))) : PE X (.List es pos) (tCr T W (evC Φ (.disp xs))) := by
  refine PE.imp (pe_lst h) fun σ H Q ⟨ι, F, ρ, st, S, E, P⟩ => ?_
  simp only [evC] at P
  refine ⟨ι, F, ρ, st, S, E, ?_⟩
  cases ev : evEs Φ xs ρ st with
  | stuck => rw [ev] at P; exact P
  | exc _ _ => rw [ev] at P; exact P
  | ok ds st1 =>
    rw [ev] at P
    have hz : ds.length ≤ sizeLine := by rw [evEs_len ev]; exact line1000 hl
    intro ι1 F1 H1 vs e1 S1 r1
    refine ⟨by rw [r1.length]; exact hz, fun p hp => ?_⟩
    obtain ⟨S2, e2⟩ := S1.beside hp (.lst vs)
    exact P _ _ _ _ (e1.trans0 e2) S2 ⟨p, vs, rfl, upd_same, free_of e1 hp, nf S1.same hp, S1.fresh hp, r1, hz⟩
theorem c_copy {p : Pos} (G : Facts T tb Φ X k) (hm : ("list" : Str) ∈ tb.blt) (hg : Gl X "list") (hp : plain a = true) (ha : PE X a (tE T W (evE Φ ea))) : PE X (.Call (.Name "list" p) [a] [] pos) (tCr T W (evC Φ (.copy ea))) := by
  refine PE.imp (pe_callTy call_list_of hg (G.blt _ hm) (by decide +kernel) (pa_cons ha pa_nil (star_cons hp)) (by decide +kernel) (by decide +kernel) (star_cons hp) rfl) fun σ H Q ⟨ι, F, ρ, st, S, E, P⟩ => ?_
  simp only [evC] at P
  refine ⟨ι, F, ρ, st, S, E, P.bind an_C fun x st1 ι1 F1 H1 v e1 S1 r1 P1 => ?_⟩
  cases e : seqOf st1 x with
  | none => rw [e] at P1; exact P1.elim
  | some ds =>
    rw [e] at P1
    obtain ⟨p', vs, rfl, hs, r, z⟩ := RepW.seq' (H := H1) S1 r1 e
    refine ⟨p', vs, rfl, by rw [G.hK]; exact hs, fun l hl => ?_⟩
    obtain ⟨S2, e2⟩ := S1.beside hl (.lst vs)
    exact P1 _ _ _ _ e2 S2 ⟨l, vs, rfl, upd_same, hl, nf S1.same hl, S1.fresh hl, r, z⟩
theorem c_cat (ha : PE X a (tE T W (evE Φ ea))) (hb : PE X b (tE T W (evE Φ eb))) : PE X (.BinOp a .Add b pos) (tCr T W (evC Φ (.cat ea eb))) := by
  refine PE.imp (pe_op op_cat ha hb) fun σ H Q ⟨ι, F, ρ, st, S, E, P⟩ => ?_
  simp only [evC] at P
  refine ⟨ι, F, ρ, st, S, E, P.bind an_C fun x st1 ι1 F1 H1 v e1 S1 r1 P1 => ?_⟩
  refine ⟨ι1, F1, ρ, st1, S1, E.ext e1, P1.bind an_C fun y st2 ι2 F2 H2 u e2 S2 r2 P2 => ?_⟩
  replace r1 := S2.view (r1.ext e2)
  replace r2 := S2.view r2
  generalize view st2 x = x at r1 P2
  generalize view st2 y = y at r2 P2
  cases x <;> try (exact P2.elim)
  cases y <;> try (exact P2.elim)
  rename_i xs ys
  by_cases hz : xs.length + ys.length ≤ sizeLine
  · simp only [hz, if_true] at P2
    obtain ⟨_, _, rfl, h1, q1, z1⟩ := r1.lst' S2.same
    obtain ⟨_, _, rfl, h2, q2, z2⟩ := r2.lst' S2.same
    · · refine ⟨_, _, _, _, rfl, rfl, h1, h2, by rw [q1.length, q2.length]; exact hz, fun p hp => ?_⟩
        obtain ⟨S3, e3⟩ := S2.beside hp (.lst (_ ++ _))
        exact P2 _ _ _ _ e3 S3 ⟨p, _, rfl, upd_same, hp, nf S2.same hp, S2.fresh hp, q1.append q2, by rw [List.length_append]; exact hz⟩
  · simp only [hz, if_false] at P2
    exact P2.elim
end
end B

set_option Elab.async false
set_option linter.all false
set_option maxRecDepth 100000
set_option maxHeartbeats 4000000
namespace B
set_option autoImplicit false
open PySem PySem.Spec L2
open PyProof.Rows hiding St
variable {T : Kt} {X : Cx} {W : WX} {Φ : Phi} {tb : Tab} {k : Nat}

/-! ### targets -/
def OwnLe (σ : St) (ρ : Slots) (σ' : St) (ρ' : Slots) : Prop := ∀ a, Own σ' ρ' a → Own σ ρ a
/-- behind a target: the slots -/
def PostG (T : Kt) (js : List Nat) (σ : St) (ρ : Slots) (ι : List Addr) (F H : Hp) (r : R Slots) (Q : St → Hp → Prop) : Prop :=
  match r with
  | .ok ρ' st' => ∀ ι' F' H' σ', Ext0 ι F H ι' F' H' → RSt T ι' F' H' st' → REnv T ι' F' H' σ' ρ' → OwnLe σ ρ σ' ρ' → ((∀ j, j ∉ js → σ'[j]? = σ[j]?) ∧ σ'.length = σ.length) → Q σ' H'
  | _ => False
def tA (T : Kt) (js : List Nat) (f : D → Slots → Store → R Slots) : TG := fun v σ H Q => ∃ ι F ρ st d, RSt T ι F H st ∧ REnv T ι F H σ ρ ∧ Rep T F ι v d ∧ PostG T js σ ρ ι F H (f d ρ st) Q
def tAs (T : Kt) (js : List Nat) (f : List D → Slots → Store → R Slots) : TGs := fun vs σ H Q => ∃ ι F ρ st ds, RSt T ι F H st ∧ REnv T ι F H σ ρ ∧ RepL T F ι vs ds ∧ PostG T js σ ρ ι F H (f ds ρ st) Q
theorem PG.imp {e : Expr} {t t' : TG} (h : PG X e t) (i : ∀ v σ H Q, t' v σ H Q → t v σ H Q) : PG X e t' := ⟨fun pins s σ H v u Q I r q => h.run pins s σ H v u Q I r (i v σ H Q q)⟩
theorem PGs.imp {e : List Expr} {t t' : TGs} (h : PGs X e t) (i : ∀ v σ H Q, t' v σ H Q → t v σ H Q) : PGs X e t' := ⟨fun pins s σ H v u Q I r q => h.run pins s σ H v u Q I r (i v σ H Q q)⟩
theorem get_set_ne' {α : Type} {l : List α} {i j : Nat} {x : α} (h : j ≠ i) : (l.set i x)[j]? = l[j]? := by rw [List.getElem?_set_ne (Ne.symm h)]
theorem get_set_eq' {α : Type} {l : List α} {i : Nat} {x y : α} (h : (l.set i x)[i]? = some y) : y = x := by
  by_cases hi : i < l.length
  · rw [List.getElem?_set_self hi] at h
    exact (Option.some.inj h).symm
  · rw [List.getElem?_eq_none (by simp; omega)] at h
    cases h
theorem REnv.set {ι : List Addr} {F H : Hp} {σ : St} {ρ : Slots} (E : REnv T ι F H σ ρ) (i : Nat) {v : V} {d : D} (r : Rep T F ι v d) : REnv T ι F H (σ.set i (some v)) (ρ.set i (.val d)) where
  len := by simp [E.len]
  val := fun j e h => by
    by_cases hj : j = i
    · subst hj
      have z := get_set_eq' h
      cases z
      have hl : j < σ.length := by
        rw [E.len]
        have := (List.getElem?_eq_some_iff.mp h).1
        simpa using this
      exact ⟨v, List.getElem?_set_self hl, r⟩
    · rw [get_set_ne' hj] at h
      obtain ⟨w, e1, r1⟩ := E.val j e h
      exact ⟨w, by rw [get_set_ne' hj]; exact e1, r1⟩
  own := fun j ds h => by
    by_cases hj : j = i
    · subst hj
      cases get_set_eq' h
    · rw [get_set_ne' hj] at h
      obtain ⟨a, vs, e1, q⟩ := E.own j ds h
      exact ⟨a, vs, by rw [get_set_ne' hj]; exact e1, q⟩
  sep := fun j l ds es a h1 h2 h3 h4 => by
    have n : ∀ {j ds}, (ρ.set i (.val d))[j]? = some (.own ds) → j ≠ i := fun {j ds} h z => by
      subst z
      cases get_set_eq' h
    have nj := n h1
    have nl := n h2
    rw [get_set_ne' nj] at h1 h3
    rw [get_set_ne' nl] at h2 h4
    exact E.sep j l ds es a h1 h2 h3 h4
theorem OwnLe.set {σ : St} {ρ : Slots} (i : Nat) (v : Option V) (d : D) : OwnLe σ ρ (σ.set i v) (ρ.set i (.val d)) := fun a ⟨j, ds, h1, h2⟩ => by
  have nj : j ≠ i := fun z => by
    subst z
    cases get_set_eq' h1
  rw [get_set_ne' nj] at h1 h2
  exact ⟨j, ds, h1, h2⟩
section
variable {a b : Expr} {pos : Pos} {eo ei : Ex}
theorem g_name {i : Nat} {x : Str} (hN : X.N.Nodup) (hi : X.N[i]? = some x) (hx : Loc X.env.scope x) (hf : X.fn x = true ∨ X.env.scope.names.lookup x = some .local) : PG X (.Name x pos) (tA T [i] (asT Φ (.nm i))) := by
  refine PG.imp (pg_name hN hi hx hf) fun v σ H Q ⟨ι, F, ρ, st, d, S, E, r, P⟩ => ?_
  simp only [asT] at P
  exact P ι F H _ Ext.refl S (E.set i r) (OwnLe.set i _ d) ⟨fun j hj => get_set_ne' (fun z => hj (by simp [z])), List.length_set⟩
theorem gs_nil : PGs X [] (tAs T [] (asTs Φ .nil)) := by
  refine PGs.imp pgs_nil fun v σ H Q ⟨ι, F, ρ, st, ds, S, E, r, P⟩ => ?_
  cases r with
  | nil =>
    simp only [asTs] at P
    exact ⟨rfl, P ι F H σ Ext.refl S E (fun _ h => h) ⟨fun _ _ => rfl, rfl⟩⟩
  | cons _ _ =>
    simp only [asTs] at P
    exact P.elim
theorem assign_each {e : Expr} {es : List Expr} {env : PySem.Env} (h : plain e = true) : (assignEach (e :: es) env).map (·.2) = assign e env :: (assignEach es env).map (·.2) := by
  cases e <;> first | rfl | cases h
theorem gs_cons {e : Expr} {es : List Expr} {t : Tg} {ts : Ts} {js ks : List Nat} (hp : plain e = true) (h1 : PG X e (tA T js (asT Φ t))) (h2 : PGs X es (tAs T ks (asTs Φ ts))) : PGs X (e :: es) (tAs T (js ++ ks) (asTs Φ (.cons t ts))) := by
  refine PGs.imp (pgs_cons h1 h2 (assign_each hp)) fun vv σ H Q ⟨ι, F, ρ, st, dd, S, E, r, P⟩ => ?_
  cases r with
  | nil =>
    simp only [asTs] at P
    exact P.elim
  | @cons v vs d ds r rr =>
    simp only [asTs] at P
    refine ⟨v, vs, rfl, ι, F, ρ, st, d, S, E, r, ?_⟩
    cases ev : asT Φ t d ρ st with
    | stuck => rw [ev] at P; exact P
    | exc _ _ => rw [ev] at P; exact P
    | ok ρ1 st1 =>
      rw [ev] at P
      simp only [R.bind] at P
      intro ι1 F1 H1 σ1 e1 S1 E1 o1 n1
      refine ⟨ι1, F1, ρ1, st1, ds, S1, E1, rr.ext e1, ?_⟩
      cases ev2 : asTs Φ ts ds ρ1 st1 with
      | stuck => rw [ev2] at P; exact P
      | exc _ _ => rw [ev2] at P; exact P
      | ok ρ2 st2 =>
        rw [ev2] at P
        intro ι2 F2 H2 σ2 e2 S2 E2 o2 n2
        refine P ι2 F2 H2 σ2 (e1.trans0 e2) S2 E2 (fun a h => o1 a (o2 a h)) ⟨fun j hj => ?_, n2.2.trans n1.2⟩
        rw [n2.1 j fun z => hj (List.mem_append_right _ z), n1.1 j fun z => hj (List.mem_append_left _ z)]
theorem starred_none : ∀ {es : List Expr} {env : PySem.Env}, (∀ e ∈ es, plain e = true) → (assignEach es env).findIdx? (·.1) = none ∧ (assignEach es env).length = es.length
  | [], _, _ => ⟨rfl, rfl⟩
  | e :: es, env, h => by
    obtain ⟨h1, h2⟩ := starred_none (es := es) (env := env) fun x hx => h x (List.mem_cons_of_mem _ hx)
    have he := h e List.mem_cons_self
    have eq : assignEach (e :: es) env = (false, assign e env) :: assignEach es env := by
      cases e <;> first | rfl | cases he
    rw [eq]
    refine ⟨?_, by rw [List.length_cons, h2]; rfl⟩
    rw [List.findIdx?_cons]
    simp [h1]
theorem g_tup {es : List Expr} {j : Nat} {ts : Ts} {js : List Nat} (hc : X.calm = true) (hK : X.K = T.K) (hs : ∀ e ∈ es, plain e = true) (h : PGs X es (tAs T js (asTs Φ ts))) (hl : ∀ xs ρ st ρ' st', asTs Φ ts xs ρ st = .ok ρ' st' → xs.length = es.length) :
    PG X (.Tuple es j pos) (tA T js (asT Φ (.tp ts))) := by
  obtain ⟨z1, z2⟩ := starred_none (env := X.env) hs
  refine PG.imp (pg_tup hc h z2 z1) fun v σ H Q ⟨ι, F, ρ, st, d, S, E, r, P⟩ => ?_
  cases r with
  | @tup a xs ds ht r z =>
    simp only [asT] at P
    refine ⟨a, xs, rfl, by rw [hK]; exact Same.seqT S.same ht, ?_, ι, F, ρ, st, ds, S, E, r, P⟩
    cases ev : asTs Φ ts ds ρ st with
    | stuck => simp only [ev] at P; exact P.elim
    | exc _ _ => simp only [ev] at P; exact P.elim
    | ok ρ' st' => rw [r.length]; exact hl _ _ _ _ _ ev
  | _ =>
    simp only [asT] at P
    exact P.elim
/-- where nothing is raised -/
theorem noExc_post {β α γ : Type} {rel : Rel β γ} {x : R γ} {g : γ → Store → R α} {σ : St} {ι : List Addr} {F H : Hp} {Q1 : β → Hp → Prop} (hne : (noExc x).bind g ≠ .stuck) (h : ∀ a st1, x = .ok a st1 → ∀ ι1 F1 H1 b, Ext0 ι F H ι1 F1 H1 → RSt T ι1 F1 H1 st1 → rel H ι1 F1 H1 b a → Q1 b H1) :
    Post T rel W σ ι F H x Q1 := by
  cases x with
  | ok a st => exact fun ι1 F1 H1 b e S r => h a st rfl ι1 F1 H1 b e S r
  | exc c st => exact absurd rfl hne
  | stuck => exact absurd rfl hne
theorem PostG.ne {js : List Nat} {σ : St} {ρ : Slots} {ι : List Addr} {F H : Hp} {r : R Slots} {Q : St → Hp → Prop} (P : PostG T js σ ρ ι F H r Q) : r ≠ .stuck := fun e => by rw [e] at P; exact P
theorem PostG.ext {js : List Nat} {σ : St} {ρ : Slots} {ι ι1 : List Addr} {F F1 H H1 : Hp} {r : R Slots} {Q : St → Hp → Prop} (e : Ext0 ι F H ι1 F1 H1) (P : PostG T js σ ρ ι F H r Q) : PostG T js σ ρ ι1 F1 H1 r Q := by
  cases r with
  | ok ρ' st' => exact fun ι' F' H' σ' x S E o n => P ι' F' H' σ' (e.trans0 x) S E o n
  | exc _ _ => exact P
  | stuck => exact P
/-- o.f = v, as a target -/
def gFl (K : PySem.W.Frag) (to : TE) (f : Str) : TG := fun v σ H Q => to σ H fun x H1 => ∃ a C dx fs, x = .ref a ∧ H1 a = some (.ins C dx fs) ∧ Cls K C ∧ NoAttr K C f ∧ fs.length < 1000 ∧ Q σ (upd H1 a (.ins C dx (L2.putF f v fs)))
theorem pg_fl {o : Expr} {to : TE} {f : Str} (ho : PE X o to) : PG X (.Attribute o f pos) (gFl X.K to f) := by
  refine ⟨fun pins s σ H v u Q I r h => ?_⟩
  rw [PySem.assign_Attribute]
  refine wpAny_bind (wpAny_holding (thn (ho.run pins s σ H _ I h) fun ov s1 ⟨x, H1, I1, r1, a, C, dx, fs, ex, ea, c, n, hl, q⟩ => ?_))
  subst ex
  obtain rfl : ov = Value.ref a := r1
  refine wpAny_bind (wpAny_standAt (wpAny_bind (wpAny_holding ?_)))
  refine setattr_ok I1 ea c n hl r fun s2 I2 => ?_
  exact wpAny_release ⟨σ, _, I2, q⟩
theorem g_fl {f : Str} (G : Facts T tb Φ X k) (hf : f ∈ tb.flds) (ho : PE X a (tE T (fun _ _ _ _ => False) (evE Φ eo))) : PG X (.Attribute a f pos) (tA T [] (asT Φ (.fl eo f))) := by
  refine PG.imp (pg_fl ho) fun v σ H Q ⟨ι, F, ρ, st, d, S, E, r, P⟩ => ?_
  simp only [asT] at P
  refine ⟨ι, F, ρ, st, S, E, noExc_post P.ne fun x st1 ev ι1 F1 H1 w e1 S1 r1 => ?_⟩
  rw [ev] at P
  simp only [noExc, R.bind] at P
  replace P := P.ext e1
  cases x <;> try (exact P.elim)
  rename_i n
  cases r1 with
  | ref hr =>
    rename_i a
    cases e2 : st1[n]? with
    | none => simp only [e2] at P; exact P.elim
    | some cc =>
      simp only [e2] at P
      cases cc with
      | lst _ => exact P.elim
      | dict _ => exact P.elim
      | ins c fs =>
        obtain ⟨_, dx, ws, e3, rf, kn⟩ := S1.cell n a _ hr e2
        obtain ⟨hcl, hna⟩ := G.flds c f kn hf
        by_cases hz : fs.length < 1000
        · simp only [hz, if_true] at P
          have hw : ws.length = fs.length := Paired.length rf
          refine ⟨a, _, dx, ws, rfl, e3, hcl, hna, by rw [hw]; exact hz, ?_⟩
          obtain ⟨S3, e4⟩ := S1.write (o := .ins (T.cl c) dx (L2.putF f v ws)) (c := .ins c (putF f d fs)) hr ⟨dx, _, upd_same, RepF.put (r.ext e1) rf, kn⟩
          exact P _ _ _ σ e4 S3 ((E.ext e1).ext e4) (fun _ h => h) ⟨fun _ _ => rfl, rfl⟩
        · simp only [hz, if_false] at P
          exact P.elim
/-- o[i] = v by values: a list, a dict with text keys -/
def rSb (T : Kt) : TSet := fun o i v H Q => ∃ ι F st x y d st', RSt T ι F H st ∧ Rep T F ι o x ∧ Rep T F ι i y ∧ Rep T F ι v d ∧
  (match x with
  | .ref n => match st[n]?, y with
    | some (.lst xs), .int k => match L2.ixN xs.length k with
      | some j => R.ok () (putCell st n (.lst (xs.set j d)))
      | none => .stuck
    | some (.dict kvs), .str k => if kvs.length < sizeLine then R.ok () (putCell st n (.dict (putK kvs k d))) else .stuck
    | _, _ => .stuck
  | _ => .stuck) = R.ok () st' ∧ ∀ ι' F' H', Ext0 ι F H ι' F' H' → RSt T ι' F' H' st' → Q H'
theorem b_sb (hu : X.A.units + 1 < cLine) : PSet X (rSb T) := by
  intro pins s σ H o i v ov iv u Q I ro ri rv h
  obtain ⟨ι, F, st, x, y, d, st', S, r1, r2, r3, e, q⟩ := h
  cases x <;> try (cases e; done)
  rename_i n
  cases r1 with
  | ref hr =>
    rename_i a
    cases e1 : st[n]? with
    | none => simp only [e1] at e; cases e
    | some cc =>
      simp only [e1] at e
      obtain ⟨_, hc⟩ := S.cell n a _ hr e1
      cases cc with
      | lst xs =>
        cases y <;> try (cases e; done)
        rename_i j
        cases r2
        obtain ⟨vs, e3, rl, z⟩ := hc
        cases e2 : ixN xs.length j with
        | none => simp only [e2] at e; cases e
        | some m =>
          simp only [e2] at e
          cases e
          refine set_list pins s σ H _ _ v ov iv u Q I ro ri rv ⟨a, vs, j, m, rfl, rfl, e3, by rw [rl.length]; exact e2, ?_⟩
          obtain ⟨S3, e4⟩ := S.write (o := .lst (vs.set m v)) (c := .lst (xs.set m d)) hr ⟨_, upd_same, RepL.set r3 m rl, by rw [List.length_set]; exact z⟩
          exact q _ _ _ e4 S3
      | dict kvs =>
        cases y <;> try (cases e; done)
        rename_i key
        cases r2
        obtain ⟨ws, e3, rf⟩ := hc
        by_cases hz : kvs.length < sizeLine
        · simp only [hz, if_true] at e
          cases e
          obtain ⟨ws', e4, rf'⟩ := RepF.putK (k := key) r3 rf
          have hw : (kws ws).length < sizeLine := by
            unfold kws
            rw [List.length_map, Paired.length rf]
            exact hz
          cases ro
          have g : DPut H a (.str key) v (upd H a (.dK (kws ws'))) := by
            have := DPut.k (k := (Sum.inr key : Key)) (v := v) e3 hw
            rw [e4] at this
            exact this
          refine d_setItem hu I g ri rv fun s' I' => ?_
          obtain ⟨S3, e5⟩ := S.write (o := .dK (kws ws')) (c := .dict (putK kvs key d)) hr ⟨ws', upd_same, rf'⟩
          exact ⟨_, I', q _ _ _ e5 S3⟩
        · simp only [hz, if_false] at e
          cases e
      | ins c fs => cases y <;> cases e
theorem sub_eq {o i : Expr} {env : PySem.Env} (h : plain i = true) (v : Value) : assign (.Subscript o i pos) env v = (do
      let ov ← holding [v] (eval o env)
      let iv ← holding [v, ov] (eval i env)
      standAt pos
      holding [v, ov, iv] (setItem ov iv v)
      release [v, ov, iv] []) := by
  cases i <;> first | rfl | cases h
theorem g_sb (G : Facts T tb Φ X k) (hp : plain b = true) (ho : PE X a (tE T (fun _ _ _ _ => False) (evE Φ eo))) (hi : PE X b (tE T (fun _ _ _ _ => False) (evE Φ ei))) : PG X (.Subscript a b pos) (tA T [] (asT Φ (.sb eo ei))) := by
  refine PG.imp (pg_sub ho hi (b_sb (T := T) (hu_of G.room)) (sub_eq hp)) fun v σ H Q ⟨ι, F, ρ, st, d, S, E, r, P⟩ => ?_
  simp only [asT] at P
  refine ⟨ι, F, ρ, st, S, E, noExc_post P.ne fun x st1 ev ι1 F1 H1 w e1 S1 r1 => ?_⟩
  rw [ev] at P
  simp only [noExc, R.bind] at P
  replace P := P.ext e1
  have E1 := E.ext e1
  refine ⟨ι1, F1, ρ, st1, S1, E1, noExc_post (g := fun y st2 => _) P.ne fun y st2 ev2 ι2 F2 H2 w2 e2 S2 r2 => ?_⟩
  rw [ev2] at P
  simp only [noExc, R.bind] at P
  replace P := P.ext e2
  have E2 := E1.ext e2
  have rx := r1.ext e2
  have rd := r.ext (e1.trans0 e2)
  cases x <;> try (exact P.elim)
  rename_i n
  cases e3 : st2[n]? with
  | none => simp only [e3] at P; exact P.elim
  | some cc =>
    simp only [e3] at P
    cases cc with
    | lst xs =>
      cases y <;> try (exact P.elim)
      rename_i j
      cases e4 : L2.ixN xs.length j with
      | none => simp only [e4] at P; exact P.elim
      | some m =>
        simp only [e4] at P
        exact ⟨ι2, F2, st2, .ref n, .int j, d, _, S2, rx, r2, rd, by simp only [e3, e4], fun ι' F' H' e5 S5 => P _ _ _ σ e5 S5 (E2.ext e5) (fun _ h => h) ⟨fun _ _ => rfl, rfl⟩⟩
    | dict kvs =>
      cases y <;> try (exact P.elim)
      rename_i key
      by_cases hz : kvs.length < sizeLine
      · simp only [hz, if_true] at P
        exact ⟨ι2, F2, st2, .ref n, .str key, d, _, S2, rx, r2, rd, by simp only [e3, hz, if_true], fun ι' F' H' e5 S5 => P _ _ _ σ e5 S5 (E2.ext e5) (fun _ h => h) ⟨fun _ _ => rfl, rfl⟩⟩
      · simp only [hz, if_false] at P
        exact P.elim
    | ins c fs => cases y <;> exact P.elim
end
end B

set_option Elab.async false
set_option linter.all false
set_option maxRecDepth 100000
set_option maxHeartbeats 4000000
namespace B
set_option autoImplicit false
open PySem PySem.Spec L2
open PyProof.Rows hiding St
variable {T : Kt} {X : Cx} {W : WX} {Φ : Phi} {tb : Tab} {k : Nat}
abbrev W0 : WX := fun _ _ _ _ => False

/-! ### what is walked -/
section
variable {a b tg : Expr} {pos p p2 : Pos} {ea eb : Ex}
theorem i_val (G : Facts T tb Φ X k) (ha : PE X a (tE T W (evE Φ ea))) : PI X tg a (tIt T W (evI Φ (.val ea))) := by
  refine PI.imp (pi_any ha) fun σ H Q ⟨ι, F, ρ, st, S, E, P⟩ => ?_
  simp only [evI] at P
  refine ⟨ι, F, ρ, st, S, E, P.bind an_I fun x st1 ι1 F1 H1 v e1 S1 r1 P1 => ?_⟩
  cases e : itemsOf st1 x with
  | none => rw [e] at P1; exact P1.elim
  | some xs =>
    rw [e] at P1
    have hz := items_len S1 r1 e
    rcases steps_val S1 r1 e with ⟨a, ys, rfl, hq, s⟩ | ⟨a, ys, rfl, hq, s⟩ | ⟨z, rfl, s⟩
    · exact .inl ⟨a, ys, rfl, by rw [G.hK]; exact hq, by rw [G.hK]; exact P1 _ _ _ _ Ext.refl S1 ⟨s, hz⟩⟩
    · exact .inr (.inl ⟨a, ys, rfl, by rw [G.hK]; exact hq, by rw [G.hK]; exact P1 _ _ _ _ Ext.refl S1 ⟨s, hz⟩⟩)
    · exact .inr (.inr ⟨z, rfl, P1 _ _ _ _ Ext.refl S1 ⟨s, hz⟩⟩)
theorem rngL_length (lo : Int) (n : Nat) : (rngL lo n).length = n := by simp [rngL]
theorem rngOk_of {i j : Int} (h : rngOk i j = true) : (-(2 ^ 62) ≤ i ∧ i < 2 ^ 62 ∧ -(2 ^ 62) ≤ j ∧ j < 2 ^ 62) ∧ (j - i).toNat ≤ sizeLine := by
  unfold rngOk at h
  simp only [Bool.and_eq_true, decide_eq_true_eq] at h
  exact ⟨⟨by omega, by omega, by omega, by omega⟩, h.2⟩
theorem i_rng1 (G : Facts T tb Φ X k) (hm : ("range" : Str) ∈ tb.blt) (hg : Gl X "range") (hp : plain a = true) (ha : PE X a (tE T W (evE Φ ea))) : PI X tg (.Call (.Name "range" p) [a] [] pos) (tIt T W (evI Φ (.rng1 ea))) := by
  refine PI.imp (pi_range1 hg (G.blt _ hm) (pa_cons ha pa_nil (star_cons hp)) (star_cons hp)) fun σ H Q ⟨ι, F, ρ, st, S, E, P⟩ => ?_
  simp only [evI] at P
  refine ⟨ι, F, ρ, st, S, E, P.bind an_I fun x st1 ι1 F1 H1 v e1 S1 r1 P1 => ?_⟩
  cases x <;> try (exact P1.elim)
  rename_i j
  cases r1
  cases h : rngOk 0 j with
  | false => simp only [h] at P1; exact P1.elim
  | true =>
    simp only [h, if_true] at P1
    obtain ⟨⟨_, _, h1, h2⟩, h3⟩ := rngOk_of h
    exact ⟨j, rfl, h1, h2, P1 _ _ _ _ Ext.refl S1 ⟨steps_rng 0 j.toNat, by rw [rngL_length]; simpa using h3⟩⟩
theorem i_rng2 (G : Facts T tb Φ X k) (hm : ("range" : Str) ∈ tb.blt) (hg : Gl X "range") (hp : plain a = true) (hp2 : plain b = true) (ha : PE X a (tE T W (evE Φ ea))) (hb : PE X b (tE T W (evE Φ eb))) : PI X tg (.Call (.Name "range" p) [a, b] [] pos) (tIt T W (evI Φ (.rng2 ea eb))) := by
  refine PI.imp (pi_range2 hg (G.blt _ hm) (pa_cons ha (pa_cons hb pa_nil (star_cons hp2)) (star_cons hp)) (by rw [star_cons hp, star_cons hp2]; rfl) (star_cons hp2)) fun σ H Q ⟨ι, F, ρ, st, S, E, P⟩ => ?_
  simp only [evI] at P
  refine ⟨ι, F, ρ, st, S, E, P.bind an_I fun x st1 ι1 F1 H1 v e1 S1 r1 P1 => ?_⟩
  refine ⟨ι1, F1, ρ, st1, S1, E.ext e1, P1.bind an_I fun y st2 ι2 F2 H2 w e2 S2 r2 P2 => ?_⟩
  replace r1 := r1.ext e2
  cases x <;> try (exact P2.elim)
  cases y <;> try (exact P2.elim)
  rename_i i j
  cases r1
  cases r2
  cases h : rngOk i j with
  | false => simp only [h] at P2; exact P2.elim
  | true =>
    simp only [h, if_true] at P2
    obtain ⟨h1, h3⟩ := rngOk_of h
    exact ⟨i, j, rfl, h1, P2 _ _ _ _ Ext.refl S2 ⟨steps_rng i (j - i).toNat, by rw [rngL_length]; exact h3⟩⟩
theorem seq_items {st : Store} {d : D} {xs : List D} (h : seqOf st d = some xs) : itemsOf st d = some xs := by
  unfold seqOf at h
  unfold itemsOf
  split at h
  · rename_i ys e; rw [e]; exact h
  · rename_i ys e; rw [e]; exact h
  · cases h
theorem list_seq {st : Store} {d : D} {xs : List D} (h : listOf st d = some xs) : itemsOf st d = some xs := by
  unfold listOf at h
  unfold itemsOf
  split at h
  · rename_i ys e; rw [e]; exact h
  · cases h
theorem i_enum {elts : List Expr} {kk : Nat} {tp : Pos} (G : Facts T tb Φ X k) (hm : ("enumerate" : Str) ∈ tb.blt) (hg : Gl X "enumerate") (hp : plain a = true) (ha : PE X a (tE T W (evE Φ ea))) :
    PI X (.Tuple elts kk tp) (.Call (.Name "enumerate" p) [a] [] pos) (tIt T W (evI Φ (.enum ea))) := by
  refine PI.imp (pi_enumA hg (G.blt _ hm) (pa_cons ha pa_nil (star_cons hp)) (star_cons hp)) fun σ H Q ⟨ι, F, ρ, st, S, E, P⟩ => ?_
  simp only [evI] at P
  refine ⟨ι, F, ρ, st, S, E, P.bind an_I fun x st1 ι1 F1 H1 v e1 S1 r1 P1 => ?_⟩
  cases e : itemsOf st1 x with
  | none => rw [e] at P1; exact P1.elim
  | some xs =>
    rw [e] at P1
    have hz := items_len S1 r1 e
    rcases srcOk_at S1 r1 e with ⟨a, vs, rfl, hv, rl, kq⟩ | ⟨a, vs, rfl, hv, rl, kq⟩ | ⟨z, rfl, rfl, rfl⟩
    · exact .inl ⟨a, vs, rfl, SqL.of hv, by rw [G.hK]; exact P1 _ _ _ _ Ext.refl S1 ⟨steps_enumL kq, by rw [enumL_length]; exact hz⟩⟩
    · exact .inr (.inl ⟨a, vs, rfl, by rw [G.hK]; exact hv, by rw [G.hK]; exact P1 _ _ _ _ Ext.refl S1 ⟨steps_enumT kq rl, by rw [enumL_length]; exact hz⟩⟩)
    · exact .inr (.inr ⟨z, rfl, P1 _ _ _ _ Ext.refl S1 ⟨steps_enumS, by rw [enumL_length]; exact hz⟩⟩)
theorem i_zip {elts : List Expr} {kk : Nat} {tp : Pos} (G : Facts T tb Φ X k) (hm : ("zip" : Str) ∈ tb.blt) (hg : Gl X "zip") (hp : plain a = true) (hp2 : plain b = true) (ha : PE X a (tE T W (evE Φ ea))) (hb : PE X b (tE T W (evE Φ eb))) :
    PI X (.Tuple elts kk tp) (.Call (.Name "zip" p) [a, b] [] pos) (tIt T W (evI Φ (.zip ea eb))) := by
  refine PI.imp (RZ.pi_zipA hg (G.blt _ hm) (pa_cons ha (pa_cons hb pa_nil (star_cons hp2)) (star_cons hp)) (star_cons hp) (star_any fun x hx => by
    have e : x = b := by simpa using hx
    rw [e]; exact hp2)) fun σ H Q ⟨ι, F, ρ, st, S, E, P⟩ => ?_
  simp only [evI] at P
  refine ⟨ι, F, ρ, st, S, E, P.bind an_I fun x st1 ι1 F1 H1 v e1 S1 r1 P1 => ?_⟩
  refine ⟨ι1, F1, ρ, st1, S1, E.ext e1, P1.bind an_I fun y st2 ι2 F2 H2 w e2 S2 r2 P2 => ?_⟩
  replace r1 := r1.ext e2
  cases r1 with
  | tup h1 q1 z1 =>
    cases r2 with
    | tup h2 q2 z2 =>
      exact ⟨_, _, _, _, rfl, .inr ⟨by rw [G.hK]; exact Same.seqT S2.same h1, by rw [G.hK]; exact Same.seqT S2.same h2, by
        rw [G.hK]
        exact P2 _ _ _ _ Ext.refl S2 ⟨steps_zipT h1 h2 q1 q2, by rw [zipL_length]; omega⟩⟩⟩
    | _ => exact P2.elim
  | lst h1 q1 z1 =>
    cases r2 with
    | lst h2 q2 z2 =>
      exact ⟨_, _, _, _, rfl, .inl ⟨SqL.of (S2.same _ _ h1), SqL.of (S2.same _ _ h2), by
        rw [G.hK]
        exact P2 _ _ _ _ Ext.refl S2 ⟨steps_zipL h1 h2 q1 q2, by rw [zipL_length]; omega⟩⟩⟩
    | _ => exact P2.elim
  | _ => exact P2.elim
end

/-! ### comprehensions -/
theorem wipe_get (σ : St) : ∀ (vs : List Nat) (j : Nat), (wipe σ vs)[j]? = if j ∈ vs then (if j < σ.length then some none else none) else σ[j]?
  | [], j => by simp [wipe]
  | v :: vs, j => by
    unfold wipe
    by_cases h : j = v
    · subst h
      by_cases hl : j < σ.length
      · rw [List.getElem?_set_self (by rw [wipe_length]; exact hl)]
        simp [hl]
      · rw [List.getElem?_eq_none (by rw [List.length_set, wipe_length]; omega)]
        simp [hl]
    · rw [get_set_ne' h, wipe_get σ vs j]
      simp [h]
theorem wipe_congr {σ σ' : St} {vs : List Nat} (h : ∀ j, j ∉ vs → σ'[j]? = σ[j]?) (hl : σ'.length = σ.length) : wipe σ' vs = wipe σ vs := by
  refine List.ext_getElem? fun j => ?_
  rw [wipe_get, wipe_get, hl]
  by_cases hj : j ∈ vs
  · simp [hj]
  · simp only [hj, if_false]; exact h j hj
theorem REnv.setNo {ι : List Addr} {F H : Hp} {σ : St} {ρ : Slots} (E : REnv T ι F H σ ρ) (i : Nat) : REnv T ι F H (σ.set i none) (ρ.set i .no) where
  len := by simp [E.len]
  val := fun j e h => by
    by_cases hj : j = i
    · subst hj
      cases get_set_eq' h
    · rw [get_set_ne' hj] at h
      obtain ⟨w, e1, r1⟩ := E.val j e h
      exact ⟨w, by rw [get_set_ne' hj]; exact e1, r1⟩
  own := fun j ds h => by
    by_cases hj : j = i
    · subst hj
      cases get_set_eq' h
    · rw [get_set_ne' hj] at h
      obtain ⟨a, vs, e1, q⟩ := E.own j ds h
      exact ⟨a, vs, by rw [get_set_ne' hj]; exact e1, q⟩
  sep := fun j l ds es a h1 h2 h3 h4 => by
    have n : ∀ {j ds}, (ρ.set i Slot.no)[j]? = some (.own ds) → j ≠ i := fun {j ds} h z => by
      subst z
      cases get_set_eq' h
    have nj := n h1
    have nl := n h2
    rw [get_set_ne' nj] at h1 h3
    rw [get_set_ne' nl] at h2 h4
    exact E.sep j l ds es a h1 h2 h3 h4
theorem REnv.wipe {ι : List Addr} {F H : Hp} {σ : St} {ρ : Slots} (E : REnv T ι F H σ ρ) : ∀ vs : List Nat, REnv T ι F H (L2.wipe σ vs) (wipeE ρ vs)
  | [] => E
  | v :: vs => (REnv.wipe E vs).setNo v
theorem compL_noexc {f : D → Store → R (Option D)} {ok : Store → Bool} (hf : ∀ x st c st', f x st ≠ .exc c st') : ∀ (xs : List D) (st : Store) (c : Nat) (st' : Store), compL f ok xs st ≠ .exc c st'
  | [], st, c, st', h => by
    unfold compL at h
    split at h <;> cases h
  | x :: xs, st, c, st', h => by
    unfold compL at h
    split at h
    · cases e : f x st with
      | ok o st1 =>
        rw [e] at h
        simp only [R.bind] at h
        cases e2 : compL f ok xs st1 with
        | ok r st2 => rw [e2] at h; cases h
        | exc c2 st2 => exact compL_noexc hf xs st1 _ _ e2
        | stuck => rw [e2] at h; cases h
      | exc c2 st2 => exact hf _ _ _ _ e
      | stuck => rw [e] at h; cases h
    · cases h
theorem noExc_ne {α : Type} (r : R α) (c : Nat) (st : Store) : noExc r ≠ .exc c st := by
  cases r <;> simp [noExc]
/-- the turn of a comprehension, by the meaning -/
def turnC (Φ : Phi) (elt : Ex) (tg : Tg) (cond : Eo) (own : List Nat) (ρ : Slots) (x : D) (st : Store) : R (Option D) :=
  noExc ((asT Φ tg x (wipeE ρ own) st).bind fun ρ' st => (evCo Φ cond ρ' st).bind fun k st => if k then (evE Φ elt ρ' st).bind fun y st => .ok (some y) st else .ok none st)
theorem turnC_ok {Φ : Phi} {elt : Ex} {tg : Tg} {cond : Eo} {own : List Nat} {ρ : Slots} {x : D} {st st1 : Store} {o : Option D} (h : turnC Φ elt tg cond own ρ x st = .ok o st1) :
    ∃ ρ4 st4 b st5, asT Φ tg x (wipeE ρ own) st = .ok ρ4 st4 ∧ evCo Φ cond ρ4 st4 = .ok b st5 ∧ ((b = false ∧ o = none ∧ st1 = st5) ∨ (b = true ∧ ∃ y, evE Φ elt ρ4 st5 = .ok y st1 ∧ o = some y)) := by
  unfold turnC at h
  cases e1 : asT Φ tg x (wipeE ρ own) st with
  | stuck => rw [e1] at h; cases h
  | exc _ _ => rw [e1] at h; cases h
  | ok ρ4 st4 =>
    rw [e1, R.bind_ok] at h
    cases e2 : evCo Φ cond ρ4 st4 with
    | stuck => rw [e2] at h; cases h
    | exc _ _ => rw [e2] at h; cases h
    | ok b st5 =>
      rw [e2, R.bind_ok] at h
      refine ⟨ρ4, st4, b, st5, rfl, e2, ?_⟩
      cases b with
      | false => cases h; exact .inl ⟨rfl, rfl, rfl⟩
      | true =>
        rw [if_pos rfl] at h
        cases e3 : evE Φ elt ρ4 st5 with
        | stuck => rw [e3] at h; cases h
        | exc _ _ => rw [e3] at h; cases h
        | ok y st6 => rw [e3] at h; cases h; exact .inr ⟨rfl, y, rfl, rfl⟩
theorem compL_ok {f : D → Store → R (Option D)} {ok : Store → Bool} {x : D} {xs : List D} {st st2 : Store} {rest : List D} (h : compL f ok (x :: xs) st = .ok rest st2) :
    ok st = true ∧ ∃ o st1 rest', f x st = .ok o st1 ∧ compL f ok xs st1 = .ok rest' st2 ∧ rest = o.toList ++ rest' := by
  unfold compL at h
  cases hok : ok st with
  | false => rw [hok] at h; cases h
  | true =>
    rw [hok, if_pos rfl] at h
    cases e1 : f x st with
    | stuck => rw [e1] at h; cases h
    | exc _ _ => rw [e1] at h; cases h
    | ok o st1 =>
      rw [e1, R.bind_ok] at h
      cases e2 : compL f ok xs st1 with
      | stuck => rw [e2] at h; cases h
      | exc _ _ => rw [e2] at h; cases h
      | ok r st9 => rw [e2] at h; cases h; exact ⟨rfl, o, st1, r, rfl, e2, rfl⟩
abbrev tCo (T : Kt) (W : WX) (f : Slots → Store → R Bool) : TT := tM T rB W f
theorem x_comp {e t i : Expr} {ifs : List Expr} {sc' : Scope} {pos : Pos} {elt : Ex} {tg : Tg} {it : Wk} {cond : Eo} {own : List Nat} {ownN : List (Str × Nat)} (hoN : ownN.map (·.2) = own) (G : Facts T tb Φ X k) (hs : ∀ j ∈ tg.slots, j ∈ own) (hp : plain i = true)
    (hi : PI X t i (tIt T W (evI Φ it))) (ok : BlkOk X.N X.env.scope sc' ownN)
    (hg : ∀ (s : Shared) (H : Hp) (C : Addr) (cl : List (Str × Addr)) (fp : List Addr), PG (X.blk s H sc' (compEnvC sc' cl C X.env) fp) t (tA T tg.slots (asT Φ tg)))
    (ht : ∀ (s : Shared) (H : Hp) (C : Addr) (cl : List (Str × Addr)) (fp : List Addr), PTs (X.blk s H sc' (compEnvC sc' cl C X.env) fp) ifs (tCo T W0 (evCo Φ cond)))
    (he : ∀ (s : Shared) (H : Hp) (C : Addr) (cl : List (Str × Addr)) (fp : List Addr), PE (X.blk s H sc' (compEnvC sc' cl C X.env) fp) e (tE T W0 (evE Φ elt))) :
    ∃ tt : TE, PE X (.ListComp e [⟨t, i, ifs, 0⟩] sc' pos) tt ∧ (∀ {j : Nat} {y : Str} {py spos : Pos}, X.N[j]? = some y → X.env.scope.names.lookup y = some .local → swapsWith (.ListComp e [⟨t, i, ifs, 0⟩] sc' pos) (some (.Name y py)) spos.line X.env = pure true →
      PS X (.Assign [.Name y py] (.ListComp e [⟨t, i, ifs, 0⟩] sc' pos) spos) (tAsg tt (gName j))) ∧ ∀ σ H Q, tCr T W (evC Φ (.comp elt tg it cond own)) σ H Q → tt σ H Q := by
  refine ⟨tLc (tIt T W (evI Φ it)) (tA T tg.slots (asT Φ tg)) (tCo T W0 (evCo Φ cond)) (tE T W0 (evE Φ elt)) (ownN.map (·.2)), pe_lc G.calm G.nd hi ok hg ht he (fold_eq hp), fun hy hyl hsw => ps_setLc G.calm G.nd hy hyl hsw hi ok hg ht he (fold_eq hp), fun σ H Q ⟨ι, F, ρ, st, S, E, P⟩ => ?_⟩
  rw [hoN]
  simp only [evC] at P
  replace P : Post T (rC T) W σ ι F H ((evI Φ it ρ st).bind fun p st => compL (turnC Φ elt tg cond own ρ) p.2 p.1 st) Q := P
  refine ⟨ι, F, ρ, st, S, E, P.bind an_C fun p st1 ι1 F1 H1 J e1 S1 hJ P1 => ?_⟩
  obtain ⟨steps, hz⟩ := hJ
  intro Dn hD
  have E1 := E.ext e1
  -- what the whole gives
  cases ev : compL (turnC Φ elt tg cond own ρ) p.2 p.1 st1 with
  | stuck => rw [ev] at P1; exact P1.elim
  | exc c st' => exact absurd ev (compL_noexc (fun x st c st' => noExc_ne _ c st') _ _ _ _)
  | ok ds st2 =>
    rw [ev] at P1
    have nD1 : F1 Dn = none := nf S1.same hD
    have mD1 : Dn ∉ ι1 := S1.fresh hD
    refine ⟨fun i m H' => m = p.1.length - i ∧ i ≤ p.1.length ∧ ∃ ι' F' st' vs acc rest, Ext0 ι1 F1 H1 ι' F' H' ∧ RSt T ι' F' H' st' ∧ H' Dn = some (.lst vs) ∧ F' Dn = none ∧ Dn ∉ ι' ∧ RepL T F' ι' vs acc ∧ acc.length ≤ i ∧
        compL (turnC Φ elt tg cond own ρ) p.2 (p.1.drop i) st' = .ok rest st2 ∧ ds = acc ++ rest, ⟨p.1.length, by simp, Nat.zero_le _, ?_⟩, ?_⟩
    · obtain ⟨S2, e2⟩ := S1.beside hD (.lst [])
      exact ⟨ι1, F1, st1, [], [], ds, e2, S2, upd_same, nD1, mD1, .nil, Nat.le_refl _, by rw [List.drop_zero]; exact ev, rfl⟩
    · rintro i m H' ⟨rfl, hi, ι', F', st', vs, acc, rest, e2, S2, hv, nD, mD, ra, ha, hc, hds⟩
      by_cases hlt : i < p.1.length
      · -- a turn
        have hdr : p.1.drop i = p.1[i] :: p.1.drop (i + 1) := List.drop_eq_getElem_cons hlt
        rw [hdr] at hc
        obtain ⟨hok, o, st7, rest', hf, hc2, hr⟩ := compL_ok hc
        obtain ⟨ρ4, st4, b, st5, ev1, ev2, hoo⟩ := turnC_ok hf
        obtain ⟨st1', _⟩ := steps i ι' F' H' st' e2.fr e2.io S2 hok
        obtain ⟨hgo, hy⟩ := st1' p.1[i] (List.getElem?_eq_getElem hlt)
        refine .inr ⟨hgo, fun H'' => ∃ ι' F' st' vs acc rest, Ext0 ι1 F1 H1 ι' F' H'' ∧ RSt T ι' F' H'' st' ∧ H'' Dn = some (.lst vs) ∧ F' Dn = none ∧ Dn ∉ ι' ∧ RepL T F' ι' vs acc ∧ acc.length ≤ i + 1 ∧
          compL (turnC Φ elt tg cond own ρ) p.2 (p.1.drop (i + 1)) st' = .ok rest st2 ∧ ds = acc ++ rest, fun H'' hN => ⟨p.1.length - (i + 1), by omega, rfl, hlt, hN⟩, fun x H'' hyld => ?_⟩
        obtain ⟨F3, e3, S3, rx⟩ := hy x H'' hyld
        have hDne : H' Dn ≠ none := by rw [hv]; exact fun w => nomatch w
        have keepD : ∀ {ι4 F4 H4}, Ext0 ι' F' H' ι4 F4 H4 → H4 Dn = some (.lst vs) ∧ F4 Dn = none ∧ Dn ∉ ι4 := fun {ι4 F4 H4} e4 => ⟨e4.kp _ _ hv mD (fun z => z), (e4.fz _ hDne fun z => z).trans nD, fun z => absurd (e4.nw _ z mD) hDne⟩
        have Ew := ((E1.ext (e2.trans0 e3)).wipe own)
        refine ⟨ι', F3, wipeE ρ own, st', p.1[i], S3, Ew, rx, ?_⟩
        rw [ev1]
        intro ι4 F4 H4 σ4 e4 S4 E4 _ n4
        refine ⟨?_, ι4, F4, ρ4, st4, S4, E4, ?_⟩
        · have h1 : L2.wipe σ4 own = L2.wipe (L2.wipe σ own) own := wipe_congr (fun j hj => n4.1 j fun z => hj (hs j z)) n4.2
          rw [h1]
          refine wipe_congr (fun j hj => ?_) (wipe_length σ own)
          rw [wipe_get]
          simp [hj]
        · rw [ev2]
          intro ι5 F5 H5 bb e5 S5 hb
          obtain rfl : bb = b := hb
          have e35 := (e3.trans0 e4).trans0 e5
          rcases hoo with ⟨rfl, rfl, rfl⟩ | ⟨rfl, y, ev3, rfl⟩
          · rw [if_neg Bool.false_ne_true]
            obtain ⟨d1, d2, d3⟩ := keepD e35
            exact ⟨ι5, F5, _, vs, acc, rest, e2.trans0 e35, S5, d1, d2, d3, ra.ext e35, Nat.le_succ_of_le ha, by rw [hr]; exact hc2, hds⟩
          · rw [if_pos rfl]
            refine ⟨ι5, F5, ρ4, st5, S5, E4.ext e5, ?_⟩
            rw [ev3]
            intro ι6 F6 H6 w e6 S6 ry
            have e36 := e35.trans0 e6
            obtain ⟨d1, d2, d3⟩ := keepD e36
            have la : vs.length = acc.length := ra.length
            refine ⟨vs, d1, by rw [la]; omega, ι6, F6, _, vs ++ [w], acc ++ [y], rest', ?_, S6.other d3 d2, upd_same, d2, d3, (ra.ext e36).append (.cons ry .nil), by simp; omega, hc2, by rw [hds, hr]; simp⟩
            exact (e2.trans0 e36).other (.inl hD)
      · -- the end
        have hil : i = p.1.length := by omega
        subst hil
        rw [List.drop_length] at hc
        unfold compL at hc
        cases hok : p.2 st' with
        | false => rw [hok] at hc; cases hc
        | true =>
          rw [hok, if_pos rfl] at hc
          cases hc
          obtain ⟨_, hst⟩ := steps p.1.length ι' F' H' st2 e2.fr e2.io S2 hok
          refine .inl ⟨hst (Nat.le_refl _), ?_⟩
          rw [List.append_nil] at hds
          subst hds
          exact P1 ι' F' H' (.ref Dn) e2 S2 ⟨Dn, vs, rfl, hv, hD, nD, mD, ra, Nat.le_trans ha hz⟩
end B

set_option Elab.async false
set_option linter.all false
set_option maxRecDepth 100000
set_option maxHeartbeats 4000000
namespace B
set_option autoImplicit false
open PySem PySem.Spec L2
open PyProof.Rows hiding St
variable {T : Kt} {X : Cx} {W : WX} {Φ : Phi} {tb : Tab} {k : Nat}
/-! ### values sorted -/
theorem toPdL_map (ds : List D) : toPdL ds = ds.map toPd := by
  induction ds with
  | nil => rfl
  | cons d ds ih => simp [toPdL, ih]
theorem sortOk_of {ds : List D} (h : sortOk ds = true) : (∀ d ∈ ds, eqOk 50 d = true) ∧ PySem.W.AllAlike (ds.map toPd) ∧ PySem.W.Sortable (ds.map toPd) := by
  unfold sortOk at h
  simp only [Bool.and_eq_true, Bool.or_eq_true, List.all_eq_true] at h
  refine ⟨h.1.1, fun d hd d' hd' => ?_, ?_⟩
  · obtain ⟨a, ha, rfl⟩ := List.mem_map.mp hd
    obtain ⟨b, hb, rfl⟩ := List.mem_map.mp hd'
    exact h.1.2 a ha b hb
  · rcases h.2 with h | h
    · refine .inl fun d hd => ?_
      obtain ⟨a, ha, rfl⟩ := List.mem_map.mp hd
      have q := h a ha
      cases a <;> try (cases q; done)
      rename_i xs
      cases xs with
      | nil => cases q
      | cons x r => exact ⟨toPd x, toPdL r, rfl⟩
    · refine .inr fun d hd => ?_
      obtain ⟨a, ha, rfl⟩ := List.mem_map.mp hd
      have q := h a ha
      cases a <;> first | (cases q; done) | exact ⟨by simp [toPd], fun xs => by simp [toPd]⟩
/-- the values of a list, each with what it stands for -/
theorem each_of_rep {F H : Hp} {ι : List Addr} : ∀ {vs : List V} {ds : List D} {us : List Value}, RepL T F ι vs ds → Vals vs us → PySem.W.EachIs (fun u (p : V × D) => RelV p.1 u ∧ Rep T F ι p.1 p.2) us (vs.zip ds)
  | _, _, _, .nil, .nil => .nil
  | _, _, _, .cons r t, .cons v w => .cons ⟨v, r⟩ (each_of_rep (H := H) t w)
theorem rep_of_each {F : Hp} {ι : List Addr} : ∀ {us : List Value} {ps : List (V × D)}, PySem.W.EachIs (fun u (p : V × D) => RelV p.1 u ∧ Rep T F ι p.1 p.2) us ps → Vals (ps.map (·.1)) us ∧ RepL T F ι (ps.map (·.1)) (ps.map (·.2))
  | _, _, .nil => ⟨.nil, .nil⟩
  | _, _, .cons ⟨a, b⟩ t => by
    obtain ⟨h1, h2⟩ := rep_of_each t
    exact ⟨.cons a h1, .cons b h2⟩
theorem each_mem' {α β : Type} {R : α → β → Prop} : ∀ {as : List α} {bs : List β}, PySem.W.EachIs R as bs → ∀ b ∈ bs, ∃ a ∈ as, R a b
  | _, _, .nil, _, h => by cases h
  | _, _, .cons r t, b, h => by
    rcases List.mem_cons.mp h with rfl | h
    · exact ⟨_, List.mem_cons_self, r⟩
    · obtain ⟨a, ha, q⟩ := each_mem' t b h
      exact ⟨a, List.mem_cons_of_mem _ ha, q⟩
theorem zip_snd {vs : List V} {ds : List D} (h : vs.length = ds.length) : (vs.zip ds).map (·.2) = ds := by
  induction vs generalizing ds with
  | nil => cases ds with
    | nil => rfl
    | cons _ _ => cases h
  | cons v vs ih => cases ds with
    | nil => cases h
    | cons d ds => simp [ih (Nat.succ.inj h)]
theorem sortD_map {rev : Bool} {vs : List V} {ds : List D} (h : vs.length = ds.length) : ((vs.zip ds).mergeSort (PySem.W.dataLe rev fun p : V × D => toPd p.2)).map (·.2) = ds.mergeSort (PySem.W.dataLe rev toPd) := by
  have q := List.map_mergeSort (r := PySem.W.dataLe rev fun p : V × D => toPd p.2) (s := PySem.W.dataLe rev toPd) (f := fun p : V × D => p.2) (l := vs.zip ds) (fun a _ b _ => rfl)
  rw [q, zip_snd h]
theorem RepL.rev {F : Hp} {ι : List Addr} : ∀ {vs : List V} {ds : List D}, RepL T F ι vs ds → RepL T F ι vs.reverse ds.reverse
  | _, _, .nil => .nil
  | _, _, .cons r t => by
    rw [List.reverse_cons, List.reverse_cons]
    exact (RepL.rev t).append (.cons r .nil)
/-- sorted, by values: any plain data -/
def rSort (T : Kt) (rev : Bool) : List V → Hp → VK → Prop := fun vs H Q => ∃ ι F st x ds out v, vs = [v] ∧ RSt T ι F H st ∧ Rep T F ι v x ∧ (if rev then listOf st x else seqOf st x) = some ds ∧ sortD rev ds = some out ∧
  ∀ p ws, H p = none → RepL T F ι ws out → out.length ≤ sizeLine → Q (.ref p) (upd H p (.lst ws))
theorem sort_end {rev : Bool} {pins : List (Addr × Obj)} {s : Shared} {σ : St} {H F : Hp} {ι : List Addr} {Q : VK} {vs : List V} {ds out0 : List D} {its : List Value} (I : Inv X pins σ H s) (r1 : RepL T F ι vs ds) (hz : ds.length ≤ sizeLine) (hs : sortD rev ds = some out0)
    (q : ∀ p ws, H p = none → RepL T F ι ws out0 → out0.length ≤ sizeLine → Q (.ref p) (upd H p (.lst ws))) (out : List Value) (ho : PySem.W.EachIs (fun u (p : V × D) => RelV p.1 u ∧ Rep T F ι p.1 p.2) out ((vs.zip ds).mergeSort (PySem.W.dataLe rev fun p : V × D => toPd p.2))) :
    EP X pins σ Q (.ref (s.heap.objs.size + 1)) { s with heap := sortedAll s.heap its out.toArray } := by
  obtain ⟨h1, h2⟩ := rep_of_each ho
  rw [sortD_map r1.length] at h2
  unfold sortD at hs
  split at hs <;> try (cases hs; done)
  cases hs
  obtain ⟨ep, he'⟩ := PyProof.Rows.sortedAll_at s.heap its out.toArray
  have hl : (ds.mergeSort (PySem.W.dataLe rev toPd)).length ≤ sizeLine := by rw [List.length_mergeSort]; exact hz
  exact ⟨.ref _, upd H (s.heap.objs.size + 1) (.lst _), I.laid (t' := s.toks) (fun _ _ => PyProof.Rows.sortedAll_old) (Nat.le_succ _) ⟨by rw [h2.length]; exact hl, out, ep, h1, he'⟩, rfl, q _ _ (I.hok.fresh (Nat.le_succ _)) h2 hl⟩
theorem sort_reads {pins : List (Addr × Obj)} {s : Shared} {σ : St} {H F : Hp} {ι : List Addr} {vs : List V} {ds : List D} {its : List Value} (I : Inv X pins σ H s) (hK : X.K = T.K) (sm : Same F H) (ho : ∀ d ∈ ds, eqOk 50 d = true)
    (e : PySem.W.EachIs (fun u (p : V × D) => RelV p.1 u ∧ Rep T F ι p.1 p.2) its (vs.zip ds)) : PySem.W.EachIs (fun u (p : V × D) => ∃ as, Reads s.heap u (toPd p.2) as) its (vs.zip ds) := by
  have go : ∀ (us : List Value) (ps : List (V × D)), (∀ p ∈ ps, p.2 ∈ ds) → PySem.W.EachIs (fun u (p : V × D) => RelV p.1 u ∧ Rep T F ι p.1 p.2) us ps → PySem.W.EachIs (fun u (p : V × D) => ∃ as, Reads s.heap u (toPd p.2) as) us ps := by
    intro us
    induction us with
    | nil => intro ps _ h; cases h; exact .nil
    | cons u us ih =>
      intro ps hp h
      cases h with
      | @cons _ p _ ps h t =>
        refine .cons ?_ (ih ps (fun q hq => hp q (List.mem_cons_of_mem _ hq)) t)
        have dp := h.2.dp sm (ho p.2 (hp p List.mem_cons_self))
        rw [← hK] at dp
        exact Dp.reads I _ _ _ dp h.1
  exact go its _ (fun p hp => (List.of_mem_zip hp).2) e
theorem depth50 {d : D} (h : eqOk 50 d = true) : (toPd d).depth ≤ 50 := (eqOk_shape 50 d h).2
theorem cr_sortG (hK : X.K = T.K) (hu : X.A.units + 100 < cLine) : CallR X (.builtin "sorted") (rSort T false) := by
  intro pins s σ H vs us Q I r h
  obtain ⟨ι, F, st, x, ds, out0, v, rfl, S, rx, e, hs, q⟩ := h
  rw [if_neg Bool.false_ne_true] at e
  have hok : sortOk ds = true := by
    unfold sortD at hs
    split at hs
    · assumption
    · cases hs
  obtain ⟨h1, h2, h3⟩ := sortOk_of hok
  obtain ⟨a, ws, rfl, hq, r1, hz⟩ := RepW.seq' (H := H) S rx e
  rw [Vals.ref1 r]
  have fin : ∀ {its : List Value}, Vals ws its → PySem.W.EachIs (fun u (p : V × D) => RelV p.1 u ∧ Rep T F ι p.1 p.2) its (ws.zip ds) := fun rv => each_of_rep (H := H) r1 rv
  have hb : (ws.zip ds).length ≤ sizeLine := by rw [List.length_zip]; omega
  have al : PySem.W.AllAlike ((ws.zip ds).map fun p : V × D => toPd p.2) := by
    have e : ((ws.zip ds).map fun p : V × D => toPd p.2) = ds.map toPd := by
      have := congrArg (List.map toPd) (zip_snd r1.length)
      rw [List.map_map] at this
      exact this
    rw [e]; exact h2
  have so : PySem.W.Sortable ((ws.zip ds).map fun p : V × D => toPd p.2) := by
    have e : ((ws.zip ds).map fun p : V × D => toPd p.2) = ds.map toPd := by
      have := congrArg (List.map toPd) (zip_snd r1.length)
      rw [List.map_map] at this
      exact this
    rw [e]; exact h3
  have hd : ∀ p : V × D, p ∈ ws.zip ds → X.A.units + 2 + (toPd p.2).depth < cLine := fun p hp => by
    have := depth50 (h1 p.2 (List.of_mem_zip hp).2)
    omega
  rcases hq with hq | hq
  · obtain ⟨its, rv, hl, _⟩ := I.list (by rw [hK]; exact hq)
    have E1 := fin rv
    exact PySem.W.sorted_data hl.isList E1 (sort_reads I hK S.same h1 E1) al so hb hd fun out _ ho => sort_end I r1 hz hs q out ho
  · obtain ⟨its, rv, hl, _⟩ := I.tuple (by rw [hK]; exact hq)
    have E1 := fin rv
    exact sorted_dataT (show s.heap.IsTuple a its.toArray from hl) E1 (sort_reads I hK S.same h1 E1) al so hb hd fun out _ ho => sort_end I r1 hz hs q out ho
theorem al_of {ws : List V} {ds : List D} (h : ws.length = ds.length) : ((ws.zip ds).map fun p : V × D => toPd p.2) = ds.map toPd := by
  have := congrArg (List.map toPd) (zip_snd h)
  rw [List.map_map] at this
  exact this
theorem cr_srevG (hK : X.K = T.K) (hu : X.A.units + 100 < cLine) : CallRK X (.builtin "sorted") [Str.ofString "reverse"] (fun vs zs H Q => zs = [.bl true] ∧ rSort T true vs H Q) := by
  intro pins s σ H vs zs us ws' Q I r rz h
  obtain ⟨rfl, ι, F, st, x, ds, out0, v, rfl, S, rx, e, hs, q⟩ := h
  obtain ⟨w1, rfl, e1⟩ := vals1 rz
  obtain rfl : w1 = Value.bool true := e1
  rw [if_pos rfl] at e
  have hok : sortOk ds = true := by
    unfold sortD at hs
    split at hs
    · assumption
    · cases hs
  obtain ⟨h1, h2, h3⟩ := sortOk_of hok
  obtain ⟨a, ws, rfl, hq, r1, hz⟩ := RepW.list' (H := H) S rx e
  rw [Vals.ref1 r]
  obtain ⟨its, rv, hl, _⟩ := I.list (SqL.of hq)
  have E1 : PySem.W.EachIs (fun u (p : V × D) => RelV p.1 u ∧ Rep T F ι p.1 p.2) its (ws.zip ds) := each_of_rep (H := H) r1 rv
  exact PySem.W.sorted_rev_data hl.isList E1 (sort_reads I hK S.same h1 E1) (by rw [al_of r1.length]; exact h2) (by rw [al_of r1.length]; exact h3) (by rw [List.length_zip]; omega) (fun p hp => by
    have := depth50 (h1 p.2 (List.of_mem_zip hp).2)
    omega) fun out _ ho => sort_end I r1 hz hs q out ho
section
variable {a b c : Expr} {pos p p2 p3 p4 : Pos} {ea eb ec : Ex}
theorem u100 (G : Facts T tb Φ X k) : X.A.units + 100 < cLine := by have := G.room.un; omega
theorem c_sort (G : Facts T tb Φ X k) (hm : ("sorted" : Str) ∈ tb.blt) (hg : Gl X "sorted") (hp : plain a = true) (ha : PE X a (tE T W (evE Φ ea))) : PE X (.Call (.Name "sorted" p) [a] [] pos) (tCr T W (evC Φ (.sort ea))) := by
  refine PE.imp (pe_callB (cr_sortG G.hK (u100 G)) hg (G.blt _ hm) (by decide +kernel) (pa_cons ha pa_nil (star_cons hp)) (by decide +kernel) (by decide +kernel) (star_cons hp) rfl) fun σ H Q ⟨ι, F, ρ, st, S, E, P⟩ => ?_
  simp only [evC] at P
  refine ⟨ι, F, ρ, st, S, E, P.bind an_C fun x st1 ι1 F1 H1 v e1 S1 r1 P1 => ?_⟩
  cases e : seqOf st1 x with
  | none => simp only [e] at P1; exact P1.elim
  | some ds =>
    simp only [e] at P1
    cases e2 : sortD false ds with
    | none => rw [e2] at P1; exact P1.elim
    | some out =>
      rw [e2] at P1
      refine ⟨ι1, F1, st1, x, ds, out, v, rfl, S1, r1, e, e2, fun l ws hl rw' hz => ?_⟩
      obtain ⟨S2, e3⟩ := S1.beside hl (.lst ws)
      exact P1 _ _ _ _ e3 S2 ⟨l, ws, rfl, upd_same, hl, nf S1.same hl, S1.fresh hl, rw', hz⟩
theorem pk_rev {j : Nat} : PK X [⟨some ("reverse" : Str), .Constant (.bool true) j p2, p3⟩] (tCons (tC (.bl true)) tNil) := pk_cons pe_bl pk_nil
theorem c_srev {j : Nat} (G : Facts T tb Φ X k) (hm : ("sorted" : Str) ∈ tb.blt) (hg : Gl X "sorted") (hp : plain a = true) (ha : PE X a (tE T W (evE Φ ea))) : PE X (.Call (.Name "sorted" p) [a] [⟨some ("reverse" : Str), .Constant (.bool true) j p2, p3⟩] pos) (tCr T W (evC Φ (.srev ea))) := by
  refine PE.imp (pe_callBK (cr_srevG G.hK (u100 G)) hg (G.blt _ hm) (by decide +kernel) (pa_cons ha pa_nil (star_cons hp)) pk_rev (by decide +kernel) (by decide +kernel) (by rw [star_cons hp]; rfl) (by rw [star_cons hp]; rfl)) fun σ H Q ⟨ι, F, ρ, st, S, E, P⟩ => ?_
  simp only [evC] at P
  refine ⟨ι, F, ρ, st, S, E, P.bind an_C fun x st1 ι1 F1 H1 v e1 S1 r1 P1 => ?_⟩
  refine ⟨rfl, ?_⟩
  cases e : listOf st1 x with
  | none => simp only [e] at P1; exact P1.elim
  | some ds =>
    simp only [e] at P1
    cases e2 : sortD true ds with
    | none => rw [e2] at P1; exact P1.elim
    | some out =>
      rw [e2] at P1
      refine ⟨ι1, F1, st1, x, ds, out, v, rfl, S1, r1, e, e2, fun l ws hl rw' hz => ?_⟩
      obtain ⟨S2, e3⟩ := S1.beside hl (.lst ws)
      exact P1 _ _ _ _ e3 S2 ⟨l, ws, rfl, upd_same, hl, nf S1.same hl, S1.fresh hl, rw', hz⟩
theorem c_rev {j : Nat} (G : Facts T tb Φ X k) (ha : PE X a (tE T W (evE Φ ea))) : PE X (.Subscript a (.Slice none none (some (.UnaryOp .USub (.Constant (.int 1) j p) p2)) p3) pos) (tCr T W (evC Φ (.rev ea))) := by
  refine PE.imp (pe_revL ha) fun σ H Q ⟨ι, F, ρ, st, S, E, P⟩ => ?_
  simp only [evC] at P
  refine ⟨ι, F, ρ, st, S, E, P.bind an_C fun x st1 ι1 F1 H1 v e1 S1 r1 P1 => ?_⟩
  cases e : listOf st1 x with
  | none => simp only [e] at P1; exact P1.elim
  | some ds =>
    simp only [e] at P1
    obtain ⟨q, vs, rfl, hq, r, z⟩ := RepW.list' (H := H1) S1 r1 e
    refine ⟨q, vs, rfl, SqL.of hq, fun l hl => ?_⟩
    obtain ⟨S2, e3⟩ := S1.beside hl (.lst vs.reverse)
    exact P1 _ _ _ _ e3 S2 ⟨l, _, rfl, upd_same, hl, nf S1.same hl, S1.fresh hl, RepL.rev r, by rw [List.length_reverse]; exact z⟩
theorem c_rep (ha : PE X a (tE T W (evE Φ ea))) (hb : PE X b (tE T W (evE Φ eb))) : PE X (.BinOp a .Mult b pos) (tCr T W (evC Φ (.rep ea eb))) := by
  refine PE.imp (pe_op op_rep ha hb) fun σ H Q ⟨ι, F, ρ, st, S, E, P⟩ => ?_
  simp only [evC] at P
  refine ⟨ι, F, ρ, st, S, E, P.bind an_C fun x st1 ι1 F1 H1 v e1 S1 r1 P1 => ?_⟩
  refine ⟨ι1, F1, ρ, st1, S1, E.ext e1, P1.bind an_C fun y st2 ι2 F2 H2 u e2 S2 r2 P2 => ?_⟩
  replace r1 := r1.ext e2
  cases x <;> try (exact P2.elim)
  cases y <;> try (exact P2.elim)
  rename_i xs i
  by_cases hz : -(2 ^ 63) ≤ i ∧ i < 2 ^ 63 ∧ xs.length * i.toNat ≤ sizeLine
  · simp only [hz, if_true] at P2
    cases r2
    cases r1 with
    | lst h1 q1 z1 =>
      refine ⟨_, i, _, rfl, rfl, S2.same _ _ h1, hz.1, hz.2.1, by rw [q1.length]; exact hz.2.2, fun l hl => ?_⟩
      obtain ⟨S3, e3⟩ := S2.beside hl (.lst _)
      exact P2 _ _ _ _ e3 S3 ⟨l, _, rfl, upd_same, hl, nf S2.same hl, S2.fresh hl, RepL.rep q1 i.toNat, by rw [PyProof.Rows.lm_len_rep_flat]; have := hz.2.2; rw [Nat.mul_comm] at this; exact this⟩
  · simp only [hz, if_false] at P2
    exact P2.elim
theorem RepL.strs {F : Hp} {ι : List Addr} : ∀ {vs : List V} {ds : List D} {ns : List Str}, RepL T F ι vs ds → strsOf ds = some ns → vs = ns.map V.str
  | _, _, _, .nil, h => by cases h; rfl
  | _, _, _, .cons (d := d) (ds := ds) r t, h => by
    cases r <;> try (cases h; done)
    rename_i i
    unfold strsOf at h
    cases e : strsOf ds with
    | none => rw [e] at h; cases h
    | some ms =>
      rw [e] at h
      cases h
      rw [RepL.strs t e]
      rfl
/-- the members of a list or a tuple of texts, of ints -/
theorem items_at {K : Type} [DecidableEq K] {P : Program} {w : World} {knd : KeyKind P w K} {its : List Value} {xs : List K} (h : ∀ (i : Nat) (v : Value), its[i]? = some v → ∃ kk, xs[i]? = some kk ∧ knd.is kk v = true ∧ v.scannable = true) :
    ∀ (i : Nat) (v : Value), its.toArray[i]? = some v → ∃ kk, xs[i]? = some kk ∧ knd.is kk v = true ∧ v.scannable = true := fun i v hv => h i v (by simpa using hv)
theorem strs_items {P : Program} {w : World} {its : List Value} {xs : List Str} (r : Vals (xs.map V.str) its) (i : Nat) (v : Value) (h : its[i]? = some v) : ∃ kk, xs[i]? = some kk ∧ (strKind P w).is kk v = true ∧ v.scannable = true := by
  have hl : i < (xs.map V.str).length := by
    rw [r.length]
    exact (List.getElem?_eq_some_iff.mp h).1
  obtain ⟨u, hu, ru⟩ := Vals.get (i := i) (x := (xs.map V.str)[i]) r (List.getElem?_eq_getElem hl)
  rw [h] at hu
  cases hu
  rw [List.length_map] at hl
  rw [List.getElem_map] at ru
  obtain ⟨t, rfl⟩ := ru
  exact ⟨xs[i], List.getElem?_eq_getElem hl, strKind_is P w _ t, rfl⟩
theorem ints_items {P : Program} {w : World} {its : List Value} {xs : List Int} (r : Vals (xs.map V.int) its) (i : Nat) (v : Value) (h : its[i]? = some v) : ∃ kk, xs[i]? = some kk ∧ (intKind P w).is kk v = true ∧ v.scannable = true := by
  have hl : i < (xs.map V.int).length := by
    rw [r.length]
    exact (List.getElem?_eq_some_iff.mp h).1
  obtain ⟨u, hu, ru⟩ := Vals.get (i := i) (x := (xs.map V.int)[i]) r (List.getElem?_eq_getElem hl)
  rw [h] at hu
  cases hu
  rw [List.length_map] at hl
  rw [List.getElem_map] at ru
  obtain ⟨t, rfl⟩ := ru
  exact ⟨xs[i], List.getElem?_eq_getElem hl, intKind_is P w _ t, rfl⟩
def kfI : Value → Int
  | .int i _ => i
  | _ => 0
theorem kfI_ok {P : Program} {w : World} : KfOk (intKind P w) kfI := fun k v h => by
  obtain ⟨t, rfl⟩ := Value.isInt_shape h
  rfl
/-- set(x), by values: a list or a tuple whose members are all keys of a kind -/
theorem run_set {K : Type} [DecidableEq K] {knd : KeyKind X.prog X.w K} {kf : Value → K} {pins : List (Addr × Obj)} {s : Shared} {σ : St} {H : Hp} {q : Addr} {vs : List V} {xs : List K} {Q : Value → Shared → Prop} (I : Inv X pins σ H s) (hh : X.A.handled = none) (kk : KfOk knd kf) (hq : SqL X.K H q vs ∨ SqT X.K H q vs)
    (hi : ∀ its : List Value, Vals vs its → its.length = xs.length ∧ ∀ (i : Nat) (v : Value), its[i]? = some v → ∃ kk, xs[i]? = some kk ∧ knd.is kk v = true ∧ v.scannable = true) (hb : xs.length < 4000)
    (h : ∀ (h' : Heap) (tk : Nat), SetG knd kf h' s.heap.objs.size (fun k' => decide (k' ∈ distinct xs)) (distinct xs).length → Inv X pins σ H { s with heap := h', toks := tk } → Q (.ref s.heap.objs.size) { s with heap := h', toks := tk }) :
    wpAny (model X.prog X.w) X.A (call (.type "set") [.ref q]) Q X.xe s := by
  have hbb : xs.length + 1 < scanBound := by unfold scanBound; omega
  rcases hq with hq | hq
  · obtain ⟨its, rv, hl, _⟩ := I.list hq
    obtain ⟨e1, e2⟩ := hi its rv
    exact call_set_list kk hh hl.isList (by rw [List.size_toArray]; exact e1.symm) (items_at e2) hbb fun h' tk hS hk => h h' tk hS (I.kept fun b o e => hk b o (Heap.lt_size e) e)
  · obtain ⟨its, rv, hl, _⟩ := I.tuple hq
    obtain ⟨e1, e2⟩ := hi its rv
    exact call_set_tuple kk hh (show s.heap.IsTuple q its.toArray from hl) (by rw [List.size_toArray]; exact e1.symm) (items_at e2) hbb fun h' tk hS hk => h h' tk hS (I.kept fun b o e => hk b o (Heap.lt_size e) e)
def tSset (T : Kt) (ta : TE) : TE := fun σ H Q => ta σ H fun v H1 => ∃ ι F st x ds out, RSt T ι F H1 st ∧ Rep T F ι v x ∧ seqOf st x = some ds ∧ ssetD ds = some out ∧
  ∀ p ws, H1 p = none → RepL T F ι ws out → out.length ≤ sizeLine → Q (.ref p) (upd H1 p (.lst ws))
theorem vals_strs {its : List Value} {ys : List Str} (h : PySem.W.EachIs (fun v k => ∃ t, v = Value.str k t) its ys) : Vals (ys.map V.str) its := by
  induction h with
  | nil => exact .nil
  | cons h _ ih => exact .cons h ih
theorem repL_strs {F : Hp} {ι : List Addr} (ys : List Str) : RepL T F ι (ys.map V.str) (ys.map D.str) := by
  induction ys with
  | nil => exact .nil
  | cons y ys ih => exact .cons (.str y) ih
theorem pe_sset (G : Facts T tb Φ X k) (hm : X.mg "sorted" = none) (hg : Gl X "sorted") (hm2 : X.mg "set" = none) (hg2 : Gl X "set") (hp : plain a = true) {ta : TE} (ha : PE X a ta) : PE X (.Call (.Name "sorted" p) [.Call (.Name "set" p2) [a] [] p3] [] pos) (tSset T ta) := by
  refine ⟨fun pins s σ H Q I h => ?_⟩
  refine Call_ (ld_blt I hg hm (by decide +kernel : bootBuiltins ("sorted" : Str) = some (.builtin "sorted")) ?_)
  refine PyProof.Rows.callWith_builtin1 (PyProof.Rows.args_cons ?_ rfl) rfl rfl
  refine Call_ (ld_blt I hg2 hm2 PyProof.Rows.boot_set ?_)
  refine PyProof.Rows.callWith_type1 (PyProof.Rows.args_cons (thn (ha.run pins s σ H _ I h) fun v s1 ⟨x, H1, I1, r1, q1⟩ => PyProof.Rows.args_nil ?_) (star_cons hp)) (star_cons hp) rfl
  obtain ⟨ι, F, st, d, ds, out, S, rd, e, e2, q⟩ := q1
  obtain ⟨a, vs, rfl, hq, r, z⟩ := RepW.seq' (H := H1) S rd e
  cases r1
  unfold ssetD at e2
  cases e3 : strsOf ds with
  | none => rw [e3] at e2; cases e2
  | some xs =>
    simp only [e3] at e2
    split at e2 <;> try (cases e2; done)
    rename_i hlen
    cases e2
    have ev := r.strs e3
    subst ev
    refine run_set (knd := strKind X.prog X.w) (kf := kfS) I1 (I1.ok.hd G.calm) kfS_ok (by rw [G.hK]; exact hq) (fun its rv => ⟨by rw [← rv.length, List.length_map], strs_items rv⟩) hlen fun h' tk hS I2 => ?_
    refine PyProof.Rows.args_nil ?_
    refine sorted_setS hS (distinct_nodup xs) (fun k => decide_eq_true_iff) (I2.ok.hd G.calm) (by have := u100 G; omega) fun s' p0 outv c kp g o hp0 hg0 he => ?_
    have hl : ((distinct xs).mergeSort strLe).length ≤ sizeLine := by
      rw [List.length_mergeSort]
      exact Nat.le_trans (distinct_le xs) (Nat.le_trans (Nat.le_of_lt hlen) (by decide))
    have hn : H1 p0 = none := I2.hok.fresh hp0
    have J := I2.call (ch := []) (g' := s'.gens) (t' := s'.toks) (d' := s'.drawn) (H' := upd H1 p0 (.lst (((distinct xs).mergeSort strLe).map V.str))) (Un.laid kp hp0 hn) (I2.hok.laid kp hp0 ⟨by rw [List.length_map]; exact hl, outv, c, vals_strs he, hg0⟩) (by rw [g]; exact I2.bare) (fun _ z => nomatch z)
    have es : s' = { s1 with heap := s'.heap, gens := s'.gens, drawn := s'.drawn, toks := s'.toks } := by
      cases s'
      cases o
      rfl
    rw [es]
    exact ⟨.ref p0, _, J, rfl, q p0 _ hn (repL_strs _) (by rw [List.length_map]; exact hl)⟩
theorem c_sset (G : Facts T tb Φ X k) (hm : ("sorted" : Str) ∈ tb.blt) (hg : Gl X "sorted") (hm2 : ("set" : Str) ∈ tb.blt) (hg2 : Gl X "set") (hp : plain a = true) (ha : PE X a (tE T W (evE Φ ea))) : PE X (.Call (.Name "sorted" p) [.Call (.Name "set" p2) [a] [] p3] [] pos) (tCr T W (evC Φ (.sset ea))) := by
  refine PE.imp (pe_sset G (G.blt _ hm) hg (G.blt _ hm2) hg2 hp ha) fun σ H Q ⟨ι, F, ρ, st, S, E, P⟩ => ?_
  simp only [evC] at P
  refine ⟨ι, F, ρ, st, S, E, P.bind an_C fun x st1 ι1 F1 H1 v e1 S1 r1 P1 => ?_⟩
  cases e : seqOf st1 x with
  | none => simp only [e] at P1; exact P1.elim
  | some ds =>
    simp only [e] at P1
    cases e2 : ssetD ds with
    | none => rw [e2] at P1; exact P1.elim
    | some out =>
      rw [e2] at P1
      refine ⟨ι1, F1, st1, x, ds, out, S1, r1, e, e2, fun l ws hl rw' hz => ?_⟩
      obtain ⟨S2, e3⟩ := S1.beside hl (.lst ws)
      exact P1 _ _ _ _ e3 S2 ⟨l, ws, rfl, upd_same, hl, nf S1.same hl, S1.fresh hl, rw', hz⟩
def tLset (T : Kt) (ta : TE) : TE := fun σ H Q => ta σ H fun v H1 => ∃ ι F st x ds d, RSt T ι F H1 st ∧ Rep T F ι v x ∧ seqOf st x = some ds ∧ lsetD ds = some (.int d) ∧ Q (.int d) H1
theorem pe_lset (G : Facts T tb Φ X k) (hm : X.mg "len" = none) (hg : Gl X "len") (hm2 : X.mg "set" = none) (hg2 : Gl X "set") (hp : plain a = true) {ta : TE} (ha : PE X a ta) : PE X (.Call (.Name "len" p) [.Call (.Name "set" p2) [a] [] p3] [] pos) (tLset T ta) := by
  refine ⟨fun pins s σ H Q I h => ?_⟩
  refine Call_ (ld_blt I hg hm PySem.boot_len ?_)
  refine PyProof.Rows.callWith_builtin1 (PyProof.Rows.args_cons ?_ rfl) rfl rfl
  refine Call_ (ld_blt I hg2 hm2 PyProof.Rows.boot_set ?_)
  refine PyProof.Rows.callWith_type1 (PyProof.Rows.args_cons (thn (ha.run pins s σ H _ I h) fun v s1 ⟨x, H1, I1, r1, q1⟩ => PyProof.Rows.args_nil ?_) (star_cons hp)) (star_cons hp) rfl
  obtain ⟨ι, F, st, d, ds, n, S, rd, e, e2, q⟩ := q1
  obtain ⟨a, vs, rfl, hq, r, z⟩ := RepW.seq' (H := H1) S rd e
  cases r1
  have go : ∀ {K : Type} [DecidableEq K] {knd : KeyKind X.prog X.w K} {kf : Value → K} {xs : List K}, KfOk knd kf → (∀ its : List Value, Vals vs its → its.length = xs.length ∧ ∀ (i : Nat) (v : Value), its[i]? = some v → ∃ kk, xs[i]? = some kk ∧ knd.is kk v = true ∧ v.scannable = true) → xs.length < 4000 → n = (distinct xs).length →
      wpAny (model X.prog X.w) X.A (call (.type "set") [.ref a]) (fun v s1 => wpAny (model X.prog X.w) X.A (spliced (backTo pos (starEach [] X.env))) (fun vs s2 => wpAny (model X.prog X.w) X.A (call (.builtin "len") (v :: vs)) (EP X pins σ Q) X.xe s2) X.xe s1) X.xe s1 := fun {K _ knd kf xs} kk hi hlen hn => by
    refine run_set (knd := knd) (kf := kf) I1 (I1.ok.hd G.calm) kk (by rw [G.hK]; exact hq) hi hlen fun h' tk hS I2 => ?_
    refine PyProof.Rows.args_nil ?_
    obtain ⟨o, es, ep, t, ho, hex, hd, _, _, _, hb, hf, hnn, _⟩ := hS
    have hle : (distinct xs).length < 4000 := Nat.lt_of_le_of_lt (distinct_le xs) hlen
    exact call_len_set ho hex hd hf (by rw [hnn]; omega) ⟨.int n, H1, I2.tok _, ⟨_, by rw [hnn, hn]⟩, q⟩
  unfold lsetD at e2
  cases e3 : intsOf ds with
  | some xs =>
    simp only [e3] at e2
    split at e2 <;> try (cases e2; done)
    rename_i hlen
    cases e2
    have ev := r.ints e3
    subst ev
    exact go (knd := intKind X.prog X.w) (kf := kfI) kfI_ok (fun its rv => ⟨by rw [← rv.length, List.length_map], ints_items rv⟩) hlen rfl
  | none =>
    simp only [e3] at e2
    cases e4 : strsOf ds with
    | none => simp only [e4] at e2; cases e2
    | some xs =>
      simp only [e4] at e2
      split at e2 <;> try (cases e2; done)
      rename_i hlen
      cases e2
      have ev := r.strs e4
      subst ev
      exact go (knd := strKind X.prog X.w) (kf := kfS) kfS_ok (fun its rv => ⟨by rw [← rv.length, List.length_map], strs_items rv⟩) hlen rfl
theorem lsetD_int {ds : List D} {d : D} (h : lsetD ds = some d) : ∃ n, d = .int n := by
  unfold lsetD at h
  repeat' split at h
  all_goals first
    | (cases h; done)
    | (cases h; exact ⟨_, rfl⟩)
theorem x_lset (G : Facts T tb Φ X k) (hm : ("len" : Str) ∈ tb.blt) (hg : Gl X "len") (hm2 : ("set" : Str) ∈ tb.blt) (hg2 : Gl X "set") (hp : plain a = true) (ha : PE X a (tE T W (evE Φ ea))) : PE X (.Call (.Name "len" p) [.Call (.Name "set" p2) [a] [] p3] [] pos) (tE T W (evE Φ (.lset ea))) := by
  refine PE.imp (pe_lset G (G.blt _ hm) hg (G.blt _ hm2) hg2 hp ha) fun σ H Q ⟨ι, F, ρ, st, S, E, P⟩ => ?_
  simp only [evE] at P
  refine ⟨ι, F, ρ, st, S, E, P.bind an_D fun x st1 ι1 F1 H1 v e1 S1 r1 P1 => ?_⟩
  cases e : seqOf st1 x with
  | none => simp only [e] at P1; exact P1.elim
  | some ds =>
    simp only [e] at P1
    cases e2 : lsetD ds with
    | none => rw [e2] at P1; exact P1.elim
    | some d =>
      rw [e2] at P1
      obtain ⟨n, rfl⟩ := lsetD_int e2
      exact ⟨ι1, F1, st1, x, ds, n, S1, r1, e, e2, P1 _ _ _ _ Ext.refl S1 (.int _)⟩
/-! ### a dict of pairs -/
theorem pairs_rep {ι : List Addr} {F H : Hp} (s : Same F H) : ∀ {vs : List V} {ds : List D} {kvs : List (Str × D)}, RepL T F ι vs ds → pairsD ds = some kvs → ∃ ps ws, vs = ps.map V.ref ∧ Paired (fun p kv => SqT T.K H p [kV kv.1, kv.2]) ps (kws ws) ∧ RepF T F ι ws kvs
  | _, _, _, .nil, e => by
    cases e
    exact ⟨[], [], rfl, .nil, .nil⟩
  | _, _, _, .cons (d := d) (ds := ds) r t, e => by
    unfold pairsD at e
    split at e
    · rename_i h
      cases h
    · rename_i k v ds' h
      cases h
      cases e3 : pairsD ds with
      | none => rw [e3] at e; cases e
      | some kvs =>
        rw [e3] at e
        cases e
        obtain ⟨ps, ws, rfl, h1, h2⟩ := pairs_rep s t e3
        cases r with
        | tup h0 r0 z0 =>
          rename_i a xs
          cases r0 with
          | cons ra ta =>
            cases ra
            cases ta with
            | cons rb tb =>
              cases tb
              exact ⟨a :: ps, (k, _) :: ws, rfl, .cons (Same.seqT s h0) h1, .cons ⟨rfl, rb⟩ h2⟩
    · cases e
theorem merge_rep {ι : List Addr} {F : Hp} : ∀ {ws : List (Str × V)} {kvs : List (Str × D)}, RepF T F ι ws kvs → ∀ {acc : List (Str × V)} {accd : List (Str × D)}, RepF T F ι acc accd →
    ∃ ws', mergeK (kws acc) (kws ws) = kws ws' ∧ RepF T F ι ws' (kvs.foldl (fun acc kv => B.putK acc kv.1 kv.2) accd)
  | _, _, .nil, acc, accd, r => ⟨acc, rfl, r⟩
  | (g, v) :: ws, (g', d) :: kvs, .cons h t, acc, accd, r => by
    obtain ⟨h1, h2⟩ := h
    dsimp only at h1 h2
    subst h1
    obtain ⟨acc', e1, r1⟩ := RepF.putK (k := g) h2 r
    obtain ⟨ws', e2, r2⟩ := merge_rep t r1
    refine ⟨ws', ?_, r2⟩
    rw [← e2, ← e1]
    rfl
theorem x_dof {p : Pos} (G : Facts T tb Φ X k) (hm : ("dict" : Str) ∈ tb.blt) (hg : Gl X "dict") (hp : plain a = true) (ha : PE X a (tE T W (evE Φ ea))) : PE X (.Call (.Name "dict" p) [a] [] pos) (tE T W (evE Φ (.dof ea))) := by
  refine PE.imp (pe_callTy (call_dictP G.calm) hg (G.blt _ hm) (by decide +kernel) (pa_cons ha pa_nil (star_cons hp)) (by decide +kernel) (by decide +kernel) (star_cons hp) rfl) fun σ H Q ⟨ι, F, ρ, st, S, E, P⟩ => ?_
  simp only [evE] at P
  refine ⟨ι, F, ρ, st, S, E, P.bind an_D fun x st1 ι1 F1 H1 v e1 S1 r1 P1 => ?_⟩
  cases e : listOf st1 x with
  | none => simp only [e, Option.bind_none] at P1; exact P1.elim
  | some ds =>
    cases e2 : pairsD ds with
    | none => simp only [e, Option.bind_some, e2] at P1; exact P1.elim
    | some kvs =>
      simp only [e, Option.bind_some, e2] at P1
      obtain ⟨a', vs, rfl, hs, r, z⟩ := RepW.list' (H := H1) S1 r1 e
      obtain ⟨ps, ws, rfl, hpr, rf⟩ := pairs_rep S1.same r e2
      refine ⟨a', ps, kws ws, rfl, by rw [G.hK]; exact SqL.of hs, by rw [G.hK]; exact hpr, fun q hq => ?_⟩
      obtain ⟨ws', em, rf'⟩ := merge_rep rf (acc := []) (accd := []) .nil
      rw [show mergeK [] (kws ws) = kws ws' from em]
      obtain ⟨S2, e3⟩ := S1.beside hq (.dK (kws ws'))
      refine P1 _ _ _ _ (e3.toCell hq) (S2.toCell (S1.fresh hq) (nf S1.same hq) (c := .dict (mergeD kvs)) ⟨ws', upd_same, rf'⟩) (.ref ?_)
      rw [← S1.len]
      simp
theorem dwnL_get {lo : Int} {n i : Nat} {d : D} (h : (dwnL lo n)[i]? = some d) : i < n ∧ d = .int (lo - (i : Nat)) := by
  unfold dwnL at h
  rw [List.getElem?_map] at h
  cases e : (List.range n)[i]? with
  | none => rw [e] at h; cases h
  | some j =>
    rw [e] at h
    have hi := (List.getElem?_eq_some_iff.mp e).1
    rw [List.length_range] at hi
    rw [List.getElem?_range hi] at e
    cases e
    cases h
    exact ⟨hi, rfl⟩
theorem steps_dwn {ι : List Addr} {F : Hp} (lo : Int) (n : Nat) : Steps T ι F (Itc lo (-1) n) (dwnL lo n, fun _ => true) := fun i ι' F' H' st' s1 p1 S' ok =>
  ⟨fun d hd => by
    obtain ⟨hi, rfl⟩ := dwnL_get hd
    refine ⟨hi, fun x H'' hy => ?_⟩
    obtain ⟨rfl, rfl⟩ := hy
    have e : lo + ((i : Nat) : Int) * (-1) = lo - (i : Nat) := by omega
    rw [e]
    exact ⟨F', Ext.refl, S', .int _⟩, fun hi => by
    have : (dwnL lo n).length = n := by simp [dwnL]
    show n ≤ i
    rw [← this]; exact hi⟩
theorem i_rng3 {tg : Expr} {j : Nat} (G : Facts T tb Φ X k) (hm : ("range" : Str) ∈ tb.blt) (hg : Gl X "range") (hp : plain a = true) (hp2 : plain b = true) (ha : PE X a (tE T W (evE Φ ea))) (hb : PE X b (tE T W (evE Φ eb))) : PI X tg (.Call (.Name "range" p) [a, b, .UnaryOp .USub (.Constant (.int 1) j p2) p3] [] pos) (tIt T W (evI Φ (.rng3 ea eb))) := by
  refine PI.imp (pi_range3 hg (G.blt _ hm) (pa_cons ha (pa_cons hb (pa_cons (pe_un un_neg pe_int) pa_nil) (star_cons hp2)) (star_cons hp)) (by rw [star_cons hp]) (star_any fun x hx => by
    rcases List.mem_cons.mp hx with rfl | hx
    · exact hp2
    · rcases List.mem_cons.mp hx with rfl | hx
      · rfl
      · cases hx)) fun σ H Q ⟨ι, F, ρ, st, S, E, P⟩ => ?_
  simp only [evI] at P
  refine ⟨ι, F, ρ, st, S, E, P.bind an_I fun x st1 ι1 F1 H1 v e1 S1 r1 P1 => ?_⟩
  refine ⟨ι1, F1, ρ, st1, S1, E.ext e1, P1.bind an_I fun y st2 ι2 F2 H2 w e2 S2 r2 P2 => ?_⟩
  replace r1 := r1.ext e2
  cases x <;> try (exact P2.elim)
  cases y <;> try (exact P2.elim)
  rename_i i j
  cases r1
  cases r2
  cases h : rngOk j i with
  | false => simp only [h] at P2; exact P2.elim
  | true =>
    simp only [h, if_true] at P2
    obtain ⟨⟨h1, h2, h3, h4⟩, h5⟩ := rngOk_of h
    exact ⟨1, rfl, i, j, -1, (i - j).toNat, rfl, RgC.neg h3 h4 h1 h2, P2 _ _ _ _ Ext.refl S2 ⟨steps_dwn i (i - j).toNat, by
      have : (dwnL i (i - j).toNat).length = (i - j).toNat := by simp [dwnL]
      rw [this]; exact h5⟩⟩
end
end B

set_option Elab.async false
set_option linter.all false
set_option maxRecDepth 100000
set_option maxHeartbeats 4000000
namespace B
set_option autoImplicit false
open PySem PySem.Spec L2
open PyProof.Rows hiding St
variable {T : Kt} {X : Cx} {W : WX} {Φ : Phi} {tb : Tab} {k : Nat}
/-- the name y takes the value of a: what a comprehension asks of it -/
def swC : Expr → Str → Pos → Bool
  | .ListComp _ _ sc p, y, py => (py.line == p.line) && !(sc.names.any fun (n, k) => n == y && (k == .local || k == .cell))
  | e, _, _ => noComp e
/-- an expression, and as the value of a name -/
structure PEA (X : Cx) (a : Expr) (t : TE) : Prop where
  pe : PE X a t
  st : ∀ {j : Nat} {y : Str} {py spos : Pos}, X.N[j]? = some y → X.env.scope.kind = .function → Loc X.env.scope y → X.fn y = true → (X.env.scope.names.lookup y = some .local → swC a y py = true) → X.N.Nodup →
    PS X (.Assign [.Name y py] a spos) (tAsg t (gName j))
theorem PEA.imp {a : Expr} {t t' : TE} (h : PEA X a t) (i : ∀ σ H Q, t' σ H Q → t σ H Q) : PEA X a t' :=
  ⟨PE.imp h.pe i, fun h1 h2 h3 h4 h5 h6 => PS.imp (h.st h1 h2 h3 h4 h5 h6) fun D σ H q => i _ _ _ q⟩
theorem PEA.of {a : Expr} {t : TE} (hn : noComp a = true) (h : PE X a t) : PEA X a t :=
  ⟨h, fun h1 h2 h3 h4 h5 h6 => ps_set h6 h1 h3 h (swaps_eq hn) (.inl h4)⟩
theorem sw_cell {e : Expr} {y : Str} {py : Pos} {l : Nat} {env : PySem.Env} (h : env.scope.names.lookup y = some .cell) : swapsWith e (some (.Name y py)) l env = pure false := by
  have ky : env.kindOf y = some .cell := h
  cases e <;> first
    | rfl
    | (unfold swapsWith
       simp only [ky]
       rw [show (some NameKind.cell == some NameKind.local) = false from rfl, Bool.and_false, Bool.false_and, Bool.false_and])
structure Oks (T : Kt) (tb : Tab) (Φ : Phi) (k n : Nat) : Prop where
  e : ∀ (x : Ex), ∀ {X : Cx} {W : WX} {sc : Scope} {a : Expr}, chkE tb X.N n x sc a = true → ScOk X sc → Facts T tb Φ X k → Takes X W → PE X a (tE T W (evE Φ x))
  t : ∀ (x : Ex), ∀ {X : Cx} {W : WX} {sc : Scope} {a : Expr}, chkT tb X.N n x sc a = true → ScOk X sc → Facts T tb Φ X k → Takes X W →
    PT X a (tK T W (evT Φ x)) ∧ ∀ op l p, a = .BoolOp op l p → PW X a (tK T W (evT Φ x))
  o : ∀ (x : Eo), ∀ {X : Cx} {W : WX} {sc : Scope} {a : Option Expr}, chkO tb X.N n x sc a = true → ScOk X sc → Facts T tb Φ X k → Takes X W → PO X a (tM T rOI W (evEo Φ x))
  co : ∀ (x : Eo), ∀ {X : Cx} {W : WX} {sc : Scope} {a : List Expr}, chkCo tb X.N n x sc a = true → ScOk X sc → Facts T tb Φ X k → Takes X W → PTs X a (tCo T W (evCo Φ x))
  es : ∀ (x : Es), ∀ {X : Cx} {W : WX} {sc : Scope} {a : List Expr}, chkEs tb X.N n x sc a = true → ScOk X sc → Facts T tb Φ X k → Takes X W → PA X a (tEs T W (evEs Φ x))
  c : ∀ (x : Cr), ∀ {X : Cx} {W : WX} {sc : Scope} {a : Expr}, chkC tb X.N n x sc a = true → ScOk X sc → Facts T tb Φ X k → Takes X W → PEA X a (tCr T W (evC Φ x))
  i : ∀ (x : Wk), ∀ {X : Cx} {W : WX} {sc : Scope} {tg a : Expr}, chkI tb X.N n x sc tg a = true → ScOk X sc → Facts T tb Φ X k → Takes X W → PI X tg a (tIt T W (evI Φ x))
  g : ∀ (x : Tg), ∀ {X : Cx} {sc : Scope} {a : Expr}, chkG tb X.N n x sc a = true → ScOk X sc → Facts T tb Φ X k → PG X a (tA T x.slots (asT Φ x))
  gs : ∀ (x : Ts), ∀ {X : Cx} {sc : Scope} {a : List Expr}, chkGs tb X.N n x sc a = true → ScOk X sc → Facts T tb Φ X k → PGs X a (tAs T x.slots (asTs Φ x))
theorem es_nil {es : Es} (h : es.len = ([] : List Expr).length) : es = .nil := by
  cases es with
  | nil => rfl
  | cons _ _ => cases h
theorem pw_both {a : Expr} {t : TT} (w : PW X a t) : PT X a t ∧ ∀ op l p, a = .BoolOp op l p → PW X a t := ⟨w.pt, fun _ _ _ _ => w⟩
theorem takes0 : Takes X W0 := fun u s' ⟨a, B, sI, pins, σ, H, cls, d, e, I, nb, up, sky, na, os, ag, w⟩ => w.elim
theorem ok_e {n : Nat} (O : Oks T tb Φ k n) (x : Ex) {X : Cx} {W : WX} {sc : Scope} {a : Expr} (h : chkE tb X.N (n + 1) x sc a = true) (S : ScOk X sc) (G : Facts T tb Φ X k) (tk : Takes X W) : PE X a (tE T W (evE Φ x)) := by
  generalize hm : n + 1 = m at h
  unfold chkE at h
  split at h
  all_goals first
    | (cases hm; done)
    | (obtain rfl := Nat.succ.inj hm)
    | skip
  all_goals try simp only [Bool.and_eq_true, decide_eq_true_eq] at h
  · exact x_var h.1.1 (S.vis _ h.1.2) h.2
  · exact x_con h
  · obtain ⟨⟨⟨rfl, h2⟩, h3⟩, h4⟩ := h
    exact x_glob G h4 (S.gl _ h2) h3
  · obtain ⟨⟨rfl, h2⟩, h3⟩ := h
    exact x_bin G (O.e _ h2 S G tk) (O.e _ h3 S G tk)
  · exact x_neg (O.e _ h S G tk)
  · obtain ⟨⟨⟨rfl, h1⟩, h2⟩, h3⟩ := h
    exact x_cmp G h1 (O.e _ h2 S G tk) (O.e _ h3 S G tk)
  · obtain ⟨⟨⟨⟨⟨rfl, rfl⟩, h1⟩, h2⟩, h3⟩, h4⟩ := h
    exact x_chn G h1 (O.e _ h2 S G tk) (O.e _ h3 S G tk) (O.e _ h4 S G tk)
  · obtain ⟨h1, h2⟩ := h
    split at h2
    · exact x_and (O.e _ h1 S G tk) (pe_one (O.e _ h2 S G tk))
    · exact x_and (O.e _ h1 S G tk) (O.e _ h2 S G tk)
  · obtain ⟨h1, h2⟩ := h
    split at h2
    · exact x_or (O.e _ h1 S G tk) (pe_one (O.e _ h2 S G tk))
    · exact x_or (O.e _ h1 S G tk) (O.e _ h2 S G tk)
  · exact x_not G (O.e _ h S G tk)
  · obtain ⟨⟨h1, h2⟩, h3⟩ := h
    exact x_ife (O.t _ h1 S G tk).1 (O.e _ h2 S G tk) (O.e _ h3 S G tk)
  · obtain ⟨h1, h2⟩ := h
    exact x_tup (σ := ()) (by rw [chkEs_len h2]; exact h1) (O.es _ h2 S G tk)
  · exact x_frz (O.c _ h S G tk).pe
  · exact x_cel (O.c _ h S G tk).pe
  · obtain ⟨⟨h1, h2⟩, h3⟩ := h
    exact x_idx G h1 (O.e _ h2 S G tk) (O.e _ h3 S G tk)
  · obtain ⟨⟨h1, h2⟩, h3⟩ := h
    exact x_slc G (O.e _ h1 S G tk) (O.o _ h2 S G tk) (O.o _ h3 S G tk)
  · obtain ⟨⟨⟨rfl, h1⟩, h2⟩, h3⟩ := h
    exact x_fld G h1 h2 (O.e _ h3 S G tk)
  · obtain ⟨⟨⟨h1, h2⟩, h3⟩, h4⟩ := h
    exact x_call G tk h1 (S.gl _ h2) h3 (chkEs_plain h4) (O.es _ h4 S G tk)
  · obtain ⟨⟨⟨h1, h2⟩, h3⟩, h4⟩ := h
    exact x_make G h1 (S.gl _ h2) h3 (chkEs_plain h4) (O.es _ h4 S G tk)
  · obtain ⟨⟨⟨⟨⟨⟨rfl, h1⟩, h2⟩, h3⟩, h4⟩, h5⟩, h6⟩ := h
    exact x_meth G tk h1 h2 (chkEs_plain h6) h3 h4 (O.e _ h5 S G tk) (O.es _ h6 S G tk) (fun z => by
      subst z
      exact es_nil (chkEs_len h6))
  · obtain ⟨⟨⟨rfl, h1⟩, h2⟩, h3⟩ := h
    exact x_blt G h1 (S.gl _ h2) (chkEs_plain h3) (O.es _ h3 S G tk)
  · obtain ⟨⟨⟨⟨⟨rfl, h1⟩, h2⟩, h3⟩, h4⟩, h5⟩ := h
    exact x_app h1 h2 h3 (O.e _ h4 S G tk) (O.e _ h5 S G tk)
  · obtain ⟨⟨⟨⟨⟨rfl, h1⟩, h2⟩, h3⟩, h4⟩, h5⟩ := h
    exact x_ext h1 h2 h3 (O.e _ h4 S G tk) (O.e _ h5 S G tk)
  · obtain ⟨⟨⟨rfl, h1⟩, h2⟩, h3⟩ := h
    exact x_pop h1 h2 (O.e _ h3 S G tk)
  · obtain ⟨⟨⟨⟨⟨rfl, h1⟩, h2⟩, h3⟩, h4⟩, h5⟩ := h
    exact x_olen G h1 (S.gl _ h2) h3 (S.vis _ h4) h5
  · obtain ⟨⟨⟨⟨h1, h2⟩, h3⟩, h4⟩, h5⟩ := h
    exact x_oidx G h2 (S.vis _ h3) h4 h1 (O.e _ h5 S G tk)
  · obtain ⟨⟨⟨⟨⟨⟨⟨rfl, h1⟩, h2⟩, rfl⟩, h3⟩, h4⟩, h5⟩, h6⟩ := h
    exact x_lset G h1 (S.gl _ h2) h3 (S.gl _ h4) h5 (O.e _ h6 S G tk)
  · obtain ⟨⟨⟨⟨rfl, h1⟩, h2⟩, h3⟩, h4⟩ := h
    exact x_dof G h1 (S.gl _ h2) h3 (O.e _ h4 S G tk)
  · cases h
theorem ok_t {n : Nat} (O : Oks T tb Φ k n) (x : Ex) {X : Cx} {W : WX} {sc : Scope} {a : Expr} (h : chkT tb X.N (n + 1) x sc a = true) (S : ScOk X sc) (G : Facts T tb Φ X k) (tk : Takes X W) :
    PT X a (tK T W (evT Φ x)) ∧ ∀ op l p, a = .BoolOp op l p → PW X a (tK T W (evT Φ x)) := by
  generalize hm : n + 1 = m at h
  unfold chkT at h
  split at h
  all_goals first
    | (cases hm; done)
    | (obtain rfl := Nat.succ.inj hm)
    | skip
  all_goals try simp only [Bool.and_eq_true, decide_eq_true_eq] at h
  · obtain ⟨h1, h2⟩ := h
    split at h2
    · have hb := (O.t _ h2 S G tk).1
      exact pw_both (t_and (O.t _ h1 S G tk).1 (pw_and1 hb).pt (pw_and1 hb))
    · have hb := (O.t _ h2 S G tk)
      exact pw_both (t_and (O.t _ h1 S G tk).1 hb.1 (hb.2 _ _ _ rfl))
  · obtain ⟨h1, h2⟩ := h
    split at h2
    · have hb := (O.t _ h2 S G tk).1
      exact pw_both (t_or (O.t _ h1 S G tk).1 (pw_or1 hb))
    · have hb := (O.t _ h2 S G tk)
      exact pw_both (t_or (O.t _ h1 S G tk).1 (hb.2 _ _ _ rfl))
  · exact ⟨t_not (O.t _ h S G tk).1, fun _ _ _ z => nomatch z⟩
  · obtain ⟨⟨⟨rfl, h1⟩, h2⟩, h3⟩ := h
    exact ⟨t_cmp G h1 (O.e _ h2 S G tk) (O.e _ h3 S G tk), fun _ _ _ z => nomatch z⟩
  · obtain ⟨⟨⟨⟨⟨rfl, rfl⟩, h1⟩, h2⟩, h3⟩, h4⟩ := h
    exact ⟨t_chn G h1 (O.e _ h2 S G tk) (O.e _ h3 S G tk) (O.e _ h4 S G tk), fun _ _ _ z => nomatch z⟩
  · cases h
  · cases h
  · cases h
  · cases h
  · cases h
  · obtain ⟨h1, h2⟩ := h
    refine ⟨t_val G h1 (O.e x h2 S G tk) (by assumption) (by assumption) (by assumption), fun op l p z => ?_⟩
    subst z
    simp [bareTest] at h1
theorem ok_o {n : Nat} (O : Oks T tb Φ k n) (x : Eo) {X : Cx} {W : WX} {sc : Scope} {a : Option Expr} (h : chkO tb X.N (n + 1) x sc a = true) (S : ScOk X sc) (G : Facts T tb Φ X k) (tk : Takes X W) : PO X a (tM T rOI W (evEo Φ x)) := by
  generalize hm : n + 1 = m at h
  unfold chkO at h
  split at h
  all_goals first
    | (cases hm; done)
    | (obtain rfl := Nat.succ.inj hm)
    | skip
  · exact o_none
  · exact o_some (O.e _ h S G tk)
  · cases h
theorem co_none : PTs X [] (tCo T W (evCo Φ .none)) := ⟨fun pins s σ H Q I h' => pts_nil.run pins s σ H Q I (by
  obtain ⟨ι, F, ρ, st, S, E, P⟩ := h'
  simp only [evCo] at P
  exact P ι F H true Ext.refl S rfl)⟩
theorem co_some {a : Expr} {x : Ex} (h : PT X a (tK T W (evT Φ x))) : PTs X [a] (tCo T W (evCo Φ (.some x))) := ⟨fun pins s σ H Q I h' => (pts_one h).run pins s σ H Q I (by
  obtain ⟨ι, F, ρ, st, S, E, P⟩ := h'
  simp only [evCo] at P
  exact ⟨ι, F, ρ, st, S, E, P⟩)⟩
theorem ok_co {n : Nat} (O : Oks T tb Φ k n) (x : Eo) {X : Cx} {W : WX} {sc : Scope} {a : List Expr} (h : chkCo tb X.N (n + 1) x sc a = true) (S : ScOk X sc) (G : Facts T tb Φ X k) (tk : Takes X W) : PTs X a (tCo T W (evCo Φ x)) := by
  generalize hm : n + 1 = m at h
  unfold chkCo at h
  split at h
  all_goals first
    | (cases hm; done)
    | (obtain rfl := Nat.succ.inj hm)
    | skip
  · exact co_none
  · exact co_some (O.t _ h S G tk).1
  · cases h
theorem ok_es {n : Nat} (O : Oks T tb Φ k n) (x : Es) {X : Cx} {W : WX} {sc : Scope} {a : List Expr} (h : chkEs tb X.N (n + 1) x sc a = true) (S : ScOk X sc) (G : Facts T tb Φ X k) (tk : Takes X W) : PA X a (tEs T W (evEs Φ x)) := by
  generalize hm : n + 1 = m at h
  unfold chkEs at h
  split at h
  all_goals first
    | (cases hm; done)
    | (obtain rfl := Nat.succ.inj hm)
    | skip
  · exact a_nil
  · simp only [Bool.and_eq_true] at h
    exact a_cons h.1.1 (O.e _ h.1.2 S G tk) (O.es _ h.2 S G tk)
  · cases h
theorem own_ix {N : List Str} (own : List Nat) : (own.map fun i => (N.getD i Str.empty, i)).map (·.2) = own := by
  rw [List.map_map]
  exact List.map_id' own
theorem ok_c {n : Nat} (O : Oks T tb Φ k n) (x : Cr) {X : Cx} {W : WX} {sc : Scope} {a : Expr} (h : chkC tb X.N (n + 1) x sc a = true) (S : ScOk X sc) (G : Facts T tb Φ X k) (tk : Takes X W) : PEA X a (tCr T W (evC Φ x)) := by
  generalize hm : n + 1 = m at h
  unfold chkC at h
  split at h
  all_goals first
    | (cases hm; done)
    | (obtain rfl := Nat.succ.inj hm)
    | skip
  all_goals try simp only [Bool.and_eq_true, decide_eq_true_eq] at h
  · obtain ⟨h1, h2⟩ := h
    exact PEA.of rfl (c_disp (by rw [chkEs_len h2]; exact h1) (O.es _ h2 S G tk))
  · obtain ⟨⟨⟨⟨⟨⟨⟨h1, h2⟩, h3⟩, h4⟩, h5⟩, h6⟩, h7⟩, h8⟩ := h
    obtain ⟨tt, p1, p2, p3⟩ := x_comp (W := W) (own_ix _) G h1 h4 (O.i _ h5 S G tk) (BlkOk.of S (blkOk_by h2)) (fun s H C cl fp => O.g _ h6 ScOk.blk (G.blk _ _ _ _ _)) (fun s H C cl fp => O.co _ h7 ScOk.blk (G.blk _ _ _ _ _) takes0) (fun s H C cl fp => O.e _ h8 ScOk.blk (G.blk _ _ _ _ _) takes0)
    refine PEA.imp ⟨p1, fun {j y py spos} e1 e2 e3 e5 e4 nd => ?_⟩ p3
    rcases e3 with e3 | e3
    · refine p2 e1 e3 ?_
      replace e4 := e4 e3
      simp only [swC, Bool.and_eq_true, Bool.not_eq_true'] at e4
      exact sw_true e2 e3 e4.1 e4.2
    · exact ps_set nd e1 (.inr e3) p1 (sw_cell e3) (.inl e5)
  · obtain ⟨⟨⟨⟨rfl, h1⟩, h2⟩, h3⟩, h4⟩ := h
    exact PEA.of rfl (c_copy G h1 (S.gl _ h2) h3 (O.e _ h4 S G tk))
  · obtain ⟨h1, h2⟩ := h
    exact PEA.of rfl (c_cat (O.e _ h1 S G tk) (O.e _ h2 S G tk))
  · exact PEA.of rfl (c_rev G (O.e _ h S G tk))
  · obtain ⟨⟨⟨⟨rfl, h1⟩, h2⟩, h3⟩, h4⟩ := h
    exact PEA.of rfl (c_sort G h1 (S.gl _ h2) h3 (O.e _ h4 S G tk))
  · obtain ⟨⟨⟨⟨⟨rfl, h1⟩, h2⟩, h3⟩, rfl⟩, h4⟩ := h
    exact PEA.of rfl (c_srev G h1 (S.gl _ h2) h3 (O.e _ h4 S G tk))
  · obtain ⟨⟨⟨⟨⟨⟨⟨rfl, h1⟩, h2⟩, rfl⟩, h3⟩, h4⟩, h5⟩, h6⟩ := h
    exact PEA.of rfl (c_sset G h1 (S.gl _ h2) h3 (S.gl _ h4) h5 (O.e _ h6 S G tk))
  · obtain ⟨h1, h2⟩ := h
    exact PEA.of rfl (c_rep (O.e _ h1 S G tk) (O.e _ h2 S G tk))
  · cases h
theorem ok_i {n : Nat} (O : Oks T tb Φ k n) (x : Wk) {X : Cx} {W : WX} {sc : Scope} {tg a : Expr} (h : chkI tb X.N (n + 1) x sc tg a = true) (S : ScOk X sc) (G : Facts T tb Φ X k) (tk : Takes X W) : PI X tg a (tIt T W (evI Φ x)) := by
  generalize hm : n + 1 = m at h
  unfold chkI at h
  split at h
  all_goals first
    | (cases hm; done)
    | (obtain rfl := Nat.succ.inj hm)
    | skip
  all_goals try simp only [Bool.and_eq_true, decide_eq_true_eq] at h
  · exact i_val G (O.e _ h S G tk)
  · obtain ⟨⟨⟨⟨rfl, h1⟩, h2⟩, h3⟩, h4⟩ := h
    exact i_rng1 G h1 (S.gl _ h2) h3 (O.e _ h4 S G tk)
  · obtain ⟨⟨⟨⟨⟨⟨rfl, h1⟩, h2⟩, h3⟩, h4⟩, h5⟩, h6⟩ := h
    exact i_rng2 G h1 (S.gl _ h2) h3 h4 (O.e _ h5 S G tk) (O.e _ h6 S G tk)
  · obtain ⟨⟨⟨⟨⟨⟨rfl, h1⟩, h2⟩, h3⟩, h4⟩, h5⟩, h6⟩ := h
    exact i_rng3 G h1 (S.gl _ h2) h3 h4 (O.e _ h5 S G tk) (O.e _ h6 S G tk)
  · obtain ⟨⟨⟨⟨rfl, h1⟩, h2⟩, h3⟩, h4⟩ := h
    exact i_enum G h1 (S.gl _ h2) h3 (O.e _ h4 S G tk)
  · obtain ⟨⟨⟨⟨⟨⟨rfl, h1⟩, h2⟩, h3⟩, h4⟩, h5⟩, h6⟩ := h
    exact i_zip G h1 (S.gl _ h2) h3 h4 (O.e _ h5 S G tk) (O.e _ h6 S G tk)
  · cases h
theorem asTs_len : ∀ {n : Nat} (ts : Ts) {es : List Expr} {N : List Str} {sc : Scope}, chkGs tb N n ts sc es = true → ∀ xs ρ st ρ' st', asTs Φ ts xs ρ st = .ok ρ' st' → xs.length = es.length
  | 0, _, _, _, _, h, _, _, _, _, _, _ => by simp [chkGs] at h
  | _ + 1, .nil, [], _, _, _, xs, ρ, st, ρ', st', h => by
    cases xs with
    | nil => rfl
    | cons _ _ => simp [asTs] at h
  | n + 1, .cons t ts, e :: es, N, sc, hc, xs, ρ, st, ρ', st', h => by
    simp only [chkGs, Bool.and_eq_true] at hc
    cases xs with
    | nil => simp [asTs] at h
    | cons x xs =>
      simp only [asTs] at h
      cases e1 : asT Φ t x ρ st with
      | stuck => rw [e1] at h; cases h
      | exc _ _ => rw [e1] at h; cases h
      | ok ρ1 st1 =>
        rw [e1] at h
        simp only [List.length_cons, asTs_len ts hc.2 xs ρ1 st1 ρ' st' h]
  | _ + 1, .nil, _ :: _, _, _, hc, _, _, _, _, _, _ => by simp [chkGs] at hc
  | _ + 1, .cons _ _, [], _, _, hc, _, _, _, _, _, _ => by simp [chkGs] at hc
theorem chkGs_plain {N : List Str} : ∀ {n : Nat} (ts : Ts) {sc : Scope} {es : List Expr}, chkGs tb N n ts sc es = true → ∀ e ∈ es, plain e = true
  | 0, _, _, _, h, _, _ => by simp [chkGs] at h
  | _ + 1, .nil, _, [], _, _, h => by cases h
  | n + 1, .cons t ts, sc, x :: xs, h, y, hy => by
    simp only [chkGs, Bool.and_eq_true] at h
    rcases List.mem_cons.mp hy with rfl | hy
    · exact h.1.1
    · exact chkGs_plain ts h.2 y hy
  | _ + 1, .nil, _, _ :: _, h, _, _ => by simp [chkGs] at h
  | _ + 1, .cons _ _, _, [], h, _, _ => by simp [chkGs] at h
theorem ok_g {n : Nat} (O : Oks T tb Φ k n) (x : Tg) {X : Cx} {sc : Scope} {a : Expr} (h : chkG tb X.N (n + 1) x sc a = true) (S : ScOk X sc) (G : Facts T tb Φ X k) : PG X a (tA T x.slots (asT Φ x)) := by
  generalize hm : n + 1 = m at h
  unfold chkG at h
  split at h
  all_goals first
    | (cases hm; done)
    | (obtain rfl := Nat.succ.inj hm)
    | skip
  all_goals try simp only [Bool.and_eq_true, decide_eq_true_eq] at h
  · exact g_name G.nd h.1 (S.loc _ h.2).1 (S.loc _ h.2).2
  · exact g_tup G.calm G.hK (chkGs_plain _ h) (O.gs _ h S G) (asTs_len _ h)
  · obtain ⟨⟨⟨rfl, h1⟩, h2⟩, h3⟩ := h
    exact g_fl G h1 (O.e _ h3 S G takes0)
  · obtain ⟨⟨⟨h1, h2⟩, h3⟩, h4⟩ := h
    exact g_sb G h2 (O.e _ h3 S G takes0) (O.e _ h4 S G takes0)
  · cases h
theorem ok_gs {n : Nat} (O : Oks T tb Φ k n) (x : Ts) {X : Cx} {sc : Scope} {a : List Expr} (h : chkGs tb X.N (n + 1) x sc a = true) (S : ScOk X sc) (G : Facts T tb Φ X k) : PGs X a (tAs T x.slots (asTs Φ x)) := by
  generalize hm : n + 1 = m at h
  unfold chkGs at h
  split at h
  all_goals first
    | (cases hm; done)
    | (obtain rfl := Nat.succ.inj hm)
    | skip
  · exact gs_nil
  · simp only [Bool.and_eq_true] at h
    exact gs_cons h.1.1 (O.g _ h.1.2 S G) (O.gs _ h.2 S G)
  · cases h
theorem oks (T : Kt) (tb : Tab) (Φ : Phi) (k : Nat) : ∀ n : Nat, Oks T tb Φ k n
  | 0 => by
    constructor
    · intro x X W sc a h; simp [chkE] at h
    · intro x X W sc a h; simp [chkT] at h
    · intro x X W sc a h; simp [chkO] at h
    · intro x X W sc a h; simp [chkCo] at h
    · intro x X W sc a h; simp [chkEs] at h
    · intro x X W sc a h; simp [chkC] at h
    · intro x X W sc tg a h; simp [chkI] at h
    · intro x X sc a h; simp [chkG] at h
    · intro x X sc a h; simp [chkGs] at h
  | n + 1 => have O := oks T tb Φ k n
    ⟨ok_e O, ok_t O, ok_o O, ok_co O, ok_es O, ok_c O, ok_i O, ok_g O, ok_gs O⟩
theorem all_e {n : Nat} {x : Ex} {sc : Scope} {a : Expr} (h : chkE tb X.N n x sc a = true) (S : ScOk X sc) (G : Facts T tb Φ X k) (tk : Takes X W) : PE X a (tE T W (evE Φ x)) := (oks T tb Φ k _).e x h S G tk
theorem all_t {n : Nat} {x : Ex} {sc : Scope} {a : Expr} (h : chkT tb X.N n x sc a = true) (S : ScOk X sc) (G : Facts T tb Φ X k) (tk : Takes X W) : PT X a (tK T W (evT Φ x)) := ((oks T tb Φ k _).t x h S G tk).1
theorem all_es {n : Nat} {x : Es} {sc : Scope} {a : List Expr} (h : chkEs tb X.N n x sc a = true) (S : ScOk X sc) (G : Facts T tb Φ X k) (tk : Takes X W) : PA X a (tEs T W (evEs Φ x)) := (oks T tb Φ k _).es x h S G tk
theorem all_c {n : Nat} {x : Cr} {sc : Scope} {a : Expr} (h : chkC tb X.N n x sc a = true) (S : ScOk X sc) (G : Facts T tb Φ X k) (tk : Takes X W) : PEA X a (tCr T W (evC Φ x)) := (oks T tb Φ k _).c x h S G tk
theorem all_i {n : Nat} {x : Wk} {sc : Scope} {tg a : Expr} (h : chkI tb X.N n x sc tg a = true) (S : ScOk X sc) (G : Facts T tb Φ X k) (tk : Takes X W) : PI X tg a (tIt T W (evI Φ x)) := (oks T tb Φ k _).i x h S G tk
theorem all_g {n : Nat} {x : Tg} {sc : Scope} {a : Expr} (h : chkG tb X.N n x sc a = true) (S : ScOk X sc) (G : Facts T tb Φ X k) : PG X a (tA T x.slots (asT Φ x)) := (oks T tb Φ k _).g x h S G
theorem all_ea {n : Nat} {x : Ex} {sc : Scope} {a : Expr} (h : chkE tb X.N n x sc a = true) (S : ScOk X sc) (G : Facts T tb Φ X k) (tk : Takes X W) : PEA X a (tE T W (evE Φ x)) := by
  by_cases hn : noComp a = true
  · exact PEA.of hn (all_e h S G tk)
  · unfold chkE at h
    split at h
    all_goals first
      | exact absurd rfl hn
      | skip
    · exact PEA.imp (all_c h S G tk) fun σ H Q q => frz_red q
    · exact PEA.imp (all_c h S G tk) fun σ H Q q => cel_red q
    · cases h
end B

set_option Elab.async false
set_option linter.all false
set_option maxRecDepth 100000
set_option maxHeartbeats 4000000
namespace B
set_option autoImplicit false
open PySem PySem.Spec L2
open PyProof.Rows hiding St
variable {T : Kt} {X : Cx} {W : WX} {Φ : Phi} {tb : Tab} {k : Nat}
/-! ### statements -/
/-- slots own nothing that was there and was not owned -/
def OwnSt (σ : St) (ρ : Slots) (H : Hp) (σ' : St) (ρ' : Slots) : Prop := ∀ a, Own σ' ρ' a → Own σ ρ a ∨ H a = none
abbrev ExtO (σ : St) (ρ : Slots) := Ext (Own σ ρ)
def PostS (T : Kt) (W : WX) (σ : St) (ρ : Slots) (ι : List Addr) (F H : Hp) (r : RS) (D : Ends) : Prop :=
  match r with
  | .ok (.next ρ') st' => ∀ ι' F' H' σ', ExtO σ ρ ι F H ι' F' H' → RSt T ι' F' H' st' → REnv T ι' F' H' σ' ρ' → OwnSt σ ρ H σ' ρ' → D.nx σ' H'
  | .ok (.brk ρ') st' => ∀ ι' F' H' σ', ExtO σ ρ ι F H ι' F' H' → RSt T ι' F' H' st' → REnv T ι' F' H' σ' ρ' → OwnSt σ ρ H σ' ρ' → D.bk σ' H'
  | .ok (.cont ρ') st' => ∀ ι' F' H' σ', ExtO σ ρ ι F H ι' F' H' → RSt T ι' F' H' st' → REnv T ι' F' H' σ' ρ' → OwnSt σ ρ H σ' ρ' → D.ct σ' H'
  | .ok (.ret d) st' => ∀ ι' F' H' v, ExtO σ ρ ι F H ι' F' H' → RSt T ι' F' H' st' → Rep T F' ι' v d → D.rt v H'
  | .exc c ρ' st' => ∀ ι' F' H' σ', ExtO σ ρ ι F H ι' F' H' → RSt T ι' F' H' st' → REnv T ι' F' H' σ' ρ' → OwnSt σ ρ H σ' ρ' → W (.ref (T.xc c)) none σ' H'
  | .stuck => False
def tS (T : Kt) (W : WX) (f : Slots → Store → RS) : TS := fun D σ H => ∃ ι F ρ st, RSt T ι F H st ∧ REnv T ι F H σ ρ ∧ PostS T W σ ρ ι F H (f ρ st) D
theorem OwnSt.refl {σ : St} {ρ : Slots} {H : Hp} : OwnSt σ ρ H σ ρ := fun _ h => .inl h
theorem OwnSt.trans {σ σ1 σ2 : St} {ρ ρ1 ρ2 : Slots} {X : Addr → Prop} {ι ι1 : List Addr} {F F1 H H1 : Hp} (e : Ext X ι F H ι1 F1 H1) (a : OwnSt σ ρ H σ1 ρ1) (b : OwnSt σ1 ρ1 H1 σ2 ρ2) : OwnSt σ ρ H σ2 ρ2 := fun c h => by
  rcases b c h with h | h
  · exact a c h
  · exact .inr (free_of e h)
/-- a later step -/
theorem PostS.step {σ σ1 : St} {ρ ρ1 : Slots} {ι ι1 : List Addr} {F F1 H H1 : Hp} {r : RS} {D : Ends} (e : ExtO σ ρ ι F H ι1 F1 H1) (o : OwnSt σ ρ H σ1 ρ1) (P : PostS T W σ ρ ι F H r D) : PostS T W σ1 ρ1 ι1 F1 H1 r D := by
  have tr : ∀ {ι' F' H'}, ExtO σ1 ρ1 ι1 F1 H1 ι' F' H' → ExtO σ ρ ι F H ι' F' H' := fun x => e.trans x o
  cases r with
  | stuck => exact P
  | exc c ρ' st' => exact fun ι' F' H' σ' x S E q => P ι' F' H' σ' (tr x) S E (o.trans e q)
  | ok f st' =>
    cases f with
    | next ρ' => exact fun ι' F' H' σ' x S E q => P ι' F' H' σ' (tr x) S E (o.trans e q)
    | brk ρ' => exact fun ι' F' H' σ' x S E q => P ι' F' H' σ' (tr x) S E (o.trans e q)
    | cont ρ' => exact fun ι' F' H' σ' x S E q => P ι' F' H' σ' (tr x) S E (o.trans e q)
    | ret d => exact fun ι' F' H' v x S r => P ι' F' H' v (tr x) S r
theorem Ext0.own {σ : St} {ρ : Slots} {ι ι' : List Addr} {F F' H H' : Hp} (e : Ext0 ι F H ι' F' H') : ExtO σ ρ ι F H ι' F' H' := e.weak fun _ z => z.elim
/-- an expression in a statement -/
theorem PostS.s {β α : Type} {rel : Rel β α} {σ : St} {ρ : Slots} {ι : List Addr} {F H : Hp} {x : R α} {g : α → Store → RS} {D : Ends} {Q : β → Hp → Prop} (E : REnv T ι F H σ ρ) (P : PostS T W σ ρ ι F H (x.s ρ g) D)
    (h : ∀ a st1 ι1 F1 H1 b, Ext0 ι F H ι1 F1 H1 → RSt T ι1 F1 H1 st1 → rel H ι1 F1 H1 b a → REnv T ι1 F1 H1 σ ρ → PostS T W σ ρ ι1 F1 H1 (g a st1) D → Q b H1) : Post T rel W σ ι F H x Q := by
  cases x with
  | ok a st => exact fun ι' F' H' b e S q => h a st ι' F' H' b e S q (E.ext e) (P.step (Ext0.own e) OwnSt.refl)
  | exc c st => exact fun ι' F' H' e S => P ι' F' H' σ (Ext0.own e) S (E.ext e) OwnSt.refl
  | stuck => exact P
theorem PostS.s0 {β α : Type} {rel : Rel β α} {σ : St} {ρ : Slots} {ι : List Addr} {F H : Hp} {x : R α} {g : α → Store → RS} {D : Ends} {Q : β → Hp → Prop} (E : REnv T ι F H σ ρ) (P : PostS T W σ ρ ι F H (x.s ρ g) D)
    (h : ∀ a st1 ι1 F1 H1 b, Ext0 ι F H ι1 F1 H1 → RSt T ι1 F1 H1 st1 → rel H ι1 F1 H1 b a → REnv T ι1 F1 H1 σ ρ → PostS T W σ ρ ι F H (g a st1) D → Q b H1) : Post T rel W σ ι F H x Q := by
  cases x with
  | ok a st => exact fun ι' F' H' b e S q => h a st ι' F' H' b e S q (E.ext e) P
  | exc c st => exact fun ι' F' H' e S => P ι' F' H' σ (Ext0.own e) S (E.ext e) OwnSt.refl
  | stuck => exact P
theorem PostS.bind {σ : St} {ρ : Slots} {ι : List Addr} {F H : Hp} {x : RS} {g : Slots → Store → RS} {D : Ends} (P : PostS T W σ ρ ι F H (x.bind g) D) : PostS T W σ ρ ι F H x { D with nx := tS T W g D } := by
  cases x with
  | stuck => exact P
  | exc c ρ' st' => exact P
  | ok f st' =>
    cases f with
    | next ρ' => exact fun ι' F' H' σ' x S E q => ⟨ι', F', ρ', st', S, E, P.step x q⟩
    | brk ρ' => exact P
    | cont ρ' => exact P
    | ret d => exact P
theorem PostS.weak {σ : St} {ρ : Slots} {ι : List Addr} {F H : Hp} {r : RS} {D D' : Ends} (P : PostS T W σ ρ ι F H r D) (h1 : ∀ σ H, D.nx σ H → D'.nx σ H) (h2 : ∀ v H, D.rt v H → D'.rt v H) (h3 : ∀ σ H, D.bk σ H → D'.bk σ H) (h4 : ∀ σ H, D.ct σ H → D'.ct σ H) : PostS T W σ ρ ι F H r D' := by
  cases r with
  | stuck => exact P
  | exc c ρ' st' => exact P
  | ok f st' =>
    cases f with
    | next ρ' => exact fun ι' F' H' σ' x S E q => h1 _ _ (P ι' F' H' σ' x S E q)
    | brk ρ' => exact fun ι' F' H' σ' x S E q => h3 _ _ (P ι' F' H' σ' x S E q)
    | cont ρ' => exact fun ι' F' H' σ' x S E q => h4 _ _ (P ι' F' H' σ' x S E q)
    | ret d => exact fun ι' F' H' v x S r => h2 _ _ (P ι' F' H' v x S r)
/-- a target behind an expression -/
theorem PostS.g {js : List Nat} {σ : St} {ρ : Slots} {ι : List Addr} {F H : Hp} {x : R Slots} {g : Slots → Store → RS} {D : Ends} (hne : ∀ c st, x ≠ .exc c st) (P : PostS T W σ ρ ι F H (x.s ρ g) D) : PostG T js σ ρ ι F H x (tS T W g D) := by
  cases x with
  | ok ρ' st => exact fun ι' F' H' σ' e S E o n => ⟨ι', F', ρ', st, S, E, P.step (Ext0.own e) fun a h => .inl (o a h)⟩
  | exc c st => exact absurd rfl (hne c st)
  | stuck => exact P

/-! ### the blocks -/
structure SX (X : Cx) (W : WX) (sc : Scope) : Prop where
  hp : PassesOwn (model X.prog X.w) X.A X.env X.xe
  tk : Takes X W
  sc : X.env.scope = sc
  kd : X.env.scope.kind = .function
  fn : ∀ x, X.fn x = true
theorem SX.ok {sc : Scope} (h : SX X W sc) : ScOk X sc := ScOk.of h.sc h.fn
theorem ss_nil : PSs X [] (tS T W (evSs Φ .nil)) := by
  refine PSs.imp pss_nil fun D σ H ⟨ι, F, ρ, st, S, E, P⟩ => ?_
  simp only [evSs] at P
  exact P ι F H σ Ext.refl S E OwnSt.refl
theorem ss_cons {s : Stmt} {r : List Stmt} {x : Sm} {xs : Ss} (h1 : PS X s (tS T W (evS Φ x))) (h2 : PSs X r (tS T W (evSs Φ xs))) : PSs X (s :: r) (tS T W (evSs Φ (.cons x xs))) := by
  refine PSs.imp (pss_cons h1 h2) fun D σ H ⟨ι, F, ρ, st, S, E, P⟩ => ?_
  simp only [evSs] at P
  exact ⟨ι, F, ρ, st, S, E, P.bind⟩
theorem getO_some {ρ : Slots} {i : Nat} {xs : List D} (h : getO ρ i = some xs) : ρ[i]? = some (.own xs) := by
  unfold getO at h
  split at h
  · rename_i ys hy
    cases h
    exact hy
  · cases h
/-- an owned list becomes a value -/
theorem ss_frz {r : List Stmt} {i : Nat} {xs : Ss} (h2 : PSs X r (tS T W (evSs Φ xs))) : PSs X r (tS T W (evSs Φ (.cons (.frz i) xs))) := by
  refine PSs.imp h2 fun D σ H ⟨ι, F, ρ, st, S, E, P⟩ => ?_
  simp only [evSs, evS] at P
  cases ho : getO ρ i with
  | none =>
    simp only [ho, RS.bind] at P
    exact ⟨ι, F, ρ, st, S, E, P⟩
  | some ys =>
    simp only [ho, RS.bind] at P
    have hi := getO_some ho
    obtain ⟨a, vs, e1, e2, r1, z, hf, hn⟩ := E.own i ys hi
    have ow : Own σ ρ a := ⟨i, ys, hi, e1⟩
    have x1 : ExtO σ ρ ι F H ι (upd F a (.lst vs)) H := Ext.freeze Ext.refl (.inr ow) hf
    have S1 := S.freeze e2 hn hf
    have hs : σ.set i (some (.ref a)) = σ := by
      refine List.ext_getElem? fun j => ?_
      by_cases hj : j = i
      · subst hj
        rw [List.getElem?_set_self (List.getElem?_eq_some_iff.mp e1).1, e1]
      · rw [get_set_ne' hj]
    have E1 : REnv T ι (upd F a (.lst vs)) H σ (ρ.set i (.val (.lst ys))) := by
      have Em : REnv T ι F H σ (ρ.set i .no) → REnv T ι (upd F a (.lst vs)) H σ (ρ.set i .no) := fun E' => ⟨E'.len, fun j d h => by
        obtain ⟨v, q1, q2⟩ := E'.val j d h
        exact ⟨v, q1, q2.mono (Same.upd hf) (List.prefix_refl _)⟩, fun j ds h => by
        obtain ⟨b, ws, q1, q2, q3, q4, q5, q6⟩ := E'.own j ds h
        have hb : b ≠ a := fun z => by
          subst z
          by_cases hj : j = i
          · subst hj
            cases get_set_eq' h
          · rw [get_set_ne' hj] at h
            exact hj (E.sep j i _ _ _ h hi q1 e1)
        exact ⟨b, ws, q1, q2, q3.mono (Same.upd hf) (List.prefix_refl _), q4, by rw [upd_ne hb]; exact q5, q6⟩, E'.sep⟩
      have E0 : REnv T ι F H σ (ρ.set i .no) := ⟨by rw [List.length_set]; exact E.len, fun j d h => by
        by_cases hj : j = i
        · subst hj
          cases get_set_eq' h
        · rw [get_set_ne' hj] at h
          exact E.val j d h, fun j ds h => by
        by_cases hj : j = i
        · subst hj
          cases get_set_eq' h
        · rw [get_set_ne' hj] at h
          exact E.own j ds h, fun j l ds es b h1 h2 h3 h4 => by
        have n : ∀ {j ds}, (ρ.set i Slot.no)[j]? = some (.own ds) → j ≠ i := fun {j ds} h z => by
          subst z
          cases get_set_eq' h
        have nj := n h1
        have nl := n h2
        rw [get_set_ne' nj] at h1
        rw [get_set_ne' nl] at h2
        exact E.sep j l ds es b h1 h2 h3 h4⟩
      have q := (Em E0).set i (v := .ref a) (d := .lst ys) (.lst upd_same (r1.mono (Same.upd hf) (List.prefix_refl _)) z)
      rw [hs, List.set_set] at q
      exact q
    refine ⟨ι, _, _, st, S1, E1, P.step x1 fun b ⟨j, ds, h1, h2⟩ => ?_⟩
    by_cases hj : j = i
    · subst hj
      cases get_set_eq' h1
    · rw [get_set_ne' hj] at h1
      exact .inl ⟨j, ds, h1, h2⟩

/-! ### small statements -/
section
variable {a b c : Expr} {pos p2 px py pt : Pos} {ea eb ec : Ex}
theorem sole_sb {e a i : Expr} {p : Pos} {l : Nat} {env : PySem.Env} : swapsWithSole [.Subscript a i p] e l env = pure false := by
  cases e <;> rfl
theorem sole_fl {e a : Expr} {f : Str} {p : Pos} {l : Nat} {env : PySem.Env} : swapsWithSole [.Attribute a f p] e l env = pure false := by
  cases e <;> rfl
theorem sole_tp {e : Expr} {ts : List Expr} {kk : Nat} {p : Pos} {l : Nat} {env : PySem.Env} : swapsWithSole [.Tuple ts kk p] e l env = pure false := by
  cases e <;> rfl
theorem noExc_ok {α : Type} (a : α) (st : Store) : noExc (R.ok a st) = R.ok a st := rfl
theorem asT_noexc : (∀ (tg : Tg) (x : D) (ρ : Slots) (st : Store) (c : Nat) (st' : Store), asT Φ tg x ρ st ≠ .exc c st') ∧ (∀ (ts : Ts) (xs : List D) (ρ : Slots) (st : Store) (c : Nat) (st' : Store), asTs Φ ts xs ρ st ≠ .exc c st') := by
  have key : ∀ n : Nat, (∀ (tg : Tg), sizeOf tg ≤ n → ∀ (x : D) (ρ : Slots) (st : Store) (c : Nat) (st' : Store), asT Φ tg x ρ st ≠ .exc c st') ∧ (∀ (ts : Ts), sizeOf ts ≤ n → ∀ (xs : List D) (ρ : Slots) (st : Store) (c : Nat) (st' : Store), asTs Φ ts xs ρ st ≠ .exc c st') := by
    intro n
    induction n with
    | zero =>
      constructor
      · intro tg hz; cases tg <;> simp at hz
      · intro ts hz; cases ts <;> simp at hz
    | succ n ih =>
      constructor
      · intro tg hz x ρ st c st' h
        cases tg with
        | nm i => simp only [asT] at h; cases h
        | tp ts =>
          simp only [Tg.tp.sizeOf_spec] at hz
          unfold asT at h
          split at h
          · exact ih.2 ts (by omega) _ _ _ _ _ h
          · cases h
        | fl o f =>
          simp only [asT] at h
          cases e : evE Φ o ρ st with
          | ok y st1 =>
            rw [e] at h
            simp only [noExc, R.bind] at h
            split at h
            · split at h
              · split at h <;> cases h
              · cases h
            · cases h
          | exc _ _ => rw [e] at h; cases h
          | stuck => rw [e] at h; cases h
        | sb o i =>
          simp only [asT] at h
          cases e : evE Φ o ρ st with
          | ok y st1 =>
            rw [e, noExc_ok, R.bind_ok] at h
            cases e2 : evE Φ i ρ st1 with
            | ok z st2 =>
              rw [e2, noExc_ok, R.bind_ok] at h
              split at h
              · split at h
                · split at h <;> cases h
                · split at h <;> cases h
                · cases h
              · cases h
            | exc _ _ => rw [e2] at h; cases h
            | stuck => rw [e2] at h; cases h
          | exc _ _ => rw [e] at h; cases h
          | stuck => rw [e] at h; cases h
      · intro ts hz xs ρ st c st' h
        cases ts with
        | nil => cases xs <;> simp only [asTs] at h <;> cases h
        | cons t ts =>
          simp only [Ts.cons.sizeOf_spec] at hz
          cases xs with
          | nil => simp only [asTs] at h; cases h
          | cons x xs =>
            simp only [asTs] at h
            cases e : asT Φ t x ρ st with
            | ok ρ1 st1 => rw [e] at h; exact ih.2 ts (by omega) _ _ _ _ _ h
            | exc _ _ => exact ih.1 t (by omega) _ _ _ _ _ e
            | stuck => rw [e] at h; cases h
  exact ⟨fun tg => (key _).1 tg (Nat.le_refl _), fun ts => (key _).2 ts (Nat.le_refl _)⟩
theorem asg_red {tg : Tg} {js : List Nat} {D : Ends} {σ : St} {H : Hp} (h : tS T W (evS Φ (.asg tg ea)) D σ H) : tAsg (tE T W (evE Φ ea)) (tA T js (asT Φ tg)) D σ H := by
  obtain ⟨ι, F, ρ, st, S, E, P⟩ := h
  simp only [evS] at P
  refine ⟨ι, F, ρ, st, S, E, P.s E fun x st1 ι1 F1 H1 v e1 S1 r1 E1 P1 => ?_⟩
  refine ⟨ι1, F1, ρ, st1, x, S1, E1, r1, ?_⟩
  have q := PostS.g (js := js) (fun c st' => asT_noexc.1 tg x ρ st1 c st') P1
  cases ev : asT Φ tg x ρ st1 with
  | ok ρ' st' =>
    rw [ev] at q
    intro ι' F' H' σ' e2 S2 E2 o2 n2
    obtain ⟨ι3, F3, ρ3, st3, S3, E3, P3⟩ := q ι' F' H' σ' e2 S2 E2 o2 n2
    exact P3 ι3 F3 H' σ' Ext.refl S3 E3 OwnSt.refl
  | exc _ _ => rw [ev] at q; exact q
  | stuck => rw [ev] at q; exact q
theorem s_asg {t : Expr} {tg : Tg} {js : List Nat} (h1 : PE X a (tE T W (evE Φ ea))) (h2 : PG X t (tA T js (asT Φ tg))) (hs : swapsWithSole [t] a pos.line X.env = pure false) (hw : swappedStores [t] a X.env = pure none) (hp : plain t = true) :
    PS X (.Assign [t] a pos) (tS T W (evS Φ (.asg tg ea))) := by
  refine PS.imp (ps_asg h1 h2 hs hw (by rw [assign_each hp]; rfl)) fun D σ H h => asg_red h
theorem s_set {i : Nat} {x : Str} (h : PEA X a (tE T W (evE Φ ea))) (hi : X.N[i]? = some x) (hk : X.env.scope.kind = .function) (hl : Loc X.env.scope x) (hf : X.fn x = true) (hs : X.env.scope.names.lookup x = some .local → swC a x px = true) (hN : X.N.Nodup) : PS X (.Assign [.Name x px] a pos) (tS T W (evS Φ (.asg (.nm i) ea))) := by
  refine PS.imp (h.st hi hk hl hf hs hN) fun D σ H q => ?_
  have z := asg_red (js := [i]) q
  obtain ⟨ι, F, ρ, st, S, E, P⟩ := z
  refine ⟨ι, F, ρ, st, S, E, ?_⟩
  cases ev : evE Φ ea ρ st with
  | stuck => rw [ev] at P; exact P
  | exc _ _ => rw [ev] at P; exact P
  | ok y st1 =>
    rw [ev] at P
    intro ι1 F1 H1 v e1 S1 r1
    obtain ⟨ι2, F2, ρ2, st2, d2, S2, E2, r2, P2⟩ := P ι1 F1 H1 v e1 S1 r1
    simp only [asT] at P2
    exact P2 ι2 F2 H1 _ Ext.refl S2 (E2.set i r2) (OwnLe.set i _ d2) ⟨fun j hj => get_set_ne' (fun z => hj (by simp [z])), List.length_set⟩
theorem REnv.setOwn {ι : List Addr} {F H : Hp} {σ : St} {ρ : Slots} (E : REnv T ι F H σ ρ) (i : Nat) {p : Addr} {vs : List V} {ds : List D} (e : H p = some (.lst vs)) (r : RepL T F ι vs ds) (z : ds.length ≤ sizeLine) (hf : F p = none) (hn : p ∉ ι) (hd : ∀ j es, j ≠ i → ρ[j]? = some (.own es) → σ[j]? ≠ some (some (.ref p))) :
    REnv T ι F H (σ.set i (some (.ref p))) (ρ.set i (.own ds)) where
  len := by simp [E.len]
  val := fun j e h => by
    by_cases hj : j = i
    · subst hj
      cases get_set_eq' h
    · rw [get_set_ne' hj] at h
      obtain ⟨w, e1, r1⟩ := E.val j e h
      exact ⟨w, by rw [get_set_ne' hj]; exact e1, r1⟩
  own := fun j es h => by
    by_cases hj : j = i
    · subst hj
      have q := get_set_eq' h
      cases q
      have hl : j < σ.length := by
        rw [E.len]
        have := (List.getElem?_eq_some_iff.mp h).1
        simpa using this
      exact ⟨p, vs, List.getElem?_set_self hl, e, r, z, hf, hn⟩
    · rw [get_set_ne' hj] at h
      obtain ⟨a, ws, e1, q⟩ := E.own j es h
      exact ⟨a, ws, by rw [get_set_ne' hj]; exact e1, q⟩
  sep := fun j l d1 d2 a h1 h2 h3 h4 => by
    by_cases hj : j = i
    · by_cases hl : l = i
      · rw [hj, hl]
      · subst hj
        rw [get_set_ne' hl] at h2 h4
        have q := get_set_eq' h3
        cases q
        exact absurd h4 (hd l _ hl h2)
    · by_cases hl : l = i
      · subst hl
        rw [get_set_ne' hj] at h1 h3
        have q := get_set_eq' h4
        cases q
        exact absurd h3 (hd j _ hj h1)
      · rw [get_set_ne' hj] at h1 h3
        rw [get_set_ne' hl] at h2 h4
        exact E.sep j l d1 d2 a h1 h2 h3 h4
theorem Own.set {σ : St} {ρ : Slots} {i : Nat} {v : Option V} {p : Addr} {ds : List D} (hv : v = some (.ref p)) : ∀ a, Own (σ.set i v) (ρ.set i (.own ds)) a → a = p ∨ Own σ ρ a := fun a ⟨j, es, h1, h2⟩ => by
  by_cases hj : j = i
  · subst hj
    have q := get_set_eq' h2
    rw [hv] at q
    cases q
    exact .inl rfl
  · rw [get_set_ne' hj] at h1 h2
    exact .inr ⟨j, es, h1, h2⟩
/-- a name takes a list that it owns -/
theorem s_own {i : Nat} {x : Str} {cr : Cr} (h : PEA X a (tCr T W (evC Φ cr))) (hi : X.N[i]? = some x) (hk : X.env.scope.kind = .function) (hl : Loc X.env.scope x) (hf : X.fn x = true) (hs : X.env.scope.names.lookup x = some .local → swC a x px = true) (hN : X.N.Nodup) : PS X (.Assign [.Name x px] a pos) (tS T W (evS Φ (.own i cr))) := by
  refine PS.imp (h.st hi hk hl hf hs hN) fun D σ H ⟨ι, F, ρ, st, S, E, P⟩ => ?_
  simp only [evS] at P
  refine ⟨ι, F, ρ, st, S, E, P.s0 E fun ds st1 ι1 F1 H1 v e1 S1 r1 E1 P1 => ?_⟩
  obtain ⟨p, vs, rfl, hp, h0, hf, hn, r, z⟩ := r1
  have hd : ∀ j es, j ≠ i → ρ[j]? = some (.own es) → σ[j]? ≠ some (some (.ref p)) := fun j es _ hj e => by
    obtain ⟨a, ws, e1', e2, _⟩ := E.own j es hj
    rw [e] at e1'
    cases e1'
    rw [h0] at e2
    cases e2
  refine P1 ι1 F1 H1 _ (Ext0.own e1) S1 (E1.setOwn i hp r z hf hn hd) fun a h => ?_
  rcases Own.set rfl a h with rfl | h
  · exact .inr h0
  · exact .inl h
theorem b_of (hx : ∀ x, X.fn x = true) : True := trivial
/-- the owned list at a slot -/
theorem own_at {ι : List Addr} {F H : Hp} {σ : St} {ρ : Slots} (E : REnv T ι F H σ ρ) {i : Nat} {xs : List D} (h : getO ρ i = some xs) : ∃ a vs, σ[i]? = some (some (.ref a)) ∧ H a = some (.lst vs) ∧ RepL T F ι vs xs ∧ xs.length ≤ sizeLine ∧ F a = none ∧ a ∉ ι ∧ Own σ ρ a := by
  obtain ⟨a, vs, e1, e2, r, z, f, n⟩ := E.own i xs (getO_some h)
  exact ⟨a, vs, e1, e2, r, z, f, n, i, xs, getO_some h, e1⟩
/-- the owned list at slot i is written -/
theorem own_write {ι : List Addr} {F H : Hp} {st : Store} {σ : St} {ρ : Slots} (S : RSt T ι F H st) (E : REnv T ι F H σ ρ) {i : Nat} {xs ys : List D} {a : Addr} {ws : List V} (h : getO ρ i = some xs) (e : σ[i]? = some (some (.ref a))) (r : RepL T F ι ws ys) (z : ys.length ≤ sizeLine) :
    ExtO σ ρ ι F H ι F (upd H a (.lst ws)) ∧ RSt T ι F (upd H a (.lst ws)) st ∧ REnv T ι F (upd H a (.lst ws)) σ (ρ.set i (.own ys)) ∧ OwnSt σ ρ H σ (ρ.set i (.own ys)) := by
  obtain ⟨a', vs, e1, e2, _, _, f, n, ow⟩ := own_at E h
  rw [e] at e1
  cases e1
  have hi := getO_some h
  have hs : σ.set i (some (.ref a)) = σ := by
    refine List.ext_getElem? fun j => ?_
    by_cases hj : j = i
    · subst hj
      rw [List.getElem?_set_self (List.getElem?_eq_some_iff.mp e).1, e]
    · rw [get_set_ne' hj]
  have x1 : ExtO σ ρ ι F H ι F (upd H a (.lst ws)) := Ext.other Ext.refl (.inr ow)
  refine ⟨x1, S.other n f, ?_, fun b ⟨j, ds, h1, h2⟩ => ?_⟩
  · have En : REnv T ι F (upd H a (.lst ws)) σ (ρ.set i .no) := ⟨by rw [List.length_set]; exact E.len, fun j d h => by
        by_cases hj : j = i
        · subst hj
          cases get_set_eq' h
        · rw [get_set_ne' hj] at h
          exact E.val j d h, fun j ds h => by
        by_cases hj : j = i
        · subst hj
          cases get_set_eq' h
        · rw [get_set_ne' hj] at h
          obtain ⟨b, us, q1, q2, q⟩ := E.own j ds h
          have hb : b ≠ a := fun z => by
            subst z
            exact hj (E.sep j i _ _ _ h hi q1 e)
          exact ⟨b, us, q1, by rw [upd_ne hb]; exact q2, q⟩, fun j l ds es b h1 h2 h3 h4 => by
        have n : ∀ {j ds}, (ρ.set i Slot.no)[j]? = some (.own ds) → j ≠ i := fun {j ds} h z => by
          subst z
          cases get_set_eq' h
        have nj := n h1
        have nl := n h2
        rw [get_set_ne' nj] at h1
        rw [get_set_ne' nl] at h2
        exact E.sep j l ds es b h1 h2 h3 h4⟩
    have q := En.setOwn i (p := a) (vs := ws) (ds := ys) upd_same r z f n (fun j es hj h h' => by
      rw [get_set_ne' hj] at h
      exact hj (E.sep j i _ _ _ h hi h' e))
    rw [hs, List.set_set] at q
    exact q
  · by_cases hj : j = i
    · subst hj
      exact .inl ⟨j, xs, hi, h2⟩
    · rw [get_set_ne' hj] at h1
      exact .inl ⟨j, ds, h1, h2⟩
theorem own_keep {ι ι1 : List Addr} {F F1 H H1 : Hp} (e : Ext0 ι F H ι1 F1 H1) {a : Addr} {vs : List V} (h : H a = some (.lst vs)) (n : a ∉ ι) : H1 a = some (.lst vs) := e.kp _ _ h n fun z => z
/-- x.append(e), x owning a list -/
theorem s_oapp {i : Nat} {x : Str} {apos : Pos} (hN : X.N[i]? = some x) (hv : Vis X.env.scope x) (hd : nodb x = true) (hy : plain b = true) (hl : (apos.endLine == pos.line) = true) (hb : PE X b (tE T W (evE Φ eb))) :
    PS X (.Expr (.Call (.Attribute (.Name x px) "append" apos) [b] [] pos) p2) (tS T W (evS Φ (.oapp i eb))) := by
  refine PS.imp (ps_expr (pe_bm PySem.F.plainAttrs_list PySem.F.slot_list_append PySem.F.type_list_append mt_append (pe_var hN hv (nodb_of hd).1 (nodb_of hd).2) (pa_cons hb pa_nil (star_cons hy)) (base_eq rfl) (few1 (o := b) hy) hl (star_cons hy) rfl) (swaps_eq rfl)) fun D σ H ⟨ι, F, ρ, st, S, E, P⟩ => ?_
  simp only [evS] at P
  cases ho : getO ρ i with
  | none => simp only [ho] at P; exact P.elim
  | some xs =>
    simp only [ho] at P
    obtain ⟨p, vs, e1, e2, r, z, f, n, ow⟩ := own_at E ho
    refine ⟨.ref p, e1, .inl ⟨rfl, _, SqL.of e2⟩, ι, F, ρ, st, S, E, P.s E fun y st1 ι1 F1 H1 v x1 S1 r1 E1 P1 => ?_⟩
    by_cases hz : xs.length < sizeLine
    · simp only [hz, if_true] at P1
      refine ⟨p, vs, v, rfl, rfl, own_keep x1 e2 n, by rw [r.length]; exact hz, ?_⟩
      obtain ⟨q1, q2, q3, q4⟩ := own_write S1 E1 (ys := xs ++ [y]) ho e1 ((r.ext x1).append (.cons r1 .nil)) (by rw [List.length_append]; exact hz)
      exact P1 _ _ _ _ q1 q2 q3 q4
    · simp only [hz, if_false] at P1
      exact P1.elim
theorem s_oext {i : Nat} {x : Str} {apos : Pos} (hN : X.N[i]? = some x) (hv : Vis X.env.scope x) (hd : nodb x = true) (hy : plain b = true) (hl : (apos.endLine == pos.line) = true) (hb : PE X b (tE T W (evE Φ eb))) :
    PS X (.Expr (.Call (.Attribute (.Name x px) "extend" apos) [b] [] pos) p2) (tS T W (evS Φ (.oext i eb))) := by
  refine PS.imp (ps_expr (pe_bm PySem.F.plainAttrs_list PySem.F.slot_list_extend PySem.F.type_list_extend mt_extend (pe_var hN hv (nodb_of hd).1 (nodb_of hd).2) (pa_cons hb pa_nil (star_cons hy)) (base_eq rfl) (few1 (o := b) hy) hl (star_cons hy) rfl) (swaps_eq rfl)) fun D σ H ⟨ι, F, ρ, st, S, E, P⟩ => ?_
  simp only [evS] at P
  cases ho : getO ρ i with
  | none => simp only [ho] at P; exact P.elim
  | some xs =>
    simp only [ho] at P
    obtain ⟨p, vs, e1, e2, r, z, f, n, ow⟩ := own_at E ho
    refine ⟨.ref p, e1, .inl ⟨rfl, _, SqL.of e2⟩, ι, F, ρ, st, S, E, P.s E fun y st1 ι1 F1 H1 v x1 S1 r1 E1 P1 => ?_⟩
    cases y <;> first | exact P1.elim | skip
    rename_i ys
    by_cases hz : xs.length + ys.length ≤ sizeLine
    · simp only [hz, if_true] at P1
      cases r1 with
      | lst h2 r2 z2 =>
        refine ⟨p, _, vs, _, rfl, rfl, own_keep x1 e2 n, S1.same _ _ h2, by rw [r.length, r2.length]; exact hz, ?_⟩
        obtain ⟨q1, q2, q3, q4⟩ := own_write S1 E1 (ys := xs ++ ys) ho e1 ((r.ext x1).append r2) (by rw [List.length_append]; exact hz)
        exact P1 _ _ _ _ q1 q2 q3 q4
    · simp only [hz, if_false] at P1
      exact P1.elim
theorem s_oset {i : Nat} {x : Str} (G : Facts T tb Φ X k) (hN : X.N[i]? = some x) (hv : Vis X.env.scope x) (hd : nodb x = true) (hp : plain b = true) (ha : PE X a (tE T W (evE Φ ea))) (hb : PE X b (tE T W0 (evE Φ eb))) :
    PS X (.Assign [.Subscript (.Name x px) b p2] a pos) (tS T W (evS Φ (.oset i eb ea))) := by
  refine PS.imp (ps_asg ha (pg_sub (pe_var hN hv (nodb_of hd).1 (nodb_of hd).2) hb set_list (sub_eq hp)) sole_sb (by cases a <;> rfl) rfl) fun D σ H ⟨ι, F, ρ, st, S, E, P⟩ => ?_
  simp only [evS] at P
  cases ho : getO ρ i with
  | none => simp only [ho] at P; exact P.elim
  | some xs =>
    simp only [ho] at P
    obtain ⟨p, vs, e1, e2, r, z, f, n, ow⟩ := own_at E ho
    refine ⟨ι, F, ρ, st, S, E, P.s E fun y st1 ι1 F1 H1 v x1 S1 r1 E1 P1 => ?_⟩
    refine ⟨.ref p, e1, ι1, F1, ρ, st1, S1, E1, ?_⟩
    cases ev : evE Φ eb ρ st1 with
    | stuck => rw [ev] at P1; exact P1
    | exc _ _ => rw [ev] at P1; exact P1.elim
    | ok kk st2 =>
      rw [ev] at P1
      intro ι2 F2 H2 w x2 S2 r2
      replace P1 := P1.step (Ext0.own x2) OwnSt.refl
      have E2 := E1.ext x2
      simp only [noExc, R.s] at P1
      cases kk <;> first | exact P1.elim | skip
      rename_i j
      cases r2
      cases hj : L2.ixN xs.length j with
      | none => simp only [hj] at P1; exact P1.elim
      | some m =>
        simp only [hj] at P1
        refine ⟨p, vs, j, m, rfl, rfl, own_keep (x1.trans0 x2) e2 n, by rw [r.length]; exact hj, ?_⟩
        obtain ⟨q1, q2, q3, q4⟩ := own_write S2 E2 (ys := xs.set m y) ho e1 (RepL.set (r1.ext x2) m ((r.ext x1).ext x2)) (by rw [List.length_set]; exact z)
        exact P1 _ _ _ _ q1 q2 q3 q4
theorem s_expr (hn : noComp a = true) (h : PE X a (tE T W (evE Φ ea))) : PS X (.Expr a pos) (tS T W (evS Φ (.expr ea))) := by
  refine PS.imp (ps_expr h (swaps_eq hn)) fun D σ H ⟨ι, F, ρ, st, S, E, P⟩ => ?_
  simp only [evS] at P
  exact ⟨ι, F, ρ, st, S, E, P.s E fun x st1 ι1 F1 H1 v e1 S1 r1 E1 P1 => P1 _ _ _ _ Ext.refl S1 E1 OwnSt.refl⟩
theorem s_ret (h : PE X a (tE T W (evE Φ ea))) : PS X (.Return (some a) pos) (tS T W (evS Φ (.ret ea))) := by
  refine PS.imp (ps_ret h) fun D σ H ⟨ι, F, ρ, st, S, E, P⟩ => ?_
  simp only [evS] at P
  exact ⟨ι, F, ρ, st, S, E, P.s E fun x st1 ι1 F1 H1 v e1 S1 r1 E1 P1 => P1 _ _ _ _ Ext.refl S1 r1⟩
theorem s_retN : PS X (.Return none pos) (tS T W (evS Φ .retN)) := by
  refine PS.imp ps_retN fun D σ H ⟨ι, F, ρ, st, S, E, P⟩ => ?_
  simp only [evS] at P
  exact P _ _ _ _ Ext.refl S .non
theorem s_cont : PS X (.Continue pos) (tS T W (evS Φ .cont)) := by
  refine PS.imp ps_continue fun D σ H ⟨ι, F, ρ, st, S, E, P⟩ => ?_
  simp only [evS] at P
  exact P _ _ _ _ Ext.refl S E OwnSt.refl
theorem s_brk : PS X (.Break pos) (tS T W (evS Φ .brk)) := by
  refine PS.imp ps_break fun D σ H ⟨ι, F, ρ, st, S, E, P⟩ => ?_
  simp only [evS] at P
  exact P _ _ _ _ Ext.refl S E OwnSt.refl
theorem s_ife {x y : List Stmt} {xs ys : Ss} (hc : PT X c (tK T W (evT Φ ec))) (h1 : PSs X x (tS T W (evSs Φ xs))) (h2 : PSs X y (tS T W (evSs Φ ys))) : PS X (.If c x y pos) (tS T W (evS Φ (.ife ec xs ys))) := by
  refine PS.imp (ps_if hc h1 h2) fun D σ H ⟨ι, F, ρ, st, S, E, P⟩ => ?_
  simp only [evS] at P
  refine ⟨ι, F, ρ, st, S, E, P.s E fun kk st1 ι1 F1 H1 v e1 S1 r1 E1 P1 => ?_⟩
  obtain rfl : v = kk := r1
  cases v with
  | true => exact ⟨ι1, F1, ρ, st1, S1, E1, P1⟩
  | false => exact ⟨ι1, F1, ρ, st1, S1, E1, P1⟩
/-- x, y = a, b -/
theorem s_par2 {i j : Nat} {x y : Str} {kt k2 : Nat} {pt2 : Pos} (G : Facts T tb Φ X k) (hi : X.N[i]? = some x) (hj : X.N[j]? = some y) (hij : i ≠ j) (hx : X.env.scope.names.lookup x = some .local) (hy : X.env.scope.names.lookup y = some .local) (hpa : plain a = true) (hpb : plain b = true)
    (ha : PE X a (tE T W (evE Φ ea))) (hb : PE X b (tE T W (evE Φ eb))) (hw : swappedStores [.Tuple [.Name x px, .Name y py] kt pt] (.Tuple [a, b] k2 pt2) X.env = pure (some [x, y])) :
    PS X (.Assign [.Tuple [.Name x px, .Name y py] kt pt] (.Tuple [a, b] k2 pt2) pos) (tS T W (evS Φ (.par2 i j ea eb))) := by
  refine PS.imp (ps_par G.calm G.nd hi hj hij hx hy (pa_cons ha (pa_cons hb pa_nil (star_cons hpb)) (star_cons hpa)) hw sole_tp) fun D σ H ⟨ι, F, ρ, st, S, E, P⟩ => ?_
  simp only [evS] at P
  refine ⟨ι, F, ρ, st, S, E, P.s E fun d st1 ι1 F1 H1 v e1 S1 r1 E1 P1 => ?_⟩
  refine ⟨ι1, F1, ρ, st1, S1, E1, P1.s E1 fun e st2 ι2 F2 H2 w e2 S2 r2 E2 P2 => ?_⟩
  refine ⟨v, w, rfl, P2 _ _ _ _ Ext.refl S2 ((E2.set i (r1.ext e2)).set j r2) fun a h => ?_⟩
  exact .inl (OwnLe.set i (some v) d a (OwnLe.set j (some w) e a h))
theorem s_par3 {i j l : Nat} {x y z : Str} {kt k2 : Nat} {pz pt2 : Pos} (G : Facts T tb Φ X k) (hi : X.N[i]? = some x) (hj : X.N[j]? = some y) (hl : X.N[l]? = some z) (hij : i ≠ j) (hil : i ≠ l) (hjl : j ≠ l) (hx : X.env.scope.names.lookup x = some .local) (hy : X.env.scope.names.lookup y = some .local) (hz : X.env.scope.names.lookup z = some .local) (hpa : plain a = true) (hpb : plain b = true) (hpc : plain c = true)
    (ha : PE X a (tE T W (evE Φ ea))) (hb : PE X b (tE T W (evE Φ eb))) (hc : PE X c (tE T W (evE Φ ec))) (hw : swappedStores [.Tuple [.Name x px, .Name y py, .Name z pz] kt pt] (.Tuple [a, b, c] k2 pt2) X.env = pure (some [x, y, z])) :
    PS X (.Assign [.Tuple [.Name x px, .Name y py, .Name z pz] kt pt] (.Tuple [a, b, c] k2 pt2) pos) (tS T W (evS Φ (.par3 i j l ea eb ec))) := by
  refine PS.imp (ps_par3 G.calm G.nd hi hj hl hij hil hjl hx hy hz (pa_cons ha (pa_cons hb (pa_cons hc pa_nil (star_cons hpc)) (star_cons hpb)) (star_cons hpa)) hw sole_tp) fun D σ H ⟨ι, F, ρ, st, S, E, P⟩ => ?_
  simp only [evS] at P
  refine ⟨ι, F, ρ, st, S, E, P.s E fun d st1 ι1 F1 H1 v e1 S1 r1 E1 P1 => ?_⟩
  refine ⟨ι1, F1, ρ, st1, S1, E1, P1.s E1 fun e st2 ι2 F2 H2 w e2 S2 r2 E2 P2 => ?_⟩
  refine ⟨ι2, F2, ρ, st2, S2, E2, P2.s E2 fun g st3 ι3 F3 H3 u e3 S3 r3 E3 P3 => ?_⟩
  refine ⟨v, w, u, rfl, P3 _ _ _ _ Ext.refl S3 (((E3.set i (r1.ext (e2.trans0 e3))).set j (r2.ext e3)).set l r3) fun a h => ?_⟩
  exact .inl (OwnLe.set i (some v) d a (OwnLe.set j (some w) e a (OwnLe.set l (some u) g a h)))
end
end B

set_option Elab.async false
set_option linter.all false
set_option maxRecDepth 100000
set_option maxHeartbeats 4000000
namespace B
set_option autoImplicit false
open PySem PySem.Spec L2
open PyProof.Rows hiding St
variable {T : Kt} {X : Cx} {W : WX} {Φ : Phi} {tb : Tab} {k : Nat}
section
variable {a b c : Expr} {pos p2 px py pt : Pos} {ea eb ec : Ex}
/-! ### loops -/
/-- one turn's end -/
def turnS (f : Slots → Store → RS) (g : Slots → Store → RS) (ρ : Slots) (st : Store) : RS :=
  match f ρ st with
  | .ok (.next ρ) st => g ρ st
  | .ok (.cont ρ) st => g ρ st
  | .ok (.brk ρ) st => .ok (.next ρ) st
  | r => r
/-- what is left to do, beside what was known -/
def tSk (T : Kt) (W : WX) (ι0 : List Addr) (F0 : Hp) (f : Slots → Store → RS) : TS := fun D σ H => ∃ ι F st ρ, Same F0 F ∧ ι0 <+: ι ∧ RSt T ι F H st ∧ REnv T ι F H σ ρ ∧ PostS T W σ ρ ι F H (f ρ st) D
theorem PostS.turn {σ : St} {ρ : Slots} {ι ι0 : List Addr} {F F0 H : Hp} {f g : Slots → Store → RS} {st : Store} {D : Ends} (h1 : Same F0 F) (h2 : ι0 <+: ι) (P : PostS T W σ ρ ι F H (turnS f g ρ st) D) :
    PostS T W σ ρ ι F H (f ρ st) { D with nx := tSk T W ι0 F0 g D, ct := tSk T W ι0 F0 g D, bk := D.nx } := by
  unfold turnS at P
  cases e : f ρ st with
  | stuck => rw [e] at P; exact P
  | exc c ρ' st' => rw [e] at P; exact P
  | ok fl st' =>
    rw [e] at P
    cases fl with
    | next ρ' => exact fun ι' F' H' σ' x S E q => ⟨ι', F', st', ρ', h1.trans x.fr, h2.trans x.io, S, E, P.step x q⟩
    | cont ρ' => exact fun ι' F' H' σ' x S E q => ⟨ι', F', st', ρ', h1.trans x.fr, h2.trans x.io, S, E, P.step x q⟩
    | brk ρ' => exact P
    | ret d => exact P
theorem forL_cons {f : D → Slots → Store → RS} {ok : Store → Bool} {x : D} {xs : List D} {ρ : Slots} {st : Store} : forL f ok (x :: xs) ρ st = if ok st then turnS (f x) (forL f ok xs) ρ st else .stuck := by
  rw [forL]
  unfold turnS
  cases f x ρ st with
  | ok fl st' => cases fl <;> rfl
  | exc _ _ _ => rfl
  | stuck => rfl
theorem whileL_succ {c : Slots → Store → R Bool} {f : Slots → Store → RS} {n : Nat} {ρ : Slots} {st : Store} : whileL c f (n + 1) ρ st = (c ρ st).s ρ fun k st => if k then turnS f (whileL c f n) ρ st else .ok (.next ρ) st := by
  rw [whileL]
  congr 1
theorem s_for {t i : Expr} {tg : Tg} {it : Wk} {body : List Stmt} {xs : Ss} {sc : Scope} (SS : SX X W sc) (G : Facts T tb Φ X k) (hp : plain i = true)
    (hi : PI X t i (tIt T W (evI Φ it))) (hg : PG X t (tA T tg.slots (asT Φ tg))) (hb : PSs X body (tS T W (evSs Φ xs))) : PS X (.For t i body [] pos) (tS T W (evS Φ (.for tg it xs))) := by
  refine PS.imp (ps_for SS.hp G.calm hi hg hb (fold_eq hp)) fun D σ H ⟨ι, F, ρ, st, S, E, P⟩ => ?_
  simp only [evS] at P
  refine ⟨ι, F, ρ, st, S, E, P.s E fun p st1 ι1 F1 H1 J e1 S1 hJ E1 P1 => ?_⟩
  obtain ⟨steps, hz⟩ := hJ
  generalize hf : (fun x ρ st => (asT Φ tg x ρ st).s ρ fun ρ st => evSs Φ xs ρ st) = f at P1
  refine ⟨fun i m σ' H' => m = p.1.length - i ∧ i ≤ p.1.length ∧ tSk T W ι1 F1 (forL f p.2 (p.1.drop i)) D σ' H', ⟨p.1.length, by simp, Nat.zero_le _, ι1, F1, st1, ρ, fun _ _ h => h, List.prefix_refl _, S1, E1, by rw [List.drop_zero]; exact P1⟩, ?_⟩
  rintro i m σ' H' ⟨rfl, hi, ι', F', st', ρ', hF, hι, S2, E2, P2⟩
  by_cases hlt : i < p.1.length
  · rw [List.drop_eq_getElem_cons hlt, forL_cons] at P2
    cases hok : p.2 st' with
    | false => rw [hok] at P2; exact P2.elim
    | true =>
      rw [hok, if_pos rfl] at P2
      obtain ⟨st1', _⟩ := steps i ι' F' H' st' hF hι S2 hok
      obtain ⟨hgo, hy⟩ := st1' p.1[i] (List.getElem?_eq_getElem hlt)
      refine .inr ⟨hgo, tSk T W ι1 F1 (forL f p.2 (p.1.drop (i + 1))) D, fun σ'' H'' hN => ⟨p.1.length - (i + 1), by omega, rfl, hlt, hN⟩, fun x H'' hyld => ?_⟩
      obtain ⟨F3, e3, S3, rx⟩ := hy x H'' hyld
      have E3 := E2.ext e3
      have P3 := PostS.turn (hF.trans e3.fr) (hι.trans e3.io) (P2.step (Ext0.own e3) OwnSt.refl)
      have hfx : f p.1[i] ρ' st' = (asT Φ tg p.1[i] ρ' st').s ρ' fun ρ st => evSs Φ xs ρ st := by rw [← hf]
      rw [hfx] at P3
      refine ⟨ι', F3, ρ', st', p.1[i], S3, E3, rx, ?_⟩
      cases ev : asT Φ tg p.1[i] ρ' st' with
      | stuck => rw [ev] at P3; exact P3
      | exc c st9 => exact absurd ev (asT_noexc.1 _ _ _ _ _ _)
      | ok ρ4 st4 =>
        rw [ev] at P3
        intro ι4 F4 H4 σ4 e4 S4 E4 o4 n4
        have x4 : ExtO σ' ρ' ι' F3 H'' ι4 F4 H4 := Ext0.own e4
        have o4' : OwnSt σ' ρ' H'' σ4 ρ4 := fun a h => .inl (o4 a h)
        exact ⟨ι4, F4, ρ4, st4, S4, E4, PostS.step x4 o4' P3⟩
  · have hil : i = p.1.length := by omega
    subst hil
    rw [List.drop_length] at P2
    unfold forL at P2
    cases hok : p.2 st' with
    | false => rw [hok] at P2; exact P2.elim
    | true =>
      rw [hok, if_pos rfl] at P2
      obtain ⟨_, hst⟩ := steps p.1.length ι' F' H' st' hF hι S2 hok
      exact .inl ⟨hst (Nat.le_refl _), P2 ι' F' H' σ' Ext.refl S2 E2 OwnSt.refl⟩
theorem s_while {n : Nat} {body : List Stmt} {xs : Ss} {sc : Scope} (SS : SX X W sc) (hc : PT X c (tK T W (evT Φ ec))) (hb : PSs X body (tS T W (evSs Φ xs))) : PS X (.While c body [] pos) (tS T W (evS Φ (.whil n ec xs))) := by
  refine PS.imp (ps_while SS.hp hc hb) fun D σ H ⟨ι, F, ρ, st, S, E, P⟩ => ?_
  simp only [evS] at P
  refine ⟨fun m σ' H' => tSk T W ι F (whileL (fun ρ st => evT Φ ec ρ st) (fun ρ st => evSs Φ xs ρ st) m) D σ' H', ⟨n, ι, F, st, ρ, fun _ _ h => h, List.prefix_refl _, S, E, P⟩, ?_⟩
  rintro m σ' H' ⟨ι', F', st', ρ', hF, hι, S2, E2, P2⟩
  cases m with
  | zero =>
    rw [whileL] at P2
    exact P2.elim
  | succ m =>
    rw [whileL_succ] at P2
    refine ⟨ι', F', ρ', st', S2, E2, P2.s E2 fun kk st3 ι3 F3 H3 v e3 S3 r3 E3 P3 => ?_⟩
    obtain rfl : v = kk := r3
    cases v with
    | false => exact P3 ι3 F3 H3 σ' Ext.refl S3 E3 OwnSt.refl
    | true =>
      rw [if_pos rfl] at P3 ⊢
      refine ⟨tSk T W ι F (whileL (fun ρ st => evT Φ ec ρ st) (fun ρ st => evSs Φ xs ρ st) m) D, fun σ'' H'' h => ⟨m, Nat.lt_succ_self _, h⟩, ι3, F3, ρ', st3, S3, E3, ?_⟩
      exact PostS.turn (hF.trans e3.fr) (hι.trans e3.io) P3
theorem s_raise {c : Nat} {x m : Str} {j : Nat} {p p3 : Pos} {sc : Scope} (SS : SX X W sc) (G : Facts T tb Φ X k) (hm : (c, x) ∈ tb.exs) (hg : Gl X x) (hd : nodb x = true) : PS X (.Raise (some (.Call (.Name x p) [.Constant (.str m) j p2] [] p3)) none pos) (tS T W (evS Φ (.raise c m))) := by
  obtain ⟨bmB, B, newId, initId, h1, h2, h3, h4, h5⟩ := G.exs c x hm
  refine PS.imp (ps_raise G.calm SS.tk (pmk_own h1 h2 h3 h4 h5 hg (nodb_of hd).1)) fun D σ H ⟨ι, F, ρ, st, S, E, P⟩ => ?_
  simp only [evS] at P
  exact P ι F H σ Ext.refl S E OwnSt.refl
end
/-! ### stores that are not swapped -/
def locB1 (sc : Scope) (x : Str) : Bool := decide (sc.names.lookup x = some .local)
def isName (sc : Scope) : Expr → Bool
  | .Name x _ => locB1 sc x
  | _ => false
def swN (sc : Scope) : Expr → Expr → Bool
  | .Tuple ts _ _, .Tuple vs _ _ => !(ts.length == 2 || ts.length == 3) || vs.all (foldedForSure 8) || ts.any (fun t => !isName sc t)
  | .List _ _, _ => false
  | _, _ => true
theorem names_short {sc : Scope} {ts : List Expr} {g : Expr → Option Str} (hg : ∀ t, isName sc t = false → g t = none) (h : ts.any (fun t => !isName sc t) = true) : (ts.filterMap g).length ≠ ts.length := by
  have le : ∀ l : List Expr, (l.filterMap g).length ≤ l.length := fun l => List.length_filterMap_le g l
  have lt : ∀ l : List Expr, l.any (fun t => !isName sc t) = true → (l.filterMap g).length < l.length := by
    intro l
    induction l with
    | nil => intro h; cases h
    | cons t l ih =>
      intro h
      rw [List.any_cons, Bool.or_eq_true] at h
      rcases h with h | h
      · have e : isName sc t = false := by simpa using h
        rw [List.filterMap_cons, hg t e]
        have := le l
        simp only [List.length_cons]
        omega
      · rw [List.filterMap_cons]
        have := ih h
        cases g t with
        | none => simp only [List.length_cons]; omega
        | some _ => simp only [List.length_cons]; omega
  exact Nat.ne_of_lt (lt ts h)
theorem sw_none {sc : Scope} {t a : Expr} {env : PySem.Env} (hsc : env.scope = sc) (h : swN sc t a = true) : swappedStores [t] a env = pure none := by
  cases t <;> cases a <;> first
    | rfl
    | (cases h; done)
    | skip
  rename_i ts k1 p1 vs k2 p2
  simp only [swN, Bool.or_eq_true] at h
  unfold swappedStores
  dsimp only
  by_cases h1 : (!(ts.length == 2 || ts.length == 3) || vs.length != ts.length || env.blockKind != .function) = true
  · rw [if_pos h1]
  · rw [if_neg h1]
    split
    · rfl
    · split
      · rfl
      · rename_i h2 h3
        rcases h with (h | h) | h
        · exact absurd (by rw [h]; rfl) h1
        · rw [if_pos h]
        · refine absurd ?_ h3
          rw [Bool.or_eq_true]
          refine .inl (bne_iff_ne.mpr (names_short (sc := sc) (fun t ht => ?_) h))
          cases t <;> first
            | rfl
            | skip
          rename_i x p
          have hx : ¬ env.kindOf x = some .local := fun z => by
            have z' : sc.names.lookup x = some .local := by rw [← hsc]; exact z
            have q : locB1 sc x = true := decide_eq_true z'
            have ht' : locB1 sc x = false := ht
            rw [q] at ht'
            cases ht'
          have e : (env.kindOf x == some NameKind.local) = false := by simpa using hx
          simp only [e, Bool.false_and]
          rfl
theorem sw_some2 {x y : Str} {px py pt pt2 : Pos} {kt k2 : Nat} {a b : Expr} {env : PySem.Env} (hk : env.scope.kind = .function) (hx : env.scope.names.lookup x = some .local) (hy : env.scope.names.lookup y = some .local) (hl : (py.line == px.line) = true) (hxy : x ≠ y) (ha : plain a = true) (hb : plain b = true)
    (hf : [a, b].all (foldedForSure 8) = false) (hc : [a, b].all (constantsAlone 8) = false) : swappedStores [.Tuple [.Name x px, .Name y py] kt pt] (.Tuple [a, b] k2 pt2) env = pure (some [x, y]) := by
  have kb : env.blockKind = .function := by unfold Env.blockKind; rw [hk]; rfl
  have kx : env.kindOf x = some .local := hx
  have ky : env.kindOf y = some .local := hy
  have hl' : py.line = px.line := by simpa using hl
  have e : (y == x) = false := by simpa using fun z : y = x => hxy z.symm
  unfold swappedStores
  dsimp only
  split
  · rename_i h
    rw [kb] at h
    simp at h
  · split
    · rename_i h
      exfalso
      simp only [List.any_cons, List.any_nil, Bool.or_false, Bool.or_eq_true] at h
      rcases h with h | h
      · split at h
        · cases ha
        · cases h
      · split at h
        · cases hb
        · cases h
    · split
      · rename_i h
        exfalso
        simp [List.filterMap_cons, kx, ky, Expr.pos, hl', List.eraseDups_cons, e] at h
      · rw [hf, hc]
        simp [List.filterMap_cons, kx, ky, Expr.pos, hl']
theorem sw_some3 {x y z : Str} {px py pz pt pt2 : Pos} {kt k2 : Nat} {a b c : Expr} {env : PySem.Env} (hk : env.scope.kind = .function) (hx : env.scope.names.lookup x = some .local) (hy : env.scope.names.lookup y = some .local) (hz : env.scope.names.lookup z = some .local) (hl : (py.line == px.line) = true) (hl2 : (pz.line == px.line) = true) (hxy : x ≠ y) (hxz : x ≠ z) (hyz : y ≠ z) (ha : plain a = true) (hb : plain b = true) (hcc : plain c = true)
    (hf : [a, b, c].all (foldedForSure 8) = false) (hc : [a, b, c].all (constantsAlone 8) = false) : swappedStores [.Tuple [.Name x px, .Name y py, .Name z pz] kt pt] (.Tuple [a, b, c] k2 pt2) env = pure (some [x, y, z]) := by
  have kb : env.blockKind = .function := by unfold Env.blockKind; rw [hk]; rfl
  have kx : env.kindOf x = some .local := hx
  have ky : env.kindOf y = some .local := hy
  have kz : env.kindOf z = some .local := hz
  have hl' : py.line = px.line := by simpa using hl
  have hl2' : pz.line = px.line := by simpa using hl2
  have e : (y == x) = false := by simpa using fun q : y = x => hxy q.symm
  have e' : (z == x) = false := by simpa using fun q : z = x => hxz q.symm
  have e'' : (z == y) = false := by simpa using fun q : z = y => hyz q.symm
  unfold swappedStores
  dsimp only
  split
  · rename_i h
    rw [kb] at h
    simp at h
  · split
    · rename_i h
      exfalso
      simp only [List.any_cons, List.any_nil, Bool.or_false, Bool.or_eq_true] at h
      rcases h with h | h | h
      · split at h
        · cases ha
        · cases h
      · split at h
        · cases hb
        · cases h
      · split at h
        · cases hcc
        · cases h
    · split
      · rename_i h
        exfalso
        simp [List.filterMap_cons, kx, ky, kz, Expr.pos, hl', hl2', List.eraseDups_cons, e, e', e''] at h
      · rw [hf, hc]
        simp [List.filterMap_cons, kx, ky, kz, Expr.pos, hl', hl2']
end B

set_option Elab.async false
set_option linter.all false
set_option maxRecDepth 100000
set_option maxHeartbeats 4000000
namespace B
set_option autoImplicit false
open PySem PySem.Spec L2
open PyProof.Rows hiding St
variable {T : Kt} {X : Cx} {W : WX} {Φ : Phi} {tb : Tab} {k : Nat}
mutual
def chkS (tb : Tab) (N : List Str) : Sm → Scope → Stmt → Bool
  | .asg (.nm i) e, sc, .Assign [.Name x px] a _ => decide (N[i]? = some x) && locB sc x && (!locB1 sc x || swC a x px) && chkE tb N 200 e sc a
  | .asg tg e, sc, .Assign [.Tuple ts kk tp] a _ => swN sc (.Tuple ts kk tp) a && chkE tb N 200 e sc a && chkG tb N 200 tg sc (.Tuple ts kk tp)
  | .asg tg e, sc, .Assign [.Attribute o f p] a _ => chkE tb N 200 e sc a && chkG tb N 200 tg sc (.Attribute o f p)
  | .asg tg e, sc, .Assign [.Subscript o i p] a _ => chkE tb N 200 e sc a && chkG tb N 200 tg sc (.Subscript o i p)
  | .par2 i j e f, sc, .Assign [.Tuple [.Name x px, .Name y py] _ _] (.Tuple [a, b] _ _) _ =>
    decide (N[i]? = some x) && decide (N[j]? = some y) && decide (i ≠ j) && locB1 sc x && locB1 sc y && plain a && plain b && (py.line == px.line) && decide (x ≠ y) && !([a, b].all (foldedForSure 8)) && !([a, b].all (constantsAlone 8)) && chkE tb N 200 e sc a && chkE tb N 200 f sc b
  | .par3 i j l e f g, sc, .Assign [.Tuple [.Name x px, .Name y py, .Name z pz] _ _] (.Tuple [a, b, c] _ _) _ =>
    decide (N[i]? = some x) && decide (N[j]? = some y) && decide (N[l]? = some z) && decide (i ≠ j) && decide (i ≠ l) && decide (j ≠ l) && locB1 sc x && locB1 sc y && locB1 sc z && plain a && plain b && plain c && (py.line == px.line) && (pz.line == px.line) && decide (x ≠ y) && decide (x ≠ z) && decide (y ≠ z) && !([a, b, c].all (foldedForSure 8)) && !([a, b, c].all (constantsAlone 8)) && chkE tb N 200 e sc a && chkE tb N 200 f sc b && chkE tb N 200 g sc c
  | .own i cr, sc, .Assign [.Name x px] a _ => decide (N[i]? = some x) && locB sc x && (!locB1 sc x || swC a x px) && chkC tb N 200 cr sc a
  | .oapp i e, sc, .Expr (.Call (.Attribute (.Name x _) g ap) [b] [] p) _ => decide (g = ("append" : Str)) && decide (N[i]? = some x) && visB sc x && nodb x && plain b && (ap.endLine == p.line) && chkE tb N 200 e sc b
  | .oext i e, sc, .Expr (.Call (.Attribute (.Name x _) g ap) [b] [] p) _ => decide (g = ("extend" : Str)) && decide (N[i]? = some x) && visB sc x && nodb x && plain b && (ap.endLine == p.line) && chkE tb N 200 e sc b
  | .oset i f e, sc, .Assign [.Subscript (.Name x _) b _] a _ => decide (N[i]? = some x) && visB sc x && nodb x && plain b && chkE tb N 200 e sc a && chkE tb N 200 f sc b
  | .expr e, sc, .Expr a _ => noComp a && chkE tb N 200 e sc a
  | .ret e, sc, .Return (some a) _ => chkE tb N 200 e sc a
  | .retN, _, .Return none _ => true
  | .ife c x y, sc, .If t a b _ => chkT tb N 200 c sc t && chkSs tb N x sc a && chkSs tb N y sc b
  | .for tg it body, sc, .For t i b [] _ => plain i && chkI tb N 200 it sc t i && chkG tb N 200 tg sc t && chkSs tb N body sc b
  | .whil _ c body, sc, .While t b [] _ => chkT tb N 200 c sc t && chkSs tb N body sc b
  | .raise c m, sc, .Raise (some (.Call (.Name x _) [.Constant (.str m') _ _] [] _)) none _ => decide (m = m') && decide ((c, x) ∈ tb.exs) && glB sc x && nodb x
  | .cont, _, .Continue _ => true
  | .brk, _, .Break _ => true
  | _, _, _ => false
def chkSs (tb : Tab) (N : List Str) : Ss → Scope → List Stmt → Bool
  | .nil, _, [] => true
  | .cons (.frz _) r, sc, ss => chkSs tb N r sc ss
  | .cons s r, sc, t :: ts => chkS tb N s sc t && chkSs tb N r sc ts
  | _, _, _ => false
end
theorem tup_sw {sc : Scope} {ts : List Expr} {kk : Nat} {tp : Pos} {a : Expr} {env : PySem.Env} (hsc : env.scope = sc) (h : swN sc (.Tuple ts kk tp) a = true) : swappedStores [.Tuple ts kk tp] a env = pure none := sw_none hsc h
structure OkS (T : Kt) (tb : Tab) (Φ : Phi) (k n : Nat) : Prop where
  s : ∀ (x : Sm), sizeOf x ≤ n → ∀ {X : Cx} {W : WX} {sc : Scope} {a : Stmt}, chkS tb X.N x sc a = true → SX X W sc → Facts T tb Φ X k → PS X a (tS T W (evS Φ x))
  ss : ∀ (x : Ss), sizeOf x ≤ n → ∀ {X : Cx} {W : WX} {sc : Scope} {a : List Stmt}, chkSs tb X.N x sc a = true → SX X W sc → Facts T tb Φ X k → PSs X a (tS T W (evSs Φ x))
theorem ok_s {n : Nat} (O : OkS T tb Φ k n) (x : Sm) (hz : sizeOf x ≤ n + 1) {X : Cx} {W : WX} {sc : Scope} {a : Stmt} (h : chkS tb X.N x sc a = true) (SS : SX X W sc) (G : Facts T tb Φ X k) : PS X a (tS T W (evS Φ x)) := by
  have S := SS.ok
  have tk := SS.tk
  have lc : ∀ {y : Str}, locB1 sc y = true → X.env.scope.names.lookup y = some .local := fun {y} h => by rw [SS.sc]; exact of_decide_eq_true h
  have sw : ∀ {y : Str} {b : Bool}, (!locB1 sc y || b) = true → X.env.scope.names.lookup y = some .local → b = true := fun {y b} h e => by
    rw [SS.sc] at e
    have q : locB1 sc y = true := decide_eq_true e
    rw [q] at h
    exact h
  unfold chkS at h
  split at h
  all_goals try simp only [Bool.and_eq_true, decide_eq_true_eq, Bool.not_eq_true'] at h
  all_goals try simp only [Sm.ife.sizeOf_spec, Sm.for.sizeOf_spec, Sm.whil.sizeOf_spec] at hz
  · obtain ⟨⟨⟨h1, h2⟩, h3⟩, h4⟩ := h
    exact s_set (all_ea h4 S G tk) h1 SS.kd (S.loc _ h2).1 (SS.fn _) (sw h3) G.nd
  · obtain ⟨⟨h1, h2⟩, h3⟩ := h
    exact s_asg (all_e h2 S G tk) (all_g h3 S G) sole_tp (tup_sw SS.sc h1) rfl
  · obtain ⟨h1, h2⟩ := h
    exact s_asg (all_e h1 S G tk) (all_g h2 S G) sole_fl (sw_none rfl rfl) rfl
  · obtain ⟨h1, h2⟩ := h
    exact s_asg (all_e h1 S G tk) (all_g h2 S G) sole_sb (sw_none rfl rfl) rfl
  · obtain ⟨⟨⟨⟨⟨⟨⟨⟨⟨⟨⟨⟨h1, h2⟩, h3⟩, h4⟩, h5⟩, h6⟩, h7⟩, h8⟩, h9⟩, h10⟩, h11⟩, h12⟩, h13⟩ := h
    exact s_par2 G h1 h2 h3 (lc h4) (lc h5) h6 h7 (all_e h12 S G tk) (all_e h13 S G tk) (sw_some2 SS.kd (lc h4) (lc h5) h8 h9 h6 h7 h10 h11)
  · obtain ⟨⟨⟨⟨⟨⟨⟨⟨⟨⟨⟨⟨⟨⟨⟨⟨⟨⟨⟨⟨⟨h1, h2⟩, h3⟩, h4⟩, h5⟩, h6⟩, h7⟩, h8⟩, h9⟩, h10⟩, h11⟩, h12⟩, h13⟩, h14⟩, h15⟩, h16⟩, h17⟩, h18⟩, h19⟩, h20⟩, h21⟩, h22⟩ := h
    exact s_par3 G h1 h2 h3 h4 h5 h6 (lc h7) (lc h8) (lc h9) h10 h11 h12 (all_e h20 S G tk) (all_e h21 S G tk) (all_e h22 S G tk) (sw_some3 SS.kd (lc h7) (lc h8) (lc h9) h13 h14 h15 h16 h17 h10 h11 h12 h18 h19)
  · obtain ⟨⟨⟨h1, h2⟩, h3⟩, h4⟩ := h
    exact s_own (all_c h4 S G tk) h1 SS.kd (S.loc _ h2).1 (SS.fn _) (sw h3) G.nd
  · obtain ⟨⟨⟨⟨⟨⟨rfl, h1⟩, h2⟩, h3⟩, h4⟩, h5⟩, h6⟩ := h
    exact s_oapp h1 (S.vis _ h2) h3 h4 h5 (all_e h6 S G tk)
  · obtain ⟨⟨⟨⟨⟨⟨rfl, h1⟩, h2⟩, h3⟩, h4⟩, h5⟩, h6⟩ := h
    exact s_oext h1 (S.vis _ h2) h3 h4 h5 (all_e h6 S G tk)
  · obtain ⟨⟨⟨⟨⟨h1, h2⟩, h3⟩, h4⟩, h5⟩, h6⟩ := h
    exact s_oset G h1 (S.vis _ h2) h3 h4 (all_e h5 S G tk) (all_e h6 S G takes0)
  · exact s_expr h.1 (all_e h.2 S G tk)
  · exact s_ret (all_e h S G tk)
  · exact s_retN
  · obtain ⟨⟨h1, h2⟩, h3⟩ := h
    exact s_ife (all_t h1 S G tk) (O.ss _ (by omega) h2 SS G) (O.ss _ (by omega) h3 SS G)
  · obtain ⟨⟨⟨h1, h2⟩, h3⟩, h4⟩ := h
    exact s_for SS G h1 (all_i h2 S G tk) (all_g h3 S G) (O.ss _ (by omega) h4 SS G)
  · obtain ⟨h1, h2⟩ := h
    exact s_while SS (all_t h1 S G tk) (O.ss _ (by omega) h2 SS G)
  · obtain ⟨⟨⟨rfl, h1⟩, h2⟩, h3⟩ := h
    exact s_raise SS G h1 (S.gl _ h2) h3
  · exact s_cont
  · exact s_brk
  · cases h
theorem ok_ss {n : Nat} (O : OkS T tb Φ k n) (x : Ss) (hz : sizeOf x ≤ n + 1) {X : Cx} {W : WX} {sc : Scope} {a : List Stmt} (h : chkSs tb X.N x sc a = true) (SS : SX X W sc) (G : Facts T tb Φ X k) : PSs X a (tS T W (evSs Φ x)) := by
  unfold chkSs at h
  split at h
  · exact ss_nil
  · simp only [Ss.cons.sizeOf_spec] at hz
    exact ss_frz (O.ss _ (by omega) h SS G)
  · simp only [Ss.cons.sizeOf_spec] at hz
    simp only [Bool.and_eq_true] at h
    exact ss_cons (O.s _ (by omega) h.1 SS G) (O.ss _ (by omega) h.2 SS G)
  · cases h
theorem oksS (T : Kt) (tb : Tab) (Φ : Phi) (k : Nat) : ∀ n : Nat, OkS T tb Φ k n
  | 0 => by
    constructor
    all_goals (intro x hz; cases x <;> simp at hz)
  | n + 1 => have O := oksS T tb Φ k n
    ⟨ok_s O, ok_ss O⟩
theorem all_ss {x : Ss} {sc : Scope} {a : List Stmt} (h : chkSs tb X.N x sc a = true) (SS : SX X W sc) (G : Facts T tb Φ X k) : PSs X a (tS T W (evSs Φ x)) := (oksS T tb Φ k _).ss x (Nat.le_refl _) h SS G
end B

set_option Elab.async false
set_option linter.all false
set_option maxRecDepth 100000
set_option maxHeartbeats 4000000
namespace B
set_option autoImplicit false
open PySem PySem.Spec L2
open PyProof.Rows hiding St
/-! ### defs -/
structure Dfn where
  name : Str
  qual : Str
  st : Stmt
  N : List Str
  ps : List Str
  d : Def
def defsOf (L : List Dfn) : List Def := L.map (·.d)
/-- what the text says of a def -/
structure DefOk (tb : Tab) (x : Dfn) : Prop where
  sc : FnScope x.N x.ps (defScope x.st)
  chk : chkSs tb x.N x.d.body (defScope x.st) (defBody x.st) = true
  ar : x.ps.length = x.d.ar
  sz : x.N.length = x.d.sz
/-- what the top has written, beside the defs -/
structure Top (T : Kt) (tb : Tab) (mg : Str → Option Value) (ad : Nat → Addr) (L : List Dfn) : Prop where
  fns : ∀ f x, (f, x) ∈ tb.fns → f < L.length ∧ mg x = some (.ref (ad f))
  mts : ∀ f c m, (f, c, m) ∈ tb.mts → f < L.length ∧ Cls T.K (T.cl c) ∧ Meth T.K (T.cl c) m (ad f)
  mks : ∀ f x, (f, x) ∈ tb.mks → f < L.length ∧ T.kn f ∧ Mk T.K (T.cl f) (ad f) ∧ mg x = some (.ref (T.cl f))
  flds : ∀ c f, T.kn c → f ∈ tb.flds → Cls T.K (T.cl c) ∧ NoAttr T.K (T.cl c) f
  blt : ∀ x, x ∈ tb.blt → mg x = none
  gl : ∀ x d, (x, d) ∈ tb.gl → ∃ u v, mg x = some u ∧ RelV v u ∧ ∀ F ι, Rep T F ι v d
  exs : ∀ c x, (c, x) ∈ tb.exs → ∃ (bmB : List Value) (B newId initId : String), ExcBaseFacts B newId initId bmB ∧ PySem.W.excIn T.K (T.xc c) bmB newId = true ∧ mg x = some (.ref (T.xc c)) ∧ PySem.W.keepIn T.K (.ref (T.xc c)) = true ∧
    PySem.W.subIn T.K (.ref (T.xc c)) (.type "BaseException") = some true ∧ PySem.W.typeIn T.K (.ref (T.xc c)) = some (.type "type")
section
variable {P : Program} {w : World} {T : Kt} {mg : Str → Option Value} {base : Heap} {tb : Tab} {ad : Nat → Addr} {fd : Nat → FuncData} {L : List Dfn}
theorem sem_ar {defs : List Def} {n f : Nat} {ds : List D} {st : Store} (h : sem defs n f ds st ≠ .stuck) : ds.length = (defs.map (·.ar)).getD f 0 := by
  cases n with
  | zero => exact absurd rfl h
  | succ n =>
    unfold sem at h
    cases e : defs[f]? with
    | none => simp only [e] at h; exact absurd rfl h
    | some d =>
      simp only [e] at h
      unfold runD at h
      by_cases ha : ds.length = d.ar
      · rw [List.getD_eq_getElem?_getD, List.getElem?_map, e]
        exact ha
      · rw [if_neg ha] at h
        exact absurd rfl h
theorem start_env {ι : List Addr} {F H : Hp} {N : List Str} {vs : List V} {ds : List D} {n : Nat} (hn : N.length = n) (r : RepL T F ι vs ds) : REnv T ι F H (start N vs) (startE n ds) := by
  subst hn
  have e : vs.length = ds.length := r.length
  have own : ∀ (i : Nat) (xs : List D), (startE N.length ds)[i]? = some (.own xs) → False := fun i xs h => by
    unfold startE at h
    have h := List.mem_of_getElem? h
    rw [List.mem_append] at h
    rcases h with h | h
    · obtain ⟨_, _, z⟩ := List.mem_map.mp h
      cases z
    · cases List.eq_of_mem_replicate h
  refine ⟨by unfold L2.start startE; simp [e], fun i d h => ?_, fun i xs h => (own i xs h).elim, fun i j xs ys a h _ _ _ => (own i xs h).elim⟩
  unfold startE at h
  unfold L2.start
  by_cases hi : i < ds.length
  · rw [List.getElem?_append_left (by simpa using hi), List.getElem?_map] at h
    rw [List.getElem?_append_left (by simpa [e] using hi), List.getElem?_map]
    cases ed : ds[i]? with
    | none => rw [ed] at h; cases h
    | some d' =>
      rw [ed] at h
      cases h
      obtain ⟨v, ev, rv⟩ := r.get ed
      exact ⟨v, by rw [ev]; rfl, rv⟩
  · rw [List.getElem?_append_right (by simpa using hi)] at h
    cases List.eq_of_mem_replicate (List.mem_of_getElem? h)
theorem start_noown {n : Nat} {ds : List D} {σ : St} {a : Addr} : ¬ Own σ (startE n ds) a := fun ⟨i, xs, h, _⟩ => by
  unfold startE at h
  have h := List.mem_of_getElem? h
  rw [List.mem_append] at h
  rcases h with h | h
  · obtain ⟨_, _, z⟩ := List.mem_map.mp h
    cases z
  · cases List.eq_of_mem_replicate h
/-! what is forgotten -/
mutual
theorem Rep.back {F F0 F' : Hp} {ι ι' : List Addr} (p : ι <+: ι') : ∀ {v0 v : V} {d : D}, Rep T F ι v0 d → Rep T F' ι' v d → Rep T F' ι v d
  | _, _, _, .non, .non => .non
  | _, _, _, .bl b, .bl _ => .bl b
  | _, _, _, .int i, .int _ => .int i
  | _, _, _, .str s, .str _ => .str s
  | _, _, _, .tup _ r _, .tup h' r' z' => .tup h' (RepL.back (F0 := F0) p r r') z'
  | _, _, _, .lst _ r _, .lst h' r' z' => .lst h' (RepL.back (F0 := F0) p r r') z'
  | _, _, _, .scr _ _, .scr h' z' => .scr h' z'
  | _, _, _, .ref h, .ref h' => .ref (by rw [pre_get p h] at h'; rw [← h']; exact h)
theorem RepL.back {F F0 F' : Hp} {ι ι' : List Addr} (p : ι <+: ι') : ∀ {v0 v : List V} {d : List D}, RepL T F ι v0 d → RepL T F' ι' v d → RepL T F' ι v d
  | _, _, _, .nil, .nil => .nil
  | _, _, _, .cons r t, .cons r' t' => .cons (Rep.back (F0 := F0) p r r') (RepL.back (F0 := F0) p t t')
end
theorem Rep.plain : ∀ (n : Nat) {F : Hp} {ι ι' : List Addr} {v : V} {d : D}, noRef n d = true → Rep T F ι v d → Rep T F ι' v d
  | n, F, ι, ι', v, d, hn, r => by
    have go : ∀ (n : Nat), (∀ {v : V} {d : D}, noRef n d = true → Rep T F ι v d → Rep T F ι' v d) ∧ (∀ {vs : List V} {ds : List D}, ds.all (noRef n) = true → RepL T F ι vs ds → RepL T F ι' vs ds) := by
      intro n
      induction n with
      | zero =>
        have base : ∀ {v : V} {d : D}, noRef 0 d = true → Rep T F ι v d → Rep T F ι' v d := fun {v d} h r => by
          cases r with
          | non => exact .non
          | bl b => exact .bl b
          | int i => exact .int i
          | str s => exact .str s
          | scr h' z => exact .scr h' z
          | tup _ _ _ => simp [noRef] at h
          | lst _ _ _ => simp [noRef] at h
          | ref _ => simp [noRef] at h
        refine ⟨base, fun {vs ds} h r => ?_⟩
        induction ds generalizing vs with
        | nil => cases r; exact .nil
        | cons d ds ih =>
          cases r with
          | cons r t =>
            rw [List.all_cons, Bool.and_eq_true] at h
            exact .cons (base h.1 r) (ih h.2 t)
      | succ n ih =>
        have base : ∀ {v : V} {d : D}, noRef (n + 1) d = true → Rep T F ι v d → Rep T F ι' v d := fun {v d} h r => by
          cases r with
          | non => exact .non
          | bl b => exact .bl b
          | int i => exact .int i
          | str s => exact .str s
          | scr h' z => exact .scr h' z
          | tup h' r z => exact .tup h' (ih.2 (by simpa [noRef] using h) r) z
          | lst h' r z => exact .lst h' (ih.2 (by simpa [noRef] using h) r) z
          | ref _ => simp [noRef] at h
        refine ⟨base, fun {vs ds} h r => ?_⟩
        clear ih
        induction ds generalizing vs with
        | nil => cases r; exact .nil
        | cons d ds ih =>
          cases r with
          | cons r t =>
            rw [List.all_cons, Bool.and_eq_true] at h
            exact .cons (base h.1 r) (ih h.2 t)
    exact (go n).1 hn r
theorem RepF.back {F F' : Hp} {ι ι' : List Addr} (p : ι <+: ι') : ∀ {v0 v : List (Str × V)} {d : List (Str × D)}, RepF T F ι v0 d → RepF T F' ι' v d → RepF T F' ι v d
  | _, _, _, .nil, .nil => .nil
  | _, _, _, .cons ⟨_, r⟩ t, .cons ⟨e, r'⟩ t' => .cons ⟨e, Rep.back (F0 := F) p r r'⟩ (RepF.back p t t')
theorem RSt.drop {ι ι' : List Addr} {F F' H H' : Hp} {st st' : Store} (S : RSt T ι F H st) (S' : RSt T ι' F' H' st') (p : ι <+: ι') (ht : st'.take st.length = st) : RSt T ι F' H' st := by
  refine ⟨S'.same, S.len, S.nd, fun i a c h1 h2 => ?_⟩
  have hi : i < st.length := (List.getElem?_eq_some_iff.mp h2).1
  have h2' : st'[i]? = some c := by
    rw [← ht] at h2
    rw [List.getElem?_take_of_lt hi] at h2
    exact h2
  obtain ⟨_, q⟩ := S.cell i a c h1 h2
  obtain ⟨n', q'⟩ := S'.cell i a c (pre_get p h1) h2'
  refine ⟨n', ?_⟩
  cases c with
  | lst ds =>
    obtain ⟨vs, _, r, _⟩ := q
    obtain ⟨vs', e', r', z'⟩ := q'
    exact ⟨vs', e', RepL.back (F0 := F) p r r', z'⟩
  | dict kvs =>
    obtain ⟨ws, _, r⟩ := q
    obtain ⟨ws', e', r'⟩ := q'
    exact ⟨ws', e', RepF.back p r r'⟩
  | ins c fs =>
    obtain ⟨dx, ws, _, r, _⟩ := q
    obtain ⟨dx', ws', e', r', k'⟩ := q'
    exact ⟨dx', ws', e', RepF.back p r r', k'⟩
theorem Ext0.drop {ι ι' : List Addr} {F F' H H' : Hp} (e : Ext0 ι F H ι' F' H') : Ext0 ι F H ι F' H' :=
  ⟨e.fr, List.prefix_refl _, e.kp, e.fz, fun _ h n => absurd h n, e.th⟩
/-- a def's end -/
theorem post_end {E : XK} {ι : List Addr} {F H : Hp} {st : Store} {ds : List D} {d : Def} {r : RS} {Q : VK} {N : List Str} {vs : List V} (S : RSt T ι F H st) (P : Post T (rD T) (fun c d _ H' => E c d H') [] ι F H (dropped d.drop st (endOf r)) Q) :
    PostS T (fun c d _ H' => E c d H') (start N vs) (startE d.sz ds) ι F H r { nx := fun _ H' => Q .non H', rt := Q } := by
  have un : ∀ {ι' F' H'}, ExtO (start N vs) (startE d.sz ds) ι F H ι' F' H' → Ext0 ι F H ι' F' H' := fun x => x.weak fun _ h => (start_noown h).elim
  have go : ∀ (v : D) (st' : Store), Post T (rD T) (fun c d _ H' => E c d H') [] ι F H (dropped d.drop st (.ok v st')) Q → ∀ ι' F' H' u, Ext0 ι F H ι' F' H' → RSt T ι' F' H' st' → Rep T F' ι' u v → Q u H' := fun v st' P ι' F' H' u x S' r => by
    cases hd : d.drop with
    | false =>
      rw [hd] at P
      exact P ι' F' H' u x S' r
    | true =>
      rw [hd] at P
      unfold dropped at P
      dsimp only at P
      cases hc : (noRef 60 v && decide (st'.take st.length = st)) with
      | false => rw [hc] at P; exact P.elim
      | true =>
        rw [hc, if_pos rfl] at P
        rw [Bool.and_eq_true] at hc
        exact P ι F' H' u x.drop (S.drop S' x.io (of_decide_eq_true hc.2)) (Rep.plain 60 hc.1 r)
  cases r with
  | stuck =>
    cases hd : d.drop <;> rw [hd] at P <;> exact P
  | exc c ρ' st' =>
    intro ι' F' H' σ' x S' _ _
    cases hd : d.drop <;> rw [hd] at P <;> exact P ι' F' H' (un x) S'
  | ok f st' =>
    cases f with
    | next ρ' => exact fun ι' F' H' σ' x S' _ _ => go .non st' P ι' F' H' .non (un x) S' .non
    | ret v => exact fun ι' F' H' u x S' r => go v st' P ι' F' H' u (un x) S' r
    | brk ρ' => cases hd : d.drop <;> rw [hd] at P <;> exact P.elim
    | cont ρ' => cases hd : d.drop <;> rw [hd] at P <;> exact P.elim
/-- THE TABLE: each def keeps the promise that its meaning gives -/
theorem table (hL : ∀ (i : Nat) (x : Dfn), L[i]? = some x → DefOk tb x) (har : tb.ar = (defsOf L).map (·.ar)) (hF : ∀ (i : Nat) (x : Dfn), L[i]? = some x → Fun T.K x.name x.qual x.st (ad i) (fd i) ∧ Binds T.K (fd i) x.ps []) (G : Top T tb mg ad L) :
    ∀ (n : Nat) (i : Nat) (x : Dfn), L[i]? = some x → FnOk P w T.K mg base (L2.CX P w) (2 * n) (ad i) (fd i) x.ps (spOf T (sem (defsOf L) n i) x.d.ar) := by
  intro n
  induction n with
  | zero =>
    intro i x hx
    refine ⟨fun vs H Q E h => h.1.trans (hL i x hx).ar.symm, fun A outer s H args us vs Q E hr he hb hv hs => ?_⟩
    obtain ⟨_, ι, F, ds, st, _, _, P⟩ := hs
    exact P.elim
  | succ n ih =>
    intro i x hx
    obtain ⟨F, hb⟩ := hF i x hx
    have K := hL i x hx
    have ga : ∀ (f : Nat) (y : Dfn), L[f]? = some y → tb.ar.getD f 0 = y.d.ar := fun f y hy => by
      rw [har, List.getD_eq_getElem?_getD, List.getElem?_map]
      unfold defsOf
      rw [List.getElem?_map, hy]
      rfl
    refine F.okX (k := 2 * n + 1) K.sc (fun vs H Q E h => h.1.trans K.ar.symm) fun cdv A outer s H vs Q E hr h => ?_
    obtain ⟨hn, ι, F1, ds, st, S, r, Pp⟩ := h
    refine ⟨tS T (fun c d _ H' => E c d H') (evSs (sem (defsOf L) n) x.d.body), all_ss (k := 2 * n) (tb := tb) K.chk ⟨passes_of rfl, takes_of rfl rfl rfl rfl, rfl, K.sc.kind, fun _ => rfl⟩ ?_, ι, F1, startE x.d.sz ds, st, S, start_env K.sz r, ?_⟩
    · -- the facts
      refine ⟨rfl, rfl, K.sc.nd, hr, fun f y hy => ?_, fun f c m hm => ?_, fun f y hy => ?_, fun c f hk hf => G.flds c f hk hf, fun y hy => G.blt y hy, fun y d hy => G.gl y d hy, fun f ds st h => ?_, fun c y hy => ?_⟩
      · obtain ⟨hl, hm⟩ := G.fns f y hy
        have e : L[f]? = some L[f] := List.getElem?_eq_getElem hl
        refine ⟨ad f, fd f, L[f].ps, hm, (hF f _ e).1.kp, (hF f _ e).2, ?_⟩
        rw [ga f _ e]
        exact ih f _ e
      · obtain ⟨hl, hc, hm⟩ := G.mts f c m hm
        have e : L[f]? = some L[f] := List.getElem?_eq_getElem hl
        refine ⟨ad f, fd f, L[f].ps, hc, hm, (hF f _ e).2, ?_⟩
        rw [ga f _ e]
        exact ih f _ e
      · obtain ⟨hl, hk, hM, hm⟩ := G.mks f y hy
        have e : L[f]? = some L[f] := List.getElem?_eq_getElem hl
        refine ⟨ad f, fd f, L[f].ps, hk, hM, hm, (hF f _ e).2, ?_⟩
        rw [ga f _ e]
        exact ih f _ e
      · rw [har]
        exact sem_ar h
      · obtain ⟨bmB, B, newId, initId, h1, h2, h3, h4, h5, h6⟩ := G.exs c y hy
        exact ⟨bmB, B, newId, initId, h1, h2, h3, h4, raises_own h5 h6⟩
    · have hd : (defsOf L)[i]? = some x.d := by
        unfold defsOf
        rw [List.getElem?_map, hx]
        rfl
      have hs : sem (defsOf L) (n + 1) i ds st = runD (sem (defsOf L) n) x.d ds st := by
        show (match (defsOf L)[i]? with
          | some d => runD (sem (defsOf L) n) d ds st
          | none => .stuck) = _
        rw [hd]
      rw [hs] at Pp
      unfold runD at Pp
      rw [if_pos (by rw [← r.length]; exact hn)] at Pp
      exact post_end S Pp
end
/-! ### the law -/
def spLaw (K : PySem.W.Frag) : Sp := fun vs H Q _ => ∃ (a : Addr) (ns : List Int), vs = [.ref a] ∧ SqL K H a (ns.map V.int) ∧ ns.length ≤ 63 ∧ ∀ H', Q (.bl true) H'
theorem law_of {P : Program} {w : World} {T : Kt} {mg : Str → Option Value} {base : Heap} {defs : List Def} {n k i : Nat} {f : Addr} {fd : FuncData} {ps : List Str} (h : FnOk P w T.K mg base (L2.CX P w) k f fd ps (spOf T (sem defs n i) 1))
    (hm : ∀ ns : List Int, ns.length ≤ 63 → ∃ st, sem defs n i [.scr ns] [] = .ok (.bl true) st) : FnOk P w T.K mg base (L2.CX P w) k f fd ps (spLaw T.K) := h.imp fun vs H Q E ⟨a, ns, e, hS, hl, q⟩ => by
  subst e
  refine ⟨rfl, [], H, [.scr ns], [], ⟨fun _ _ h => h, rfl, List.nodup_nil, fun i a c h => by cases h⟩, .cons (.scr hS (Nat.le_trans hl (by decide))) .nil, ?_⟩
  obtain ⟨st, e⟩ := hm ns hl
  rw [e]
  intro ι' F' H' v _ _ r
  cases r
  exact q H'
end B

set_option Elab.async false
set_option linter.all false
set_option maxRecDepth 100000
set_option maxHeartbeats 4000000
namespace B
set_option autoImplicit false
open PySem PySem.Spec L2
open PyProof.Rows hiding St
/-! ### the checks of a whole text -/
def isFnKind : ScopeKind → Bool
  | .function => true
  | _ => false
def okB (tb : Tab) (x : Dfn) : Bool :=
  isFnKind (defScope x.st).kind && !(defScope x.st).isCoroutine && !(defScope x.st).isGenerator && decide x.N.Nodup && decide (x.N.take x.ps.length = x.ps) &&
  (x.ps.all fun y => locB (defScope x.st) y) && ((defScope x.st).names.all fun y => decide (y.2 ≠ .free)) && chkSs tb x.N x.d.body (defScope x.st) (defBody x.st) && decide (x.ps.length = x.d.ar) && decide (x.N.length = x.d.sz)
theorem okB_ok {tb : Tab} {x : Dfn} (h : okB tb x = true) : DefOk tb x := by
  unfold okB at h
  simp only [Bool.and_eq_true, Bool.not_eq_true', decide_eq_true_eq, List.all_eq_true] at h
  obtain ⟨⟨⟨⟨⟨⟨⟨⟨⟨h1, h2⟩, h3⟩, h4⟩, h5⟩, h6⟩, h7⟩, h8⟩, h9⟩, h10⟩ := h
  refine ⟨⟨?_, h2, h3, h4, h5, fun y hy => loc_of (h6 y hy), h7⟩, h8, h9, h10⟩
  revert h1
  generalize (defScope x.st).kind = q
  intro h1
  cases q <;> first | rfl | cases h1
theorem all_ok {tb : Tab} {L : List Dfn} (h : L.all (okB tb) = true) (i : Nat) (x : Dfn) (hx : L[i]? = some x) : DefOk tb x := okB_ok (List.all_eq_true.mp h x (List.mem_of_getElem? hx))
/-- the defs as they stand -/
inductive Rows (K : PySem.W.Frag) : List Dfn → List (Addr × FuncData) → Prop
  | nil : Rows K [] []
  | cons {x : Dfn} {xs : List Dfn} {f : Addr} {fd : FuncData} {r : List (Addr × FuncData)} : Fun K x.name x.qual x.st f fd → Binds K fd x.ps [] → Rows K xs r → Rows K (x :: xs) ((f, fd) :: r)
def adL (l : List Addr) (i : Nat) : Addr := l.getD i 0
def adOf (r : List (Addr × FuncData)) (i : Nat) : Addr := adL (r.map (·.1)) i
def fdOf (fd0 : FuncData) (r : List (Addr × FuncData)) (i : Nat) : FuncData := match r[i]? with
  | some p => p.2
  | none => fd0
theorem Rows.at {K : PySem.W.Frag} (fd0 : FuncData) : ∀ {xs : List Dfn} {r : List (Addr × FuncData)}, Rows K xs r → ∀ (i : Nat) (x : Dfn), xs[i]? = some x → Fun K x.name x.qual x.st (adOf r i) (fdOf fd0 r i) ∧ Binds K (fdOf fd0 r i) x.ps []
  | _, _, .nil, i, x, h => by cases h
  | _, _, .cons f b t, 0, x, h => by cases h; exact ⟨f, b⟩
  | _, _, .cons f b t, i + 1, x, h => by
    have q := Rows.at fd0 t i x (by simpa using h)
    simpa [adOf, adL, fdOf] using q
theorem in_nil {α : Type} {P : α → Prop} : ∀ x ∈ ([] : List α), P x := fun _ h => nomatch h
theorem in_cons {α : Type} {P : α → Prop} {a : α} {l : List α} (h : P a) (t : ∀ x ∈ l, P x) : ∀ x ∈ a :: l, P x := fun x hx => by
  rcases List.mem_cons.mp hx with rfl | hx
  · exact h
  · exact t x hx
structure TopL (T : Kt) (tb : Tab) (mg : Str → Option Value) (ad : Nat → Addr) (L : List Dfn) : Prop where
  fns : ∀ p ∈ tb.fns, p.1 < L.length ∧ mg p.2 = some (.ref (ad p.1))
  mts : ∀ p ∈ tb.mts, p.1 < L.length ∧ Cls T.K (T.cl p.2.1) ∧ Meth T.K (T.cl p.2.1) p.2.2 (ad p.1)
  mks : ∀ p ∈ tb.mks, p.1 < L.length ∧ T.kn p.1 ∧ Mk T.K (T.cl p.1) (ad p.1) ∧ mg p.2 = some (.ref (T.cl p.1))
  flds : ∀ c, T.kn c → ∀ f ∈ tb.flds, Cls T.K (T.cl c) ∧ NoAttr T.K (T.cl c) f
  blt : ∀ x ∈ tb.blt, mg x = none
  gl : ∀ p ∈ tb.gl, ∃ u v, mg p.1 = some u ∧ RelV v u ∧ ∀ F ι, Rep T F ι v p.2
  exs : ∀ p ∈ tb.exs, ∃ (bmB : List Value) (B newId initId : String), ExcBaseFacts B newId initId bmB ∧ PySem.W.excIn T.K (T.xc p.1) bmB newId = true ∧ mg p.2 = some (.ref (T.xc p.1)) ∧ PySem.W.keepIn T.K (.ref (T.xc p.1)) = true ∧
    PySem.W.subIn T.K (.ref (T.xc p.1)) (.type "BaseException") = some true ∧ PySem.W.typeIn T.K (.ref (T.xc p.1)) = some (.type "type")
theorem TopL.top {T : Kt} {tb : Tab} {mg : Str → Option Value} {ad : Nat → Addr} {L : List Dfn} (h : TopL T tb mg ad L) : Top T tb mg ad L :=
  ⟨fun f x hm => h.fns (f, x) hm, fun f c m hm => h.mts (f, c, m) hm, fun f x hm => h.mks (f, x) hm, fun c f hk hf => h.flds c hk f hf, h.blt, fun x d hm => h.gl (x, d) hm, fun c x hm => h.exs (c, x) hm⟩
/-- the whole law -/
theorem whole {P : Program} {w : World} {T : Kt} {mg : Str → Option Value} {base : Heap} {tb : Tab} {L : List Dfn} {r : List (Addr × FuncData)} {fd0 : FuncData} {n i : Nat} {x : Dfn} (hL : L.all (okB tb) = true) (har : tb.ar = (defsOf L).map (·.ar)) (R : Rows T.K L r) (G : TopL T tb mg (adOf r) L)
    (hx : L[i]? = some x) (h1 : x.d.ar = 1) (hm : ∀ ns : List Int, ns.length ≤ 63 → ∃ st, sem (defsOf L) n i [.scr ns] [] = .ok (.bl true) st) : FnOk P w T.K mg base (L2.CX P w) (2 * n) (adOf r i) (fdOf fd0 r i) x.ps (spLaw T.K) := by
  have q := table (P := P) (w := w) (base := base) (all_ok hL) har (R.at fd0) G.top n i x hx
  rw [h1] at q
  exact law_of q hm
end B

set_option Elab.async false
set_option linter.all false
set_option maxRecDepth 100000
set_option maxHeartbeats 4000000
/-! Plain facts about the meaning: how a def's body is walked in the mind. -/
namespace B
set_option autoImplicit false
open PySem
variable {Φ : Phi} {ρ ρ' : Slots} {st st' : Store}
theorem sem_at {defs : List Def} {n f : Nat} {d : Def} (h : defs[f]? = some d) : sem defs (n + 1) f = runD (sem defs n) d := by
  funext ds st
  show (match defs[f]? with
    | some d => runD (sem defs n) d ds st
    | none => .stuck) = _
  rw [h]
/-- a def that gives d -/
theorem run_ret {d : Def} {ds : List D} {v : D} (ha : ds.length = d.ar) (hd : d.drop = false) (h : evSs Φ d.body (startE d.sz ds) st = .ok (.ret v) st') : runD Φ d ds st = .ok v st' := by
  unfold runD
  rw [if_pos ha, h, hd]
  rfl
theorem run_next {d : Def} {ds : List D} (ha : ds.length = d.ar) (hd : d.drop = false) (h : evSs Φ d.body (startE d.sz ds) st = .ok (.next ρ) st') : runD Φ d ds st = .ok .non st' := by
  unfold runD
  rw [if_pos ha, h, hd]
  rfl
theorem ss_step {s : Sm} {r : Ss} {X : RS} (h : evS Φ s ρ st = .ok (.next ρ') st') (h2 : evSs Φ r ρ' st' = X) : evSs Φ (.cons s r) ρ st = X := by
  simp only [evSs, h, RS.bind]
  exact h2
theorem ss_end {s : Sm} {r : Ss} {d : D} (h : evS Φ s ρ st = .ok (.ret d) st') : evSs Φ (.cons s r) ρ st = .ok (.ret d) st' := by
  simp only [evSs, h, RS.bind]
theorem s_next : evSs Φ .nil ρ st = .ok (.next ρ) st := by simp only [evSs]
theorem e_asg {i : Nat} {e : Ex} {v : D} (h : evE Φ e ρ st = .ok v st') : evS Φ (.asg (.nm i) e) ρ st = .ok (.next (ρ.set i (.val v))) st' := by
  simp only [evS, h, R.s, asT]
theorem e_ret {e : Ex} {v : D} (h : evE Φ e ρ st = .ok v st') : evS Φ (.ret e) ρ st = .ok (.ret v) st' := by
  simp only [evS, h, R.s]
theorem e_ifT {c : Ex} {a b : Ss} {X : RS} (h : evT Φ c ρ st = .ok true st') (h2 : evSs Φ a ρ st' = X) : evS Φ (.ife c a b) ρ st = X := by
  simp only [evS, h, R.s]
  exact h2
theorem e_ifF {c : Ex} {a b : Ss} {X : RS} (h : evT Φ c ρ st = .ok false st') (h2 : evSs Φ b ρ st' = X) : evS Φ (.ife c a b) ρ st = X := by
  simp only [evS, h, R.s]
  exact h2
theorem e_if0 {c : Ex} {a : Ss} (h : evT Φ c ρ st = .ok false st') : evS Φ (.ife c a .nil) ρ st = .ok (.next ρ) st' := e_ifF h (by simp only [evSs])
theorem e_par2 {i j : Nat} {a b : Ex} {v w : D} {st1 : Store} (h : evE Φ a ρ st = .ok v st1) (h2 : evE Φ b ρ st1 = .ok w st') : evS Φ (.par2 i j a b) ρ st = .ok (.next ((ρ.set i (.val v)).set j (.val w))) st' := by
  simp only [evS, h, h2, R.s]
theorem e_own {i : Nat} {c : Cr} {xs : List D} (h : evC Φ c ρ st = .ok xs st') : evS Φ (.own i c) ρ st = .ok (.next (ρ.set i (.own xs))) st' := by
  simp only [evS, h, R.s]
theorem e_frz {i : Nat} {xs : List D} (h : getO ρ i = some xs) : evS Φ (.frz i) ρ st = .ok (.next (ρ.set i (.val (.lst xs)))) st := by
  simp only [evS, h]
theorem e_frz0 {i : Nat} (h : getO ρ i = none) : evS Φ (.frz i) ρ st = .ok (.next ρ) st := by
  simp only [evS, h]
theorem e_oapp {i : Nat} {e : Ex} {xs : List D} {v : D} (h : getO ρ i = some xs) (he : evE Φ e ρ st = .ok v st') (hl : xs.length < sizeLine) : evS Φ (.oapp i e) ρ st = .ok (.next (ρ.set i (.own (xs ++ [v])))) st' := by
  simp only [evS, h, he, R.s, if_pos hl]
theorem e_expr {e : Ex} {v : D} (h : evE Φ e ρ st = .ok v st') : evS Φ (.expr e) ρ st = .ok (.next ρ) st' := by
  simp only [evS, h, R.s]
/-- a loop, the invariant by what is done -/
theorem forL_inv {α : Type} (enc : α → D) {f : D → Slots → Store → RS} {ok : Store → Bool} (I : List α → Slots → Store → Prop) (hok : ∀ l ρ st, I l ρ st → ok st = true) :
    ∀ (rest done : List α) (ρ : Slots) (st : Store), I done ρ st → (∀ d x r ρ st, done ++ rest = d ++ x :: r → I d ρ st → ∃ ρ' st', (f (enc x) ρ st = .ok (.next ρ') st' ∨ f (enc x) ρ st = .ok (.cont ρ') st') ∧ I (d ++ [x]) ρ' st') →
      ∃ ρ' st', forL f ok (rest.map enc) ρ st = .ok (.next ρ') st' ∧ I (done ++ rest) ρ' st'
  | [], done, ρ, st, h, _ => ⟨ρ, st, by rw [List.map_nil, forL, if_pos (hok _ _ _ h)], by rw [List.append_nil]; exact h⟩
  | x :: rest, done, ρ, st, h, hs => by
    obtain ⟨ρ1, st1, e, h1⟩ := hs done x rest ρ st rfl h
    obtain ⟨ρ2, st2, e2, h2⟩ := forL_inv enc I hok rest (done ++ [x]) ρ1 st1 h1 (fun d y r ρ st e => hs d y r ρ st (by rw [← e]; simp))
    refine ⟨ρ2, st2, ?_, by rw [← List.append_cons] at h2; exact h2⟩
    rw [List.map_cons, forL, if_pos (hok _ _ _ h)]
    rcases e with e | e <;> rw [e] <;> exact e2
theorem s_forI {α : Type} (enc : α → D) {tg : Tg} {it : Wk} {body : Ss} {xs : List α} {okf : Store → Bool} (I : List α → Slots → Store → Prop) (hi : evI Φ it ρ st = .ok (xs.map enc, okf) st') (hok : ∀ l ρ st, I l ρ st → okf st = true) (h0 : I [] ρ st')
    (hs : ∀ d x r ρ st, xs = d ++ x :: r → I d ρ st → ∃ ρ0 st0, asT Φ tg (enc x) ρ st = .ok ρ0 st0 ∧ ∃ ρ' st', (evSs Φ body ρ0 st0 = .ok (.next ρ') st' ∨ evSs Φ body ρ0 st0 = .ok (.cont ρ') st') ∧ I (d ++ [x]) ρ' st') :
    ∃ ρ' st'', evS Φ (.for tg it body) ρ st = .ok (.next ρ') st'' ∧ I xs ρ' st'' := by
  have e : evS Φ (.for tg it body) ρ st = (evI Φ it ρ st).s ρ fun p st => forL (fun x ρ st => (asT Φ tg x ρ st).s ρ fun ρ st => evSs Φ body ρ st) p.2 p.1 ρ st := by simp only [evS]
  rw [e, hi]
  obtain ⟨ρ', st'', q1, q2⟩ := forL_inv enc (f := fun x ρ st => (asT Φ tg x ρ st).s ρ fun ρ st => evSs Φ body ρ st) I hok xs [] ρ st' h0 (fun d x r ρ st e hI => by
      obtain ⟨ρ0, st0, e0, ρ1, st1, e1, h1⟩ := hs d x r ρ st (by simpa using e) hI
      refine ⟨ρ1, st1, ?_, h1⟩
      simp only [e0, R.s]
      exact e1)
  exact ⟨ρ', st'', q1, by simpa using q2⟩
/-- a comprehension -/
theorem compL_of {α : Type} (enc : α → D) {f : D → Store → R (Option D)} {ok : Store → Bool} {g : α → Option D} (hok : ok st = true) : ∀ xs : List α, (∀ x ∈ xs, f (enc x) st = .ok (g x) st) → compL f ok (xs.map enc) st = .ok (xs.filterMap g) st
  | [], _ => by simp [compL, hok]
  | x :: xs, h => by
    have ih := compL_of enc (f := f) (g := g) hok xs fun y hy => h y (List.mem_cons_of_mem _ hy)
    simp only [List.map_cons, compL, hok, if_true, h x List.mem_cons_self, R.bind, ih]
    cases e : g x <;> simp [e, List.filterMap_cons]
theorem c_comp {α : Type} (enc : α → D) {elt : Ex} {tg : Tg} {it : Wk} {cond : Eo} {own : List Nat} {xs : List α} {okf : Store → Bool} (p : α → Bool) (g : α → D) (hi : evI Φ it ρ st = .ok (xs.map enc, okf) st) (hok : okf st = true)
    (hx : ∀ x ∈ xs, ∃ ρ', asT Φ tg (enc x) (wipeE ρ own) st = .ok ρ' st ∧ evCo Φ cond ρ' st = .ok (p x) st ∧ (p x = true → evE Φ elt ρ' st = .ok (g x) st)) :
    evC Φ (.comp elt tg it cond own) ρ st = .ok ((xs.filter p).map g) st := by
  simp only [evC, hi, R.bind]
  rw [compL_of enc (g := fun x => if p x then some (g x) else none) hok xs]
  · congr 1
    clear hi hx
    induction xs with
    | nil => rfl
    | cons x xs ih =>
      rw [List.filterMap_cons, List.filter_cons]
      cases h : p x <;> simp [h, ih]
  · intro x h
    obtain ⟨ρ', e1, e2, e3⟩ := hx x h
    simp only [e1, e2]
    cases hp : p x with
    | false => simp [noExc]
    | true => simp [e3 hp, noExc]
/-- all of them -/
theorem c_compA {α : Type} (enc : α → D) {elt : Ex} {tg : Tg} {it : Wk} {own : List Nat} {xs : List α} {okf : Store → Bool} (g : α → D) (hi : evI Φ it ρ st = .ok (xs.map enc, okf) st) (hok : okf st = true)
    (hx : ∀ x ∈ xs, ∃ ρ', asT Φ tg (enc x) (wipeE ρ own) st = .ok ρ' st ∧ evE Φ elt ρ' st = .ok (g x) st) :
    evC Φ (.comp elt tg it .none own) ρ st = .ok (xs.map g) st := by
  have q := c_comp (cond := .none) enc (fun _ => true) g hi hok fun x h => by
    obtain ⟨ρ', e1, e2⟩ := hx x h
    exact ⟨ρ', e1, by simp only [evCo], fun _ => e2⟩
  rw [q, List.filter_eq_self.mpr fun _ _ => rfl]
/-! ### slices -/
theorem cut_to (xs : List D) (n : Nat) : cutD xs none (some (n : Int)) = xs.take n := by
  unfold cutD
  rw [HT.sIx_nat, HT.sIx_none, List.drop_zero, Nat.sub_zero]
  by_cases h : n ≤ xs.length
  · rw [Nat.min_eq_left h]
  · rw [Nat.min_eq_right (by omega), List.take_of_length_le (Nat.le_refl _), List.take_of_length_le (by omega)]
theorem cut_from (xs : List D) (n : Nat) : cutD xs (some (n : Int)) none = xs.drop n := by
  unfold cutD
  rw [HT.sIx_nat, HT.sIx_none]
  by_cases h : n ≤ xs.length
  · rw [Nat.min_eq_left h, List.take_of_length_le (by rw [List.length_drop]; omega)]
  · rw [Nat.min_eq_right (by omega), List.drop_of_length_le (Nat.le_refl _), List.drop_of_length_le (by omega)]
    simp
theorem at_nat {α : Type} (xs : List α) (i : Nat) : L2.atI xs (i : Int) = xs[i]? := by
  unfold L2.atI L2.ixN
  rw [if_pos (by omega)]
  by_cases h : i < xs.length
  · rw [if_pos (by omega)]
    simp
  · rw [if_neg (by omega), List.getElem?_eq_none (by omega)]
    rfl
theorem at_0 {α : Type} (x : α) (xs : List α) : L2.atI (x :: xs) 0 = some x := at_nat (x :: xs) 0
theorem at_1 {α : Type} (x y : α) (xs : List α) : L2.atI (x :: y :: xs) 1 = some y := at_nat (x :: y :: xs) 1
theorem at_2 {α : Type} (x y z : α) (xs : List α) : L2.atI (x :: y :: z :: xs) 2 = some z := at_nat (x :: y :: z :: xs) 2
theorem at_3 {α : Type} (x y z w : α) (xs : List α) : L2.atI (x :: y :: z :: w :: xs) 3 = some w := at_nat (x :: y :: z :: w :: xs) 3
/-! ### comparisons -/
theorem eq_tup {xs ys : List D} (hx : eqOk 60 (.tup xs) = true) (hy : eqOk 60 (.tup ys) = true) : eqD (.tup xs) (.tup ys) = some (eqvL xs ys) := by
  show (if (eqOk 60 (.tup xs) && eqOk 60 (.tup ys)) = true then some (eqv (.tup xs) (.tup ys)) else none) = _
  rw [hx, hy]
  simp [eqv]
theorem eq_lst {xs ys : List D} (hx : eqOk 60 (.lst xs) = true) (hy : eqOk 60 (.lst ys) = true) : eqD (.lst xs) (.lst ys) = some (eqvL xs ys) := by
  show (if (eqOk 60 (.lst xs) && eqOk 60 (.lst ys)) = true then some (eqv (.lst xs) (.lst ys)) else none) = _
  rw [hx, hy]
  simp [eqv]
/-- values that are alike just when they are the same -/
theorem eqvL_map {α : Type} (enc : α → D) : ∀ xs ys : List α, (∀ x ∈ xs, ∀ y ∈ ys, eqv (enc x) (enc y) = true → x = y) → (∀ x ∈ xs, eqv (enc x) (enc x) = true) → (eqvL (xs.map enc) (ys.map enc) = true ↔ xs = ys)
  | [], [], _, _ => by simp [eqvL]
  | [], _ :: _, _, _ => by simp [eqvL]
  | _ :: _, [], _, _ => by simp [eqvL]
  | x :: xs, y :: ys, h, hr => by
    have ih := eqvL_map enc xs ys (fun a ha b hb => h a (List.mem_cons_of_mem _ ha) b (List.mem_cons_of_mem _ hb)) (fun a ha => hr a (List.mem_cons_of_mem _ ha))
    simp only [List.map_cons, eqvL, Bool.and_eq_true, List.cons.injEq, ih]
    constructor
    · rintro ⟨h1, h2⟩
      exact ⟨h x List.mem_cons_self y List.mem_cons_self h1, h2⟩
    · rintro ⟨rfl, h2⟩
      exact ⟨hr x List.mem_cons_self, h2⟩
theorem eqv_int (i j : Int) : eqv (.int i) (.int j) = (i == j) := by simp [eqv]
theorem eqv_str (i j : Str) : eqv (.str i) (.str j) = (i == j) := by simp [eqv]
end B

set_option Elab.async false
set_option linter.all false
set_option maxRecDepth 100000
set_option maxHeartbeats 4000000
/-! The meaning, forwards: what holds behind a block. -/
namespace B
set_option autoImplicit false
open PySem
variable {Φ : Phi} {ρ ρ' : Slots} {st st' : Store}
def Wp (X : RS) (Q : Fl → Store → Prop) : Prop := ∃ f st, X = .ok f st ∧ Q f st
theorem Wp.imp {X : RS} {Q Q' : Fl → Store → Prop} (h : Wp X Q) (i : ∀ f st, Q f st → Q' f st) : Wp X Q' := by
  obtain ⟨f, st, e, q⟩ := h
  exact ⟨f, st, e, i f st q⟩
theorem wp_nil {Q : Fl → Store → Prop} (h : Q (.next ρ) st) : Wp (evSs Φ .nil ρ st) Q := ⟨_, _, by simp only [evSs], h⟩
theorem wp_step {s : Sm} {r : Ss} {Q : Fl → Store → Prop} (h : evS Φ s ρ st = .ok (.next ρ') st') (h2 : Wp (evSs Φ r ρ' st') Q) : Wp (evSs Φ (.cons s r) ρ st) Q := by
  simp only [evSs, h, RS.bind]
  exact h2
theorem wp_ret {s : Sm} {r : Ss} {d : D} {Q : Fl → Store → Prop} (h : evS Φ s ρ st = .ok (.ret d) st') (h2 : Q (.ret d) st') : Wp (evSs Φ (.cons s r) ρ st) Q := by
  simp only [evSs, h, RS.bind]
  exact ⟨_, _, rfl, h2⟩
theorem wp_cont {r : Ss} {Q : Fl → Store → Prop} (h2 : Q (.cont ρ) st) : Wp (evSs Φ (.cons .cont r) ρ st) Q := by
  simp only [evSs, evS, RS.bind]
  exact ⟨_, _, rfl, h2⟩
/-- what a statement leaves to the rest of its block -/
def rest (Φ : Phi) (r : Ss) (Q : Fl → Store → Prop) : Fl → Store → Prop := fun f st =>
  match f with
  | .next ρ => Wp (evSs Φ r ρ st) Q
  | f => Q f st
theorem wp_seq {s : Sm} {r : Ss} {Q : Fl → Store → Prop} (h : Wp (evS Φ s ρ st) (rest Φ r Q)) : Wp (evSs Φ (.cons s r) ρ st) Q := by
  obtain ⟨f, st1, e, q⟩ := h
  simp only [evSs, e]
  cases f with
  | next ρ' => exact q
  | ret d => exact ⟨_, _, rfl, q⟩
  | brk ρ' => exact ⟨_, _, rfl, q⟩
  | cont ρ' => exact ⟨_, _, rfl, q⟩
theorem wp_ifT {c : Ex} {a b r : Ss} {Q : Fl → Store → Prop} (h : evT Φ c ρ st = .ok true st') (h2 : Wp (evSs Φ a ρ st') (rest Φ r Q)) : Wp (evSs Φ (.cons (.ife c a b) r) ρ st) Q :=
  wp_seq (by simp only [evS, h, R.s]; exact h2)
theorem wp_ifF {c : Ex} {a b r : Ss} {Q : Fl → Store → Prop} (h : evT Φ c ρ st = .ok false st') (h2 : Wp (evSs Φ b ρ st') (rest Φ r Q)) : Wp (evSs Φ (.cons (.ife c a b) r) ρ st) Q :=
  wp_seq (by simp only [evS, h, R.s]; exact h2)
theorem wp_if0 {c : Ex} {a r : Ss} {Q : Fl → Store → Prop} (h : evT Φ c ρ st = .ok false st') (h2 : Wp (evSs Φ r ρ st') Q) : Wp (evSs Φ (.cons (.ife c a .nil) r) ρ st) Q := wp_ifF h (wp_nil h2)
/-- a loop -/
def turnQ {α : Type} (I : List α → Slots → Store → Prop) (d : List α) (x : α) (Q : Fl → Store → Prop) : Fl → Store → Prop := fun f st =>
  match f with
  | .next ρ => I (d ++ [x]) ρ st
  | .cont ρ => I (d ++ [x]) ρ st
  | .brk _ => False
  | .ret v => Q (.ret v) st
theorem forL_wp {α : Type} (enc : α → D) {f : D → Slots → Store → RS} {ok : Store → Bool} {Q : Fl → Store → Prop} (I : List α → Slots → Store → Prop) (hok : ∀ l ρ st, I l ρ st → ok st = true) :
    ∀ (rs done : List α) (ρ : Slots) (st : Store), I done ρ st → (∀ d x r ρ st, done ++ rs = d ++ x :: r → I d ρ st → Wp (f (enc x) ρ st) (turnQ I d x Q)) → (∀ ρ st, I (done ++ rs) ρ st → Q (.next ρ) st) → Wp (forL f ok (rs.map enc) ρ st) Q
  | [], done, ρ, st, h, _, hq => ⟨.next ρ, st, by rw [List.map_nil, forL, if_pos (hok _ _ _ h)], hq _ _ (by rw [List.append_nil]; exact h)⟩
  | x :: rs, done, ρ, st, h, hs, hq => by
    obtain ⟨fl, st1, e, q⟩ := hs done x rs ρ st rfl h
    rw [List.map_cons, forL, if_pos (hok _ _ _ h), e]
    have go : ∀ ρ1, I (done ++ [x]) ρ1 st1 → Wp (forL f ok (rs.map enc) ρ1 st1) Q := fun ρ1 h1 => forL_wp enc I hok rs (done ++ [x]) ρ1 st1 h1 (fun d y r ρ st e => hs d y r ρ st (by rw [← e]; simp)) (fun ρ st q => hq ρ st (by simpa using q))
    cases fl with
    | next ρ1 => exact go ρ1 q
    | cont ρ1 => exact go ρ1 q
    | brk _ => exact q.elim
    | ret v => exact ⟨_, _, rfl, q⟩
theorem wp_for {α : Type} (enc : α → D) (xs : List α) {tg : Tg} {it : Wk} {body r : Ss} {okf : Store → Bool} {Q : Fl → Store → Prop} (I : List α → Slots → Store → Prop) (hi : evI Φ it ρ st = .ok (xs.map enc, okf) st') (hok : ∀ l ρ st, I l ρ st → okf st = true) (h0 : I [] ρ st')
    (hs : ∀ d x r' ρ st, xs = d ++ x :: r' → I d ρ st → ∃ ρ0 st0, asT Φ tg (enc x) ρ st = .ok ρ0 st0 ∧ Wp (evSs Φ body ρ0 st0) (turnQ I d x Q)) (hq : ∀ ρ st, I xs ρ st → Wp (evSs Φ r ρ st) Q) : Wp (evSs Φ (.cons (.for tg it body) r) ρ st) Q := by
  refine wp_seq ?_
  have e : evS Φ (.for tg it body) ρ st = (evI Φ it ρ st).s ρ fun p st => forL (fun x ρ st => (asT Φ tg x ρ st).s ρ fun ρ st => evSs Φ body ρ st) p.2 p.1 ρ st := by simp only [evS]
  rw [e, hi]
  refine forL_wp (f := fun x ρ st => (asT Φ tg x ρ st).s ρ fun ρ st => evSs Φ body ρ st) enc I hok xs [] ρ st' h0 (fun d x r' ρ st e hI => ?_) (fun ρ st q => hq ρ st (by simpa using q))
  obtain ⟨ρ0, st0, e0, w⟩ := hs d x r' ρ st (by simpa using e) hI
  rw [e0]
  refine Wp.imp w fun f st q => ?_
  cases f with
  | next _ => exact q
  | cont _ => exact q
  | brk _ => exact q
  | ret v => exact q
/-- a def that hands back v -/
theorem run_wp {d : Def} {ds : List D} {v : D} (ha : ds.length = d.ar) (hd : d.drop = false) (h : Wp (evSs Φ d.body (startE d.sz ds) st) fun f st1 => f = .ret v ∧ st1 = st') : runD Φ d ds st = .ok v st' := by
  obtain ⟨f, st1, e, rfl, rfl⟩ := h
  exact run_ret ha hd e
theorem range_split {n : Nat} {d : List Nat} {x : Nat} {r : List Nat} (h : List.range n = d ++ x :: r) : d = List.range x ∧ x < n := by
  have e : (List.range n)[d.length]? = some x := by rw [h]; simp
  have hl : d.length < n := by
    have := congrArg List.length h
    simp at this
    omega
  rw [List.getElem?_range hl] at e
  have hx : d.length = x := Option.some.inj e
  subst hx
  refine ⟨?_, hl⟩
  have q := congrArg (List.take d.length) h
  rw [List.take_left, List.take_range, Nat.min_eq_left (by omega)] at q
  exact q.symm
/-! ### tests and small expressions -/
theorem v_var {i : Nat} {d : D} (h : getV ρ i = some d) : evE Φ (.var i) ρ st = .ok d st := by simp only [evE, h, lift_some]
theorem v_frz {c : Cr} {xs : List D} (h : evC Φ c ρ st = .ok xs st') : evE Φ (.frz c) ρ st = .ok (.lst xs) st' := by simp only [evE, h, R.bind_ok]
theorem v_call1 {f : Nat} {a : Ex} {x : D} {st1 : Store} {X : R D} (h : evE Φ a ρ st = .ok x st1) (h2 : Φ f [x] st1 = X) : evE Φ (.call f (.cons a .nil)) ρ st = X := by simp only [evE, evEs, h, R.bind_ok, h2]
theorem v_call2 {f : Nat} {a b : Ex} {x y : D} {st1 st2 : Store} {X : R D} (h : evE Φ a ρ st = .ok x st1) (h1 : evE Φ b ρ st1 = .ok y st2) (h2 : Φ f [x, y] st2 = X) : evE Φ (.call f (.cons a (.cons b .nil))) ρ st = X := by simp only [evE, evEs, h, h1, R.bind_ok, h2]
theorem v_call3 {f : Nat} {a b c : Ex} {x y z : D} {st1 st2 st3 : Store} {X : R D} (h : evE Φ a ρ st = .ok x st1) (h1 : evE Φ b ρ st1 = .ok y st2) (h3 : evE Φ c ρ st2 = .ok z st3) (h2 : Φ f [x, y, z] st3 = X) : evE Φ (.call f (.cons a (.cons b (.cons c .nil)))) ρ st = X := by simp only [evE, evEs, h, h1, h3, R.bind_ok, h2]
theorem v_call4 {f : Nat} {a b c d : Ex} {x y z w : D} {st1 st2 st3 st4 : Store} {X : R D} (h : evE Φ a ρ st = .ok x st1) (h1 : evE Φ b ρ st1 = .ok y st2) (h3 : evE Φ c ρ st2 = .ok z st3) (h4 : evE Φ d ρ st3 = .ok w st4) (h2 : Φ f [x, y, z, w] st4 = X) :
    evE Φ (.call f (.cons a (.cons b (.cons c (.cons d .nil))))) ρ st = X := by simp only [evE, evEs, h, h1, h3, h4, R.bind_ok, h2]
theorem v_bi1 {b : BI} {a : Ex} {x v : D} {st1 : Store} (h : evE Φ a ρ st = .ok x st1) (h2 : biD b st1 [x] = some v) : evE Φ (.blt b (.cons a .nil)) ρ st = .ok v st1 := by simp only [evE, evEs, h, R.bind_ok, h2, lift_some]
theorem v_idx {a b : Ex} {x y v : D} {st1 st2 : Store} (ha : evE Φ a ρ st = .ok x st1) (hb : evE Φ b ρ st1 = .ok y st2) (h : idxD st2 x y = some v) : evE Φ (.idx a b) ρ st = .ok v st2 := by
  simp only [evE, ha, hb, R.bind_ok, h, lift_some]
theorem t_cmp' {o : Cop} {a b : Ex} {x y : D} {st1 st2 : Store} {k : Bool} (ha : evE Φ a ρ st = .ok x st1) (hb : evE Φ b ρ st1 = .ok y st2) (h : cmpD o st2 x y = some k) : evT Φ (.cmp o a b) ρ st = .ok k st2 := by
  simp only [evT, evE, ha, hb, R.bind_ok, h, lift_some, truD]
theorem t_and' {a b : Ex} {k l : Bool} (ha : evT Φ a ρ st = .ok k st) (hb : k = true → evT Φ b ρ st = .ok l st) : evT Φ (.and a b) ρ st = .ok (k && l) st := by
  simp only [evT, ha, R.bind_ok]
  cases k with
  | false => simp
  | true => simp [hb rfl]
theorem t_or' {a b : Ex} {k l : Bool} (ha : evT Φ a ρ st = .ok k st) (hb : k = false → evT Φ b ρ st = .ok l st) : evT Φ (.or a b) ρ st = .ok (k || l) st := by
  simp only [evT, ha, R.bind_ok]
  cases k with
  | true => simp
  | false => simp [hb rfl]
theorem t_not' {a : Ex} {k : Bool} (ha : evT Φ a ρ st = .ok k st) : evT Φ (.not a) ρ st = .ok (!k) st := by
  simp only [evT, ha, R.bind_ok]
/-- x != x is false -/
theorem ne_self {d : D} (hv : view st d = d) (h : eqD d d = some true) : cmpD .ne st d d = some false := by
  simp only [cmpD, hv, h, Option.map_some, Bool.not_true]
theorem eq_int {i j : Int} : cmpD .eq st (.int i) (.int j) = some (i == j) := by simp [cmpD, view, eqD, eqOk, eqv]
theorem ne_int {i j : Int} : cmpD .ne st (.int i) (.int j) = some (!(i == j)) := by simp [cmpD, view, eqD, eqOk, eqv]
theorem eq_str {i j : Str} : cmpD .eq st (.str i) (.str j) = some (decide (i = j)) := by simp [cmpD, view, eqD]
theorem ne_str {i j : Str} : cmpD .ne st (.str i) (.str j) = some (!(decide (i = j))) := by simp [cmpD, view, eqD]
end B

set_option Elab.async false
set_option linter.all false
set_option maxRecDepth 100000
set_option maxHeartbeats 4000000
/-! Boards: rows by falling score, the earlier ahead of like ones. -/
namespace Bd
set_option autoImplicit false
open PySem
abbrev Row := Int × Str
abbrev Board := List Row
def Fal (b : Board) : Prop := b.Pairwise fun x y => y.1 ≤ x.1
def ins (r : Row) : Board → Board
  | [] => [r]
  | x :: b => if r.1 ≤ x.1 then x :: ins r b else r :: x :: b
def isort (rs : List Row) : Board := rs.foldl (fun b r => ins r b) []
def place (b : Board) (s : Int) : Nat := (b.filter fun r => decide (s ≤ r.1)).length
def placedB (b : Board) (r : Row) (m : Nat) : Board := (b.take (place b r.1) ++ [r] ++ b.drop (place b r.1)).take m
theorem fal_cons {x : Row} {b : Board} : Fal (x :: b) ↔ (∀ y ∈ b, y.1 ≤ x.1) ∧ Fal b := List.pairwise_cons
theorem place_cons_ge {x : Row} {b : Board} {s : Int} (h : s ≤ x.1) : place (x :: b) s = place b s + 1 := by
  unfold place
  rw [List.filter_cons, if_pos (decide_eq_true h)]
  rfl
theorem place_zero {b : Board} {s : Int} (h : ∀ y ∈ b, y.1 < s) : place b s = 0 := by
  unfold place
  rw [List.filter_eq_nil_iff.mpr fun y hy => by
    have := h y hy
    simp
    omega]
  rfl
theorem ins_place {r : Row} : ∀ {b : Board}, Fal b → b.take (place b r.1) ++ [r] ++ b.drop (place b r.1) = ins r b
  | [], _ => rfl
  | x :: b, h => by
    obtain ⟨h1, h2⟩ := fal_cons.mp h
    unfold ins
    by_cases c : r.1 ≤ x.1
    · rw [if_pos c, place_cons_ge c]
      simp only [List.take_succ_cons, List.drop_succ_cons, List.cons_append]
      rw [← ins_place h2]
    · rw [if_neg c]
      have z : place (x :: b) r.1 = 0 := place_zero fun y hy => by
        rcases List.mem_cons.mp hy with rfl | hy
        · omega
        · have := h1 y hy
          omega
      simp [z]
theorem placed_ins {b : Board} (h : Fal b) (r : Row) (m : Nat) : placedB b r m = (ins r b).take m := by
  unfold placedB
  rw [ins_place h]
theorem ins_perm (r : Row) : ∀ b : Board, (ins r b).Perm (r :: b)
  | [] => .refl _
  | x :: b => by
    unfold ins
    split
    · exact ((ins_perm r b).cons x).trans (.swap r x b)
    · exact .refl _
theorem ins_len (r : Row) (b : Board) : (ins r b).length = b.length + 1 := (ins_perm r b).length_eq
theorem ins_fal {r : Row} : ∀ {b : Board}, Fal b → Fal (ins r b)
  | [], _ => List.pairwise_singleton _ _
  | x :: b, h => by
    obtain ⟨h1, h2⟩ := fal_cons.mp h
    unfold ins
    by_cases c : r.1 ≤ x.1
    · rw [if_pos c]
      refine fal_cons.mpr ⟨fun y hy => ?_, ins_fal h2⟩
      rcases List.mem_cons.mp ((ins_perm r b).mem_iff.mp hy) with rfl | hy
      · exact c
      · exact h1 y hy
    · rw [if_neg c]
      refine fal_cons.mpr ⟨fun y hy => ?_, h⟩
      rcases List.mem_cons.mp hy with rfl | hy
      · omega
      · have := h1 y hy
        omega
theorem foldl_perm : ∀ (rs : List Row) (b : Board), (rs.foldl (fun b r => ins r b) b).Perm (b ++ rs)
  | [], b => by simp
  | r :: rs, b => by
    rw [List.foldl_cons]
    refine (foldl_perm rs (ins r b)).trans ?_
    refine ((ins_perm r b).append_right rs).trans ?_
    exact List.perm_middle.symm
theorem foldl_fal : ∀ (rs : List Row) {b : Board}, Fal b → Fal (rs.foldl (fun b r => ins r b) b)
  | [], _, h => h
  | r :: rs, _, h => foldl_fal rs (ins_fal h)
theorem isort_perm (rs : List Row) : (isort rs).Perm rs := by
  have q := foldl_perm rs []
  unfold isort
  simpa using q
theorem isort_fal (rs : List Row) : Fal (isort rs) := foldl_fal rs List.Pairwise.nil
theorem isort_len (rs : List Row) : (isort rs).length = rs.length := (isort_perm rs).length_eq
/-- the first ones are the first ones of more -/
theorem take_ins (r : Row) : ∀ (m : Nat) (b : Board), (ins r (b.take m)).take m = (ins r b).take m
  | 0, _ => rfl
  | m + 1, [] => by simp
  | m + 1, x :: b => by
    rw [List.take_succ_cons]
    unfold ins
    by_cases c : r.1 ≤ x.1
    · rw [if_pos c, if_pos c, List.take_succ_cons, List.take_succ_cons, take_ins r m b]
    · rw [if_neg c, if_neg c, List.take_succ_cons, List.take_succ_cons]
      cases m with
      | zero => rfl
      | succ m => rw [List.take_succ_cons, List.take_succ_cons, List.take_take, Nat.min_eq_left (Nat.le_succ m)]
theorem fal_take {b : Board} (h : Fal b) (m : Nat) : Fal (b.take m) := List.Pairwise.sublist (List.take_sublist m b) h
/-- the program's board: cut at every step -/
def filled (rs : List Row) (m : Nat) (b : Board) : Board := rs.foldl (fun b r => placedB b r m) b
theorem filled_eq (m : Nat) : ∀ (rs : List Row) (b : Board), Fal b → filled rs m (b.take m) = (rs.foldl (fun b r => ins r b) b).take m
  | [], b, _ => rfl
  | r :: rs, b, h => by
    unfold filled
    rw [List.foldl_cons, List.foldl_cons, placed_ins (fal_take h m), take_ins]
    exact filled_eq m rs (ins r b) (ins_fal h)
theorem filled_isort (rs : List Row) (m : Nat) : filled rs m [] = (isort rs).take m := by
  have q := filled_eq m rs [] List.Pairwise.nil
  unfold isort
  simpa using q
/-- two boards merged -/
def merged (one other : Board) : Board := other.foldl (fun b r => placedB b r (b.length + 1)) one
theorem merged_eq : ∀ (other : Board) {one : Board}, Fal one → merged one other = other.foldl (fun b r => ins r b) one
  | [], _, _ => rfl
  | r :: other, one, h => by
    unfold merged
    rw [List.foldl_cons, List.foldl_cons, placed_ins h, List.take_of_length_le (by rw [ins_len]; exact Nat.le_refl _)]
    exact merged_eq other (ins_fal h)
/-! ### a board is told by the rows of each score -/
def at_ (b : Board) (s : Int) : Board := b.filter fun r => decide (r.1 = s)
theorem at_ins {r : Row} {s : Int} : ∀ {b : Board}, Fal b → at_ (ins r b) s = at_ b s ++ (if r.1 = s then [r] else [])
  | [], _ => by
    unfold at_ ins
    by_cases c : r.1 = s <;> simp [c]
  | x :: b, h => by
    obtain ⟨h1, h2⟩ := fal_cons.mp h
    have ih := at_ins (r := r) (s := s) h2
    unfold at_ at ih ⊢
    unfold ins
    by_cases c : r.1 ≤ x.1
    · rw [if_pos c, List.filter_cons, List.filter_cons, ih]
      split <;> simp
    · rw [if_neg c, List.filter_cons (x := r)]
      by_cases e : r.1 = s
      · have no : List.filter (fun r => decide (r.1 = s)) (x :: b) = [] := List.filter_eq_nil_iff.mpr fun y hy => by
          have : y.1 ≤ x.1 := by
            rcases List.mem_cons.mp hy with rfl | hy
            · exact Int.le_refl _
            · exact h1 y hy
          simp
          omega
        rw [no]
        simp [e]
      · simp [e]
theorem at_foldl {s : Int} : ∀ (rs : List Row) {b : Board}, Fal b → at_ (rs.foldl (fun b r => ins r b) b) s = at_ b s ++ at_ rs s
  | [], b, _ => by simp [at_]
  | r :: rs, b, h => by
    rw [List.foldl_cons, at_foldl rs (ins_fal h), at_ins h]
    unfold at_
    rw [List.filter_cons (x := r)]
    by_cases e : r.1 = s <;> simp [e]
theorem at_isort (rs : List Row) (s : Int) : at_ (isort rs) s = at_ rs s := by
  unfold isort
  rw [at_foldl rs (List.Pairwise.nil)]
  rfl
theorem fal_unique : ∀ {b c : Board}, Fal b → Fal c → (∀ s, at_ b s = at_ c s) → b = c
  | [], [], _, _, _ => rfl
  | [], y :: c, _, _, h => by
    have := h y.1
    simp [at_] at this
  | x :: b, [], _, _, h => by
    have := h x.1
    simp [at_] at this
  | x :: b, y :: c, hb, hc, h => by
    obtain ⟨b1, b2⟩ := fal_cons.mp hb
    obtain ⟨c1, c2⟩ := fal_cons.mp hc
    have mem : ∀ {p : Board} {r : Row}, r ∈ p ↔ r ∈ at_ p r.1 := fun {p r} => by simp [at_]
    have hxc : x ∈ y :: c := by rw [mem, ← h]; simp [at_]
    have hyb : y ∈ x :: b := by rw [mem, h]; simp [at_]
    have e : x.1 = y.1 := by
      have l1 : x.1 ≤ y.1 := by
        rcases List.mem_cons.mp hxc with rfl | q
        · exact Int.le_refl _
        · exact c1 x q
      have l2 : y.1 ≤ x.1 := by
        rcases List.mem_cons.mp hyb with rfl | q
        · exact Int.le_refl _
        · exact b1 y q
      omega
    have hx := h x.1
    unfold at_ at hx
    rw [List.filter_cons_of_pos (by simp), List.filter_cons_of_pos (by simp [e])] at hx
    have exy : x = y := (List.cons.inj hx).1
    subst exy
    congr 1
    refine fal_unique b2 c2 fun s => ?_
    have hs := h s
    unfold at_ at hs ⊢
    by_cases q : x.1 = s
    · rw [List.filter_cons_of_pos (by simpa using q), List.filter_cons_of_pos (by simpa using q)] at hs
      exact (List.cons.inj hs).2
    · rw [List.filter_cons_of_neg (by simpa using q), List.filter_cons_of_neg (by simpa using q)] at hs
      exact hs
theorem isort_self {b : Board} (h : Fal b) : isort b = b := fal_unique (isort_fal b) h (at_isort b)
theorem merged_isort (xs ys : List Row) : merged (isort xs) (isort ys) = isort (xs ++ ys) := by
  rw [merged_eq _ (isort_fal xs)]
  refine fal_unique (foldl_fal _ (isort_fal xs)) (isort_fal _) fun s => ?_
  rw [at_foldl _ (isort_fal xs), at_isort, at_isort, at_isort]
  unfold at_
  rw [List.filter_append]
theorem merged_nil (b : Board) : merged b [] = b := rfl
theorem nil_merged {b : Board} (h : Fal b) : merged [] b = b := by
  rw [merged_eq _ List.Pairwise.nil]
  exact isort_self h
/-- of unlike scores the order is nothing -/
theorem isort_any {xs ys : List Row} (p : xs.Perm ys) (h : (xs.map (·.1)).Nodup) : isort xs = isort ys := by
  refine fal_unique (isort_fal _) (isort_fal _) fun s => ?_
  rw [at_isort, at_isort]
  have hp := p.filter (fun r => decide (r.1 = s))
  have hn : (at_ xs s).length ≤ 1 := by
    unfold at_
    clear p hp
    induction xs with
    | nil => simp
    | cons x xs ih =>
      rw [List.map_cons, List.nodup_cons] at h
      rw [List.filter_cons]
      by_cases c : x.1 = s
      · rw [if_pos (decide_eq_true c)]
        have : xs.filter (fun r => decide (r.1 = s)) = [] := List.filter_eq_nil_iff.mpr fun y hy => by
          simp
          intro e
          exact h.1 (List.mem_map.mpr ⟨y, hy, by rw [e, c]⟩)
        rw [this]
        simp
      · rw [if_neg (by simpa using c)]
        exact ih h.2
  unfold at_ at hn ⊢
  generalize xs.filter _ = u at hp hn
  generalize ys.filter _ = v at hp
  match u, hn with
  | [], _ => exact hp.nil_eq
  | [a], _ => exact (List.perm_singleton.mp hp.symm).symm
/-- where a score would stand -/
theorem place_le (b : Board) (s : Int) : place b s ≤ b.length := List.length_filter_le _ _
theorem take_place {s : Int} : ∀ {b : Board}, Fal b → (∀ r ∈ b.take (place b s), s ≤ r.1) ∧ ∀ r ∈ b.drop (place b s), r.1 < s
  | [], _ => by simp
  | x :: b, h => by
    obtain ⟨h1, h2⟩ := fal_cons.mp h
    by_cases c : s ≤ x.1
    · rw [place_cons_ge c, List.take_succ_cons, List.drop_succ_cons]
      obtain ⟨i1, i2⟩ := take_place (s := s) h2
      refine ⟨fun r hr => ?_, i2⟩
      rcases List.mem_cons.mp hr with rfl | hr
      · exact c
      · exact i1 r hr
    · have z : place (x :: b) s = 0 := place_zero fun y hy => by
        rcases List.mem_cons.mp hy with rfl | hy
        · omega
        · have := h1 y hy
          omega
      rw [z, List.take_zero, List.drop_zero]
      refine ⟨fun r hr => (nomatch hr), fun r hr => ?_⟩
      rcases List.mem_cons.mp hr with rfl | hr
      · omega
      · have := h1 r hr
        omega
end Bd

set_option Elab.async false
set_option linter.all false
set_option maxRecDepth 100000
set_option maxHeartbeats 4000000
/-! More plain facts: likeness, sorting, slots. -/
namespace B
set_option autoImplicit false
open PySem
theorem eqv_refl : ∀ (n : Nat) (d : D), eqOk n d = true → eqv d d = true := by
  intro n
  induction n with
  | zero => intro d h; cases d <;> simp_all [eqOk, eqv]
  | succ n ih =>
    have all : ∀ xs : List D, (∀ x ∈ xs, eqOk n x = true) → eqvL xs xs = true := by
      intro xs
      induction xs with
      | nil => intro _; simp [eqvL]
      | cons x xs ihx =>
        intro h
        simp only [eqvL, Bool.and_eq_true]
        exact ⟨ih x (h x List.mem_cons_self), ihx fun y hy => h y (List.mem_cons_of_mem _ hy)⟩
    intro d h
    cases d with
    | tup xs => simp only [eqv]; exact all xs (List.all_eq_true.mp h)
    | lst xs => simp only [eqv]; exact all xs (List.all_eq_true.mp h)
    | non => simp [eqv]
    | bl b => simp [eqv]
    | int i => simp [eqv]
    | str s => simp [eqv]
    | scr _ => cases h
    | ref _ => cases h
    | exc _ => cases h
theorem eq_self {d : D} (h : eqOk 60 d = true) : eqD d d = some true := by
  have r := eqv_refl 60 d h
  cases d <;> simp [eqD, h, r]
theorem ok_ints (n : Nat) (ns : List Int) : eqOk (n + 1) (.lst (ns.map .int)) = true := by
  simp only [eqOk, List.all_map, List.all_eq_true]
  intro x _
  cases n <;> rfl
theorem ok_intsT (n : Nat) (ns : List Int) : eqOk (n + 1) (.tup (ns.map .int)) = true := by
  simp only [eqOk, List.all_map, List.all_eq_true]
  intro x _
  cases n <;> rfl
theorem int_ok (n : Nat) (i : Int) : eqOk n (.int i) = true := by cases n <;> rfl
theorem sortOk_ints (ns : List Int) : sortOk (ns.map .int) = true := by
  unfold sortOk
  have h1 : (ns.map D.int).all (eqOk 50) = true := List.all_eq_true.mpr fun x hx => by
    obtain ⟨i, _, rfl⟩ := List.mem_map.mp hx
    rfl
  have h2 : ((ns.map D.int).all fun a => (ns.map D.int).all fun b => PySem.W.alike (toPd a) (toPd b)) = true := List.all_eq_true.mpr fun x hx => List.all_eq_true.mpr fun y hy => by
    obtain ⟨i, _, rfl⟩ := List.mem_map.mp hx
    obtain ⟨j, _, rfl⟩ := List.mem_map.mp hy
    simp [toPd, PySem.W.alike]
  have h3 : (ns.map D.int).all isKey = true := List.all_eq_true.mpr fun x hx => by
    obtain ⟨i, _, rfl⟩ := List.mem_map.mp hx
    rfl
  rw [h1, h2, h3, Bool.or_true]
  rfl
theorem sortD_down (ns : List Int) : sortD true (ns.map .int) = some ((ns.mergeSort fun a b => decide (b ≤ a)).map .int) := by
  unfold sortD
  rw [if_pos (sortOk_ints ns)]
  have e : ∀ a b : Int, PySem.W.dataLe true toPd (.int a) (.int b) = decide (b ≤ a) := fun a b => congrFun (congrFun (PySem.W.dataGe_int (β := Int) (fun x => x)) a) b
  rw [List.map_mergeSort (s := PySem.W.dataLe true toPd) (f := D.int) (r := fun a b => decide (b ≤ a)) (fun a _ b _ => (e a b).symm)]
theorem sortD_up (ns : List Int) : sortD false (ns.map .int) = some ((ns.mergeSort fun a b => decide (a ≤ b)).map .int) := by
  unfold sortD
  rw [if_pos (sortOk_ints ns)]
  have e : ∀ a b : Int, PySem.W.dataLe false toPd (.int a) (.int b) = decide (a ≤ b) := fun a b => congrFun (congrFun (PySem.W.dataLe_int (β := Int) (fun x => x)) a) b
  rw [List.map_mergeSort (s := PySem.W.dataLe false toPd) (f := D.int) (r := fun a b => decide (a ≤ b)) (fun a _ b _ => (e a b).symm)]
theorem intsOf_map (ns : List Int) : intsOf (ns.map .int) = some ns := by
  induction ns with
  | nil => rfl
  | cons n ns ih => simp [intsOf, ih]
theorem strsOf_map (ns : List Str) : strsOf (ns.map .str) = some ns := by
  induction ns with
  | nil => rfl
  | cons n ns ih => simp [strsOf, ih]
theorem nodup_of_distinct {K : Type} [DecidableEq K] (l : List K) (h : (distinct l).length = l.length) : l.Nodup := by
  have go : ∀ (l acc : List K), acc.Nodup → (l.foldl (fun acc x => if x ∈ acc then acc else acc ++ [x]) acc).length = acc.length + l.length → (acc ++ l).Nodup := by
    intro l
    induction l with
    | nil => intro acc h _; simpa using h
    | cons x l ih =>
      intro acc hn h
      rw [List.foldl_cons] at h
      have le : ∀ (l acc : List K), (l.foldl (fun acc x => if x ∈ acc then acc else acc ++ [x]) acc).length ≤ acc.length + l.length := by
        intro l
        induction l with
        | nil => intro acc; simp
        | cons y l ih =>
          intro acc
          rw [List.foldl_cons]
          refine Nat.le_trans (ih _) ?_
          split <;> simp <;> omega
      by_cases hx : x ∈ acc
      · rw [if_pos hx] at h
        have := le l acc
        simp at h
        omega
      · rw [if_neg hx] at h
        have q := ih (acc ++ [x]) (by
          rw [List.nodup_append]
          exact ⟨hn, by simp, fun a ha b hb => by
            rw [List.mem_singleton] at hb
            subst hb
            exact fun z => hx (z ▸ ha)⟩) (by rw [h]; simp; omega)
        simpa using q
  have q := go l [] List.nodup_nil (by unfold distinct at h; simpa using h)
  simpa using q
end B
namespace Bd
open PySem
theorem scores_sorted (rs : List Row) : (isort rs).map (·.1) = (rs.map (·.1)).mergeSort fun a b => decide (b ≤ a) := by
  refine List.Perm.eq_of_pairwise (le := fun a b : Int => decide (b ≤ a) = true) (fun a b _ _ h1 h2 => ?_) ?_ ?_ ?_
  · have := of_decide_eq_true h1
    have := of_decide_eq_true h2
    omega
  · rw [List.pairwise_map]
    exact (isort_fal rs).imp fun h => decide_eq_true h
  · refine List.pairwise_mergeSort (fun a b c h1 h2 => ?_) (fun a b => ?_) _
    · have := of_decide_eq_true h1
      have := of_decide_eq_true h2
      exact decide_eq_true (by omega)
    · rcases Int.le_total a b with h | h
      · simp [h]
      · simp [h]
  · exact ((isort_perm rs).map _).trans (List.mergeSort_perm _ _).symm
/-- the best of a name is its first -/
theorem best_first {rs : List Row} {nm : Str} {s : Int} {rest : List Int} (h : ((isort rs).filter fun r => decide (r.2 = nm)).map (·.1) = s :: rest) :
    s ∈ (rs.filter fun r => decide (r.2 = nm)).map (·.1) ∧ ∀ y ∈ (rs.filter fun r => decide (r.2 = nm)).map (·.1), y ≤ s := by
  have p : (((isort rs).filter fun r => decide (r.2 = nm)).map (·.1)).Perm ((rs.filter fun r => decide (r.2 = nm)).map (·.1)) := ((isort_perm rs).filter _).map _
  have w : (((isort rs).filter fun r => decide (r.2 = nm)).map (·.1)).Pairwise fun x y => y ≤ x := by
    rw [List.pairwise_map]
    exact List.Pairwise.sublist List.filter_sublist (isort_fal rs)
  rw [h] at p w
  refine ⟨p.mem_iff.mp List.mem_cons_self, fun y hy => ?_⟩
  rcases List.mem_cons.mp (p.mem_iff.mpr hy) with rfl | hy
  · exact Int.le_refl _
  · exact (List.pairwise_cons.mp w).1 y hy
end Bd

set_option Elab.async false
set_option linter.all false
set_option maxRecDepth 100000
set_option maxHeartbeats 4000000
/-! The IR of the defs that many texts share; x tells the places. -/
namespace P
set_option autoImplicit false
open PySem L2 B
def s_x : Str := ""
def s_x0a : Str := "\n"
def s_x20 : Str := " "
def s_0123456789 : Str := "0123456789"
def s_x31202030 : Str := "1  0"
def s_x312030 : Str := "1 0"
def s_x3b20 : Str := "; "
def s_x3b206869742061 : Str := "; hit a"
def s_A : Str := "A"
def s_AWARDS : Str := "AWARDS"
def s_BallError : Str := "BallError"
def s_CALM : Str := "CALM"
def s_DOUBLE : Str := "DOUBLE"
def s_Drain : Str := "Drain"
def s_FIGURES : Str := "FIGURES"
def s_Game : Str := "Game"
def s_x47616d652e5f5f696e69745f5f : Str := "Game.__init__"
def s_x47616d652e616761696e : Str := "Game.again"
def s_x47616d652e646f : Str := "Game.do"
def s_x47616d652e647261696e : Str := "Game.drain"
def s_x47616d652e686974 : Str := "Game.hit"
def s_x47616d652e6c6f67 : Str := "Game.log"
def s_x47616d652e6e75646765 : Str := "Game.nudge"
def s_x47616d652e73636f726573 : Str := "Game.scores"
def s_x47616d652e7374617465 : Str := "Game.state"
def s_x47616d652e7469636b73 : Str := "Game.ticks"
def s_x47616d652e756e646f : Str := "Game.undo"
def s_x47616d652e77686f : Str := "Game.who"
def s_LETTERS : Str := "LETTERS"
def s_MOST_BANKS : Str := "MOST_BANKS"
def s_MOST_BONUS : Str := "MOST_BONUS"
def s_MOST_FACTOR : Str := "MOST_FACTOR"
def s_MOST_NAMES : Str := "MOST_NAMES"
def s_MOST_TARGETS : Str := "MOST_TARGETS"
def s_NO_LOCK : Str := "NO_LOCK"
def s_NoBall : Str := "NoBall"
def s_NoBank : Str := "NoBank"
def s_NoDeed : Str := "NoDeed"
def s_NoName : Str := "NoName"
def s_NoText : Str := "NoText"
def s_ONCE_MORE : Str := "ONCE_MORE"
def s_Play : Str := "Play"
def s_x506c61792e5f5f696e69745f5f : Str := "Play.__init__"
def s_x506c61792e6177617264 : Str := "Play.award"
def s_x506c61792e62616c6c : Str := "Play.ball"
def s_x506c61792e646f75626c6564 : Str := "Play.doubled"
def s_x506c61792e686974 : Str := "Play.hit"
def s_x506c61792e69735f7374696c6c : Str := "Play.is_still"
def s_x506c61792e6c6f6f6b5f666f725f61696d : Str := "Play.look_for_aim"
def s_x506c61792e6c6f6f6b5f666f725f6c6f636b : Str := "Play.look_for_lock"
def s_x506c61792e6e75646765 : Str := "Play.nudge"
def s_x506c61792e7365745f62616c6c : Str := "Play.set_ball"
def s_x506c61792e7374617465 : Str := "Play.state"
def s_x506c61792e74656c6c : Str := "Play.tell"
def s_x506c61792e7469636b : Str := "Play.tick"
def s_ValueError : Str := "ValueError"
def s_WORTH : Str := "WORTH"
def s___init__ : Str := "__init__"
def s___name__ : Str := "__name__"
def s__law_again : Str := "_law_again"
def s__law_aim : Str := "_law_aim"
def s__law_aimed : Str := "_law_aimed"
def s__law_are_ticks : Str := "_law_are_ticks"
def s__law_at : Str := "_law_at"
def s__law_award : Str := "_law_award"
def s__law_awarded : Str := "_law_awarded"
def s__law_awards : Str := "_law_awards"
def s__law_bad : Str := "_law_bad"
def s__law_ball : Str := "_law_ball"
def s__law_balls : Str := "_law_balls"
def s__law_bank : Str := "_law_bank"
def s__law_bank_here : Str := "_law_bank_here"
def s__law_banks : Str := "_law_banks"
def s__law_begun : Str := "_law_begun"
def s__law_behind : Str := "_law_behind"
def s__law_best : Str := "_law_best"
def s__law_best_here : Str := "_law_best_here"
def s__law_better : Str := "_law_better"
def s__law_beyond : Str := "_law_beyond"
def s__law_blend : Str := "_law_blend"
def s__law_board : Str := "_law_board"
def s__law_board_here : Str := "_law_board_here"
def s__law_bonus : Str := "_law_bonus"
def s__law_bonuses : Str := "_law_bonuses"
def s__law_book : Str := "_law_book"
def s__law_book_here : Str := "_law_book_here"
def s__law_books : Str := "_law_books"
def s__law_both : Str := "_law_both"
def s__law_both_now : Str := "_law_both_now"
def s__law_by : Str := "_law_by"
def s__law_cell : Str := "_law_cell"
def s__law_cell_here : Str := "_law_cell_here"
def s__law_cells : Str := "_law_cells"
def s__law_copied : Str := "_law_copied"
def s__law_cut : Str := "_law_cut"
def s__law_do : Str := "_law_do"
def s__law_due : Str := "_law_due"
def s__law_ends : Str := "_law_ends"
def s__law_event : Str := "_law_event"
def s__law_event_here : Str := "_law_event_here"
def s__law_events : Str := "_law_events"
def s__law_extras : Str := "_law_extras"
def s__law_few : Str := "_law_few"
def s__law_filled : Str := "_law_filled"
def s__law_first_one : Str := "_law_first_one"
def s__law_found : Str := "_law_found"
def s__law_fresh : Str := "_law_fresh"
def s__law_gain : Str := "_law_gain"
def s__law_gains : Str := "_law_gains"
def s__law_game : Str := "_law_game"
def s__law_games : Str := "_law_games"
def s__law_gathered : Str := "_law_gathered"
def s__law_goes_down : Str := "_law_goes_down"
def s__law_good : Str := "_law_good"
def s__law_half : Str := "_law_half"
def s__law_happened : Str := "_law_happened"
def s__law_has : Str := "_law_has"
def s__law_has_won : Str := "_law_has_won"
def s__law_here : Str := "_law_here"
def s__law_high : Str := "_law_high"
def s__law_hit : Str := "_law_hit"
def s__law_hits : Str := "_law_hits"
def s__law_is_among : Str := "_law_is_among"
def s__law_is_awarded : Str := "_law_is_awarded"
def s__law_is_bank : Str := "_law_is_bank"
def s__law_is_book : Str := "_law_is_book"
def s__law_is_couple : Str := "_law_is_couple"
def s__law_is_event : Str := "_law_is_event"
def s__law_is_good : Str := "_law_is_good"
def s__law_is_last : Str := "_law_is_last"
def s__law_is_played : Str := "_law_is_played"
def s__law_is_refused : Str := "_law_is_refused"
def s__law_is_right : Str := "_law_is_right"
def s__law_is_same : Str := "_law_is_same"
def s__law_is_target : Str := "_law_is_target"
def s__law_j : Str := "_law_j"
def s__law_jack : Str := "_law_jack"
def s__law_jacked : Str := "_law_jacked"
def s__law_k : Str := "_law_k"
def s__law_kinds : Str := "_law_kinds"
def s__law_lack : Str := "_law_lack"
def s__law_lacks : Str := "_law_lacks"
def s__law_last : Str := "_law_last"
def s__law_later : Str := "_law_later"
def s__law_least : Str := "_law_least"
def s__law_left : Str := "_law_left"
def s__law_lines : Str := "_law_lines"
def s__law_lit : Str := "_law_lit"
def s__law_lives : Str := "_law_lives"
def s__law_lock : Str := "_law_lock"
def s__law_locks : Str := "_law_locks"
def s__law_log : Str := "_law_log"
def s__law_lone : Str := "_law_lone"
def s__law_longer : Str := "_law_longer"
def s__law_lost : Str := "_law_lost"
def s__law_low : Str := "_law_low"
def s__law_many : Str := "_law_many"
def s__law_mine : Str := "_law_mine"
def s__law_mix : Str := "_law_mix"
def s__law_more : Str := "_law_more"
def s__law_most : Str := "_law_most"
def s__law_n : Str := "_law_n"
def s__law_name : Str := "_law_name"
def s__law_names : Str := "_law_names"
def s__law_new : Str := "_law_new"
def s__law_news : Str := "_law_news"
def s__law_next : Str := "_law_next"
def s__law_none : Str := "_law_none"
def s__law_nudge : Str := "_law_nudge"
def s__law_number : Str := "_law_number"
def s__law_odd : Str := "_law_odd"
def s__law_often : Str := "_law_often"
def s__law_one : Str := "_law_one"
def s__law_opened : Str := "_law_opened"
def s__law_order : Str := "_law_order"
def s__law_other : Str := "_law_other"
def s__law_others : Str := "_law_others"
def s__law_part : Str := "_law_part"
def s__law_parts : Str := "_law_parts"
def s__law_place : Str := "_law_place"
def s__law_plain_book : Str := "_law_plain_book"
def s__law_play : Str := "_law_play"
def s__law_player : Str := "_law_player"
def s__law_players : Str := "_law_players"
def s__law_points : Str := "_law_points"
def s__law_points_here : Str := "_law_points_here"
def s__law_points_of : Str := "_law_points_of"
def s__law_prime : Str := "_law_prime"
def s__law_read : Str := "_law_read"
def s__law_rest : Str := "_law_rest"
def s__law_rich : Str := "_law_rich"
def s__law_row : Str := "_law_row"
def s__law_row_here : Str := "_law_row_here"
def s__law_rows : Str := "_law_rows"
def s__law_said : Str := "_law_said"
def s__law_same : Str := "_law_same"
def s__law_save : Str := "_law_save"
def s__law_saved : Str := "_law_saved"
def s__law_score : Str := "_law_score"
def s__law_script : Str := "_law_script"
def s__law_seed : Str := "_law_seed"
def s__law_seeds : Str := "_law_seeds"
def s__law_shaken : Str := "_law_shaken"
def s__law_sign : Str := "_law_sign"
def s__law_signs : Str := "_law_signs"
def s__law_some : Str := "_law_some"
def s__law_state : Str := "_law_state"
def s__law_state_here : Str := "_law_state_here"
def s__law_step : Str := "_law_step"
def s__law_sums : Str := "_law_sums"
def s__law_table : Str := "_law_table"
def s__law_table_here : Str := "_law_table_here"
def s__law_target : Str := "_law_target"
def s__law_targets : Str := "_law_targets"
def s__law_tell : Str := "_law_tell"
def s__law_there : Str := "_law_there"
def s__law_thing : Str := "_law_thing"
def s__law_third : Str := "_law_third"
def s__law_ticked : Str := "_law_ticked"
def s__law_ticks : Str := "_law_ticks"
def s__law_tilted : Str := "_law_tilted"
def s__law_times_now : Str := "_law_times_now"
def s__law_told : Str := "_law_told"
def s__law_turn : Str := "_law_turn"
def s__law_turned : Str := "_law_turned"
def s__law_turns : Str := "_law_turns"
def s__law_two : Str := "_law_two"
def s__law_walked : Str := "_law_walked"
def s__law_warned : Str := "_law_warned"
def s__law_way : Str := "_law_way"
def s__law_what : Str := "_law_what"
def s__law_who : Str := "_law_who"
def s__law_whole : Str := "_law_whole"
def s__law_won : Str := "_law_won"
def s__law_word : Str := "_law_word"
def s__law_word_here : Str := "_law_word_here"
def s__law_words : Str := "_law_words"
def s__wall : Str := "_wall"
def s_a : Str := "a"
def s_x6120312030 : Str := "a 1 0"
def s_x6120313030302030 : Str := "a 1000 0"
def s_ab : Str := "ab"
def s_x6162303139203b0a64726e686974736b : Str := "ab019 ;\ndrnhitsk"
def s_abc : Str := "abc"
def s_abcd : Str := "abcd"
def s_abcde : Str := "abcde"
def s_abcdefgh : Str := "abcdefgh"
def s_abcdefghi : Str := "abcdefghi"
def s_abcdefghijklmn : Str := "abcdefghijklmn"
def s_abcdefghijklmnopqrstuvwxyz : Str := "abcdefghijklmnopqrstuvwxyz"
def s_abcdefgz : Str := "abcdefgz"
def s_aebe : Str := "aebe"
def s_after : Str := "after"
def s_again : Str := "again"
def s_aim : Str := "aim"
def s_x61696d20300a : Str := "aim 0\n"
def s_all : Str := "all"
def s_ann : Str := "ann"
def s_append : Str := "append"
def s_are_targets : Str := "are_targets"
def s_award : Str := "award"
def s_b : Str := "b"
def s_ba : Str := "ba"
def s_ball : Str := "ball"
def s_balls : Str := "balls"
def s_x62616c6c732031 : Str := "balls 1"
def s_x62616c6c732036 : Str := "balls 6"
def s_x62616c6c7461626c65732e61696d696e67 : Str := "balltables.aiming"
def s_x62616c6c7461626c65732e617761726473 : Str := "balltables.awards"
def s_x62616c6c7461626c65732e626f61726473 : Str := "balltables.boards"
def s_x62616c6c7461626c65732e626f6f6b73 : Str := "balltables.books"
def s_x62616c6c7461626c65732e6572726f7273 : Str := "balltables.errors"
def s_x62616c6c7461626c65732e67616d6573 : Str := "balltables.games"
def s_x62616c6c7461626c65732e706c6179696e67 : Str := "balltables.playing"
def s_x62616c6c7461626c65732e72656164696e67 : Str := "balltables.reading"
def s_x62616c6c7461626c65732e737461746573 : Str := "balltables.states"
def s_x62616c6c7461626c65732e73746f72696573 : Str := "balltables.stories"
def s_x62616c6c7461626c65732e77726974696e67 : Str := "balltables.writing"
def s_bank : Str := "bank"
def s_x62616e6b2074696d657320610a : Str := "bank times a\n"
def s_banks : Str := "banks"
def s_bb : Str := "bb"
def s_begun : Str := "begun"
def s_behind : Str := "behind"
def s_best : Str := "best"
def s_best_hits : Str := "best_hits"
def s_best_of : Str := "best_of"
def s_between : Str := "between"
def s_bo : Str := "bo"
def s_board : Str := "board"
def s_bob : Str := "bob"
def s_bonus : Str := "bonus"
def s_book : Str := "book"
def s_book_text : Str := "book_text"
def s_bool : Str := "bool"
def s_c : Str := "c"
def s_calm : Str := "calm"
def s_cd : Str := "cd"
def s_cdcdab : Str := "cdcdab"
def s_count : Str := "count"
def s_cy : Str := "cy"
def s_d : Str := "d"
def s_dark : Str := "dark"
def s_dee : Str := "dee"
def s_dict : Str := "dict"
def s_do : Str := "do"
def s_double : Str := "double"
def s_doubled : Str := "doubled"
def s_drain : Str := "drain"
def s_x647261696e204e6f6e65 : Str := "drain None"
def s_x647261696e2061 : Str := "drain a"
def s_e : Str := "e"
def s_end : Str := "end"
def s_enumerate : Str := "enumerate"
def s_eve : Str := "eve"
def s_event : Str := "event"
def s_event_in : Str := "event_in"
def s_event_text : Str := "event_text"
def s_events : Str := "events"
def s_extend : Str := "extend"
def s_extra : Str := "extra"
def s_factor : Str := "factor"
def s_fewest : Str := "fewest"
def s_first : Str := "first"
def s_found : Str := "found"
def s_fresh : Str := "fresh"
def s_gone : Str := "gone"
def s_had : Str := "had"
def s_had_extra : Str := "had_extra"
def s_happened : Str := "happened"
def s_high : Str := "high"
def s_hit : Str := "hit"
def s_x686974202061 : Str := "hit  a"
def s_x686974206120 : Str := "hit a "
def s_x68697420613b20 : Str := "hit a; "
def s_x68697420613b20647261696e3b207469636b732035 : Str := "hit a; drain; ticks 5"
def s_x68697420613b647261696e : Str := "hit a;drain"
def s_x6869742062 : Str := "hit b"
def s_x68697473206272696e67206e6f7468696e67 : Str := "hits bring nothing"
def s_index : Str := "index"
def s_int : Str := "int"
def s_is_bank : Str := "is_bank"
def s_is_book : Str := "is_book"
def s_is_event : Str := "is_event"
def s_is_letter : Str := "is_letter"
def s_is_name : Str := "is_name"
def s_is_open : Str := "is_open"
def s_is_over : Str := "is_over"
def s_is_pair : Str := "is_pair"
def s_is_still : Str := "is_still"
def s_is_target : Str := "is_target"
def s_is_tilted : Str := "is_tilted"
def s_is_tuple : Str := "is_tuple"
def s_is_whole : Str := "is_whole"
def s_isinstance : Str := "isinstance"
def s_x6974206973207772697474656e206f7468657277697365 : Str := "it is written otherwise"
def s_jack : Str := "jack"
def s_x6a61636b2061 : Str := "jack a"
def s_x6a61636b2062 : Str := "jack b"
def s_join : Str := "join"
def s_k : Str := "k"
def s_law : Str := "law"
def s_law_balltables_k01_books : Str := "law_balltables_k01_books"
def s_law_balltables_k02_begun : Str := "law_balltables_k02_begun"
def s_law_balltables_k03_gone : Str := "law_balltables_k03_gone"
def s_law_balltables_k04_whole_states : Str := "law_balltables_k04_whole_states"
def s_law_balltables_k05_stories : Str := "law_balltables_k05_stories"
def s_law_balltables_k06_whole_stories : Str := "law_balltables_k06_whole_stories"
def s_law_balltables_k07_aims : Str := "law_balltables_k07_aims"
def s_law_balltables_k08_whole_aims : Str := "law_balltables_k08_whole_aims"
def s_law_balltables_k09_boards : Str := "law_balltables_k09_boards"
def s_law_balltables_k10_whole_boards : Str := "law_balltables_k10_whole_boards"
def s_law_balltables_k11_games : Str := "law_balltables_k11_games"
def s_law_balltables_k12_whole_games : Str := "law_balltables_k12_whole_games"
def s_law_balltables_k13_whole_each_alone : Str := "law_balltables_k13_whole_each_alone"
def s_law_balltables_k14_texts : Str := "law_balltables_k14_texts"
def s_law_balltables_k15_whole_no_other_texts : Str := "law_balltables_k15_whole_no_other_texts"
def s_law_balltables_k16_apart : Str := "law_balltables_k16_apart"
def s_law_balltables_k17_whole_all_together : Str := "law_balltables_k17_whole_all_together"
def s_law_balltables_k18_whole_hits_counted : Str := "law_balltables_k18_whole_hits_counted"
def s_law_balltables_k19_whole_a_bank_lit : Str := "law_balltables_k19_whole_a_bank_lit"
def s_law_balltables_k20_whole_balls_locked : Str := "law_balltables_k20_whole_balls_locked"
def s_law_balltables_k21_whole_saved_once : Str := "law_balltables_k21_whole_saved_once"
def s_law_balltables_k22_whole_nudged_and_tilted : Str := "law_balltables_k22_whole_nudged_and_tilted"
def s_law_balltables_k23_whole_turns_in_a_ring : Str := "law_balltables_k23_whole_turns_in_a_ring"
def s_law_balltables_k24_whole_double_for_a_while : Str := "law_balltables_k24_whole_double_for_a_while"
def s_law_balltables_k25_whole_won_once : Str := "law_balltables_k25_whole_won_once"
def s_law_balltables_k26_whole_same_games : Str := "law_balltables_k26_whole_same_games"
def s_law_balltables_k27_whole_boards_in_any_order : Str := "law_balltables_k27_whole_boards_in_any_order"
def s_law_balltables_k28_whole_aims_step_by_step : Str := "law_balltables_k28_whole_aims_step_by_step"
def s_leaders : Str := "leaders"
def s_left : Str := "left"
def s_len : Str := "len"
def s_line : Str := "line"
def s_lines : Str := "lines"
def s_lines_of : Str := "lines_of"
def s_list : Str := "list"
def s_lit : Str := "lit"
def s_lock : Str := "lock"
def s_x6c6f636b206120320a : Str := "lock a 2\n"
def s_log : Str := "log"
def s_longer : Str := "longer"
def s_look_for_aim : Str := "look_for_aim"
def s_look_for_lock : Str := "look_for_lock"
def s_low : Str := "low"
def s_many : Str := "many"
def s_max : Str := "max"
def s_merged : Str := "merged"
def s_min : Str := "min"
def s_most : Str := "most"
def s_must : Str := "must"
def s_must_count : Str := "must_count"
def s_name : Str := "name"
def s_names : Str := "names"
def s_names_of : Str := "names_of"
def s_new : Str := "new"
def s_next_player : Str := "next_player"
def s_x6e6f2062616c6c : Str := "no ball"
def s_x6e6f2062616e6b : Str := "no bank"
def s_x6e6f2064656564 : Str := "no deed"
def s_x6e6f206e616d65 : Str := "no name"
def s_x6e6f2074657874 : Str := "no text"
def s_now : Str := "now"
def s_nudge : Str := "nudge"
def s_x6e756467653b203b : Str := "nudge; ;"
def s_nudges : Str := "nudges"
def s_x6e756467657320310a : Str := "nudges 1\n"
def s_number : Str := "number"
def s_number_in : Str := "number_in"
def s_numbers : Str := "numbers"
def s_one : Str := "one"
def s_only : Str := "only"
def s_open : Str := "open"
def s_other : Str := "other"
def s_over : Str := "over"
def s_pair_in : Str := "pair_in"
def s_partition : Str := "partition"
def s_past : Str := "past"
def s_place : Str := "place"
def s_place_of : Str := "place_of"
def s_placed : Str := "placed"
def s_play : Str := "play"
def s_player : Str := "player"
def s_players : Str := "players"
def s_points : Str := "points"
def s_pop : Str := "pop"
def s_range : Str := "range"
def s_read_book : Str := "read_book"
def s_read_row : Str := "read_row"
def s_replace : Str := "replace"
def s_replayed : Str := "replayed"
def s_rest : Str := "rest"
def s_rises : Str := "rises"
def s_row : Str := "row"
def s_row_text : Str := "row_text"
def s_rows_of : Str := "rows_of"
def s_save : Str := "save"
def s_x736176652030 : Str := "save 0"
def s_x7361766520300a : Str := "save 0\n"
def s_x73617665203030 : Str := "save 00"
def s_saved : Str := "saved"
def s_saves : Str := "saves"
def s_score : Str := "score"
def s_scores : Str := "scores"
def s_scores_states : Str := "scores_states"
def s_self : Str := "self"
def s_set : Str := "set"
def s_set_ball : Str := "set_ball"
def s_sign : Str := "sign"
def s_some : Str := "some"
def s_sorted : Str := "sorted"
def s_split : Str := "split"
def s_state : Str := "state"
def s_step : Str := "step"
def s_story : Str := "story"
def s_str : Str := "str"
def s_sum : Str := "sum"
def s_target : Str := "target"
def s_x7461726765742061203120300a : Str := "target a 1 0\n"
def s_x7461726765742061203120300a6a61636b206120310a7361766520300a6e756467657320310a62616c6c7320310a : Str := "target a 1 0\njack a 1\nsave 0\nnudges 1\nballs 1\n"
def s_target_of : Str := "target_of"
def s_targets : Str := "targets"
def s_tell : Str := "tell"
def s_text : Str := "text"
def s_x7468657265206973206e6f6e65 : Str := "there is none"
def s_thing : Str := "thing"
def s_tick : Str := "tick"
def s_ticks : Str := "ticks"
def s_x7469636b73202d31 : Str := "ticks -1"
def s_x7469636b73203035 : Str := "ticks 05"
def s_x7469636b73203120 : Str := "ticks 1 "
def s_x7469636b7320313b2020647261696e : Str := "ticks 1;  drain"
def s_tilt : Str := "tilt"
def s_tilted : Str := "tilted"
def s_times : Str := "times"
def s_told : Str := "told"
def s_truth : Str := "truth"
def s_tuple : Str := "tuple"
def s_turn : Str := "turn"
def s_turns_of : Str := "turns_of"
def s_undo : Str := "undo"
def s_upper : Str := "upper"
def s_warn : Str := "warn"
def s_warns : Str := "warns"
def s_who : Str := "who"
def s_won : Str := "won"
def s_word : Str := "word"
def s_words : Str := "words"
def s_wrong : Str := "wrong"
def s_x780a : Str := "x\n"
def s_z : Str := "z"
def s_zip : Str := "zip"
structure Ix where
  (i_is_whole : Nat := 9999)
  (i_is_tuple : Nat := 9999)
  (i_is_letter : Nat := 9999)
  (i_is_target : Nat := 9999)
  (i_is_name : Nat := 9999)
  (i_rises : Nat := 9999)
  (i_is_bank : Nat := 9999)
  (i_is_pair : Nat := 9999)
  (i_are_targets : Nat := 9999)
  (i_is_book : Nat := 9999)
  (i_names_of : Nat := 9999)
  (i_is_event : Nat := 9999)
  (i__law_cell : Nat := 9999)
  (i__law_mix : Nat := 9999)
  (i__law_bank : Nat := 9999)
  (i__law_book : Nat := 9999)
  (i__law_event : Nat := 9999)
  (i__law_odd : Nat := 9999)
  (i__law_whole : Nat := 9999)
  (i__law_has : Nat := 9999)
  (i__law_is_among : Nat := 9999)
  (i__law_is_target : Nat := 9999)
  (i__law_is_bank : Nat := 9999)
  (i__law_is_couple : Nat := 9999)
  (i__law_is_book : Nat := 9999)
  (i__law_is_event : Nat := 9999)
  (i_fresh : Nat := 9999)
  (i_begun : Nat := 9999)
  (i_scores : Nat := 9999)
  (i_is_over : Nat := 9999)
  (i_leaders : Nat := 9999)
  (i_target_of : Nat := 9999)
  (i__law_same : Nat := 9999)
  (i__law_row : Nat := 9999)
  (i__law_fresh : Nat := 9999)
  (i__law_begun : Nat := 9999)
  (i__law_state : Nat := 9999)
  (i__law_tell : Nat := 9999)
  (i__law_aimed : Nat := 9999)
  (i__law_locks : Nat := 9999)
  (i__law_awarded : Nat := 9999)
  (i__law_hit : Nat := 9999)
  (i__law_next : Nat := 9999)
  (i__law_lost : Nat := 9999)
  (i__law_shaken : Nat := 9999)
  (i__law_ticked : Nat := 9999)
  (i__law_step : Nat := 9999)
  (i__law_word : Nat := 9999)
  (i__law_said : Nat := 9999)
  (i_Play_init : Nat := 9999)
  (i_Play_set_ball : Nat := 9999)
  (i_Play_ball : Nat := 9999)
  (i_Play_state : Nat := 9999)
  (i_Play_tell : Nat := 9999)
  (i_Play_doubled : Nat := 9999)
  (i_Play_look_for_aim : Nat := 9999)
  (i_Play_hit : Nat := 9999)
  (i_Play_look_for_lock : Nat := 9999)
  (i_Play_award : Nat := 9999)
  (i_Play_nudge : Nat := 9999)
  (i_Play_tick : Nat := 9999)
  (i_Play_is_still : Nat := 9999)
  (i_next_player : Nat := 9999)
  (i_drain : Nat := 9999)
  (i_step : Nat := 9999)
  (i_gone : Nat := 9999)
  (i_after : Nat := 9999)
  (i__law_is_good : Nat := 9999)
  (i__law_are_ticks : Nat := 9999)
  (i_story : Nat := 9999)
  (i_replayed : Nat := 9999)
  (i_turns_of : Nat := 9999)
  (i__law_is_played : Nat := 9999)
  (i_must_count : Nat := 9999)
  (i_dark : Nat := 9999)
  (i_fewest : Nat := 9999)
  (i_rows_of : Nat := 9999)
  (i_best_hits : Nat := 9999)
  (i__law_copied : Nat := 9999)
  (i__law_best : Nat := 9999)
  (i__law_points : Nat := 9999)
  (i__law_awards : Nat := 9999)
  (i_place_of : Nat := 9999)
  (i_placed : Nat := 9999)
  (i_best_of : Nat := 9999)
  (i_merged : Nat := 9999)
  (i__law_board : Nat := 9999)
  (i__law_filled : Nat := 9999)
  (i_Game_init : Nat := 9999)
  (i_Game_do : Nat := 9999)
  (i_Game_hit : Nat := 9999)
  (i_Game_drain : Nat := 9999)
  (i_Game_nudge : Nat := 9999)
  (i_Game_ticks : Nat := 9999)
  (i_Game_state : Nat := 9999)
  (i_Game_scores : Nat := 9999)
  (i_Game_who : Nat := 9999)
  (i_Game_log : Nat := 9999)
  (i_Game_undo : Nat := 9999)
  (i_Game_again : Nat := 9999)
  (i__law_told : Nat := 9999)
  (i__law_walked : Nat := 9999)
  (i__law_do : Nat := 9999)
  (i_event_text : Nat := 9999)
  (i_row_text : Nat := 9999)
  (i_line : Nat := 9999)
  (i_book_text : Nat := 9999)
  (i_must : Nat := 9999)
  (i_number_in : Nat := 9999)
  (i_event_in : Nat := 9999)
  (i_read_row : Nat := 9999)
  (i_lines_of : Nat := 9999)
  (i_only : Nat := 9999)
  (i_pair_in : Nat := 9999)
  (i_read_book : Nat := 9999)
  (i__law_lines : Nat := 9999)
  (i__law_words : Nat := 9999)
  (i__law_read : Nat := 9999)
  (i__law_is_right : Nat := 9999)
  (i__wall : Nat := 9999)
  (i__law_lives : Nat := 9999)
  (i__law_table : Nat := 9999)
  (i__law_hits : Nat := 9999)
  (i__law_points_of : Nat := 9999)
  (i__law_is_awarded : Nat := 9999)
  (i__law_is_refused : Nat := 9999)
  (i__law_is_same : Nat := 9999)
  (i__law_gain : Nat := 9999)
  (i__law_goes_down : Nat := 9999)
  (i_law : Nat := 9999)
  (e_BallError : Nat := 9999)
  (e_NoName : Nat := 9999)
  (e_NoBank : Nat := 9999)
  (e_NoBall : Nat := 9999)
  (e_NoDeed : Nat := 9999)
  (e_NoText : Nat := 9999)
def d_is_target (x : Ix) : Ss := (.cons (.ife (.or (.not (.call x.i_is_tuple (.cons (.var 0) (.cons (.con (.int 3)) .nil)))) (.not (.call x.i_is_letter (.cons (.idx (.var 0) (.con (.int 0))) .nil)))) (.cons (.ret (.con (.bl false))) .nil) .nil) (.cons (.ret (.and (.call x.i_is_whole (.cons (.idx (.var 0) (.con (.int 1))) (.cons (.con (.int 1)) (.cons (.con (.int 999)) .nil)))) (.call x.i_is_whole (.cons (.idx (.var 0) (.con (.int 2))) (.cons (.con (.int 0)) (.cons (.con (.int 9)) .nil)))))) .nil))
def d_rises (x : Ix) : Ss := (.cons (.ret (.blt .all (.cons (.frz (.comp (.cmp .lt (.idx (.var 0) (.bin .sub (.var 1) (.con (.int 1)))) (.idx (.var 0) (.var 1))) (.nm 1) (.rng2 (.con (.int 1)) (.blt .len (.cons (.var 0) .nil))) .none [1])) .nil))) .nil)
def d_is_pair (x : Ix) : Ss := (.cons (.ret (.and (.call x.i_is_tuple (.cons (.var 1) (.cons (.con (.int 2)) .nil))) (.and (.call x.i_is_name (.cons (.var 0) (.cons (.idx (.var 1) (.con (.int 0))) .nil))) (.call x.i_is_whole (.cons (.idx (.var 1) (.con (.int 1))) (.cons (.var 2) (.cons (.var 3) .nil))))))) .nil)
def d_names_of (x : Ix) : Ss := (.cons (.ret (.blt .tuple (.cons (.frz (.comp (.idx (.var 1) (.con (.int 0))) (.nm 1) (.val (.idx (.var 0) (.con (.int 0)))) .none [1])) .nil))) .nil)
def d__law_cell (x : Ix) : Ss := (.cons (.ife (.cmp .lt (.var 1) (.blt .len (.cons (.var 0) .nil))) (.cons (.ret (.idx (.var 0) (.var 1))) .nil) .nil) (.cons (.ret (.con (.int 0))) .nil))
def d__law_mix (x : Ix) : Ss := (.cons (.asg (.nm 3) (.bin .mod (.bin .mul (.var 0) (.con (.int 48271))) (.var 1))) (.cons (.ret (.bin .mod (.bin .mod (.bin .mul (.var 3) (.bin .add (.var 3) (.con (.int 7)))) (.var 1)) (.var 2))) .nil))
def d__law_bank (x : Ix) : Ss := (.cons (.asg (.nm 2) (.call x.i__law_mix (.cons (.var 0) (.cons (.con (.int 9973)) (.cons (.var 1) .nil))))) (.cons (.asg (.nm 3) (.bin .add (.con (.int 1)) (.call x.i__law_mix (.cons (.var 0) (.cons (.con (.int 9967)) (.cons (.con (.int 2)) .nil)))))) (.cons (.asg (.nm 4) (.frz (.comp (.idx (.con (.str s_abcdefgh)) (.bin .mod (.bin .add (.var 2) (.bin .mul (.var 5) (.var 3))) (.var 1))) (.nm 5) (.rng1 (.bin .add (.con (.int 1)) (.call x.i__law_mix (.cons (.var 0) (.cons (.con (.int 9949)) (.cons (.con (.int 4)) .nil)))))) .none [5]))) (.cons (.ret (.tup (.cons (.blt .tuple (.cons (.frz (.sset (.var 4))) .nil)) (.cons (.idx (.tup (.cons (.con (.str s_times)) (.cons (.con (.str s_double)) (.cons (.con (.str s_extra)) (.cons (.con (.str s_open)) .nil))))) (.call x.i__law_mix (.cons (.var 0) (.cons (.con (.int 9941)) (.cons (.con (.int 4)) .nil))))) .nil)))) .nil))))
def d__law_book (x : Ix) : Ss := (.cons (.asg (.nm 1) (.bin .add (.con (.int 1)) (.call x.i__law_mix (.cons (.var 0) (.cons (.con (.int 9931)) (.cons (.con (.int 6)) .nil)))))) (.cons (.own 2 (.disp .nil)) (.cons (.for (.nm 3) (.rng1 (.var 1)) (.cons (.oapp 2 (.tup (.cons (.idx (.con (.str s_abcdefgh)) (.var 3)) (.cons (.bin .add (.con (.int 1)) (.call x.i__law_mix (.cons (.bin .add (.var 0) (.bin .mul (.con (.int 7)) (.var 3))) (.cons (.con (.int 9929)) (.cons (.con (.int 999)) .nil))))) (.cons (.call x.i__law_mix (.cons (.bin .add (.var 0) (.bin .mul (.con (.int 11)) (.var 3))) (.cons (.con (.int 9923)) (.cons (.con (.int 10)) .nil)))) .nil))))) .nil)) (.cons (.asg (.nm 4) (.blt .tuple (.cons (.frz (.comp (.call x.i__law_bank (.cons (.bin .add (.var 0) (.bin .mul (.con (.int 29)) (.var 3))) (.cons (.var 1) .nil))) (.nm 3) (.rng1 (.call x.i__law_mix (.cons (.var 0) (.cons (.con (.int 9907)) (.cons (.con (.int 5)) .nil))))) .none [3])) .nil))) (.cons (.asg (.nm 5) (.tup (.cons (.idx (.con (.str s_abcdefgh)) (.call x.i__law_mix (.cons (.var 0) (.cons (.con (.int 9901)) (.cons (.var 1) .nil))))) (.cons (.bin .add (.con (.int 2)) (.call x.i__law_mix (.cons (.var 0) (.cons (.con (.int 9887)) (.cons (.con (.int 2)) .nil))))) .nil)))) (.cons (.asg (.nm 5) (.ife (.cmp .gt (.call x.i__law_mix (.cons (.var 0) (.cons (.con (.int 9883)) (.cons (.con (.int 5)) .nil)))) (.con (.int 0))) (.var 5) (.con (.non)))) (.cons (.asg (.nm 6) (.tup (.cons (.idx (.con (.str s_abcdefgh)) (.call x.i__law_mix (.cons (.var 0) (.cons (.con (.int 9871)) (.cons (.var 1) .nil))))) (.cons (.bin .add (.con (.int 1)) (.call x.i__law_mix (.cons (.var 0) (.cons (.con (.int 9859)) (.cons (.con (.int 9999)) .nil))))) .nil)))) (.cons (.asg (.nm 7) (.ife (.cmp .gt (.call x.i__law_mix (.cons (.var 0) (.cons (.con (.int 9851)) (.cons (.con (.int 3)) .nil)))) (.con (.int 0))) (.bin .add (.con (.int 1)) (.call x.i__law_mix (.cons (.var 0) (.cons (.con (.int 9857)) (.cons (.con (.int 9000)) .nil))))) (.con (.non)))) (.cons (.asg (.nm 8) (.tup (.cons (.ife (.cmp .gt (.call x.i__law_mix (.cons (.var 0) (.cons (.con (.int 9833)) (.cons (.con (.int 3)) .nil)))) (.con (.int 0))) (.call x.i__law_mix (.cons (.var 0) (.cons (.con (.int 9839)) (.cons (.con (.int 31)) .nil)))) (.con (.int 0))) (.cons (.bin .add (.con (.int 1)) (.call x.i__law_mix (.cons (.var 0) (.cons (.con (.int 9829)) (.cons (.con (.int 3)) .nil))))) .nil)))) (.cons (.frz 2) (.cons (.ret (.bin .add (.bin .add (.tup (.cons (.blt .tuple (.cons (.var 2) .nil)) (.cons (.var 4) (.cons (.var 5) (.cons (.var 6) .nil))))) (.var 8)) (.tup (.cons (.bin .add (.con (.int 1)) (.call x.i__law_mix (.cons (.var 0) (.cons (.con (.int 9817)) (.cons (.con (.int 4)) .nil))))) (.cons (.var 7) .nil))))) .nil)))))))))))
def d__law_event (x : Ix) : Ss := (.cons (.asg (.nm 2) (.call x.i__law_mix (.cons (.var 0) (.cons (.con (.int 9811)) (.cons (.con (.int 16)) .nil))))) (.cons (.ife (.cmp .lt (.var 2) (.con (.int 10))) (.cons (.ret (.tup (.cons (.con (.str s_hit)) (.cons (.idx (.idx (.idx (.var 1) (.con (.int 0))) (.call x.i__law_mix (.cons (.var 0) (.cons (.con (.int 9803)) (.cons (.blt .len (.cons (.idx (.var 1) (.con (.int 0))) .nil)) .nil))))) (.con (.int 0))) .nil)))) .nil) .nil) (.cons (.ife (.cmp .lt (.var 2) (.con (.int 12))) (.cons (.ret (.tup (.cons (.con (.str s_drain)) (.cons (.con (.non)) .nil)))) .nil) .nil) (.cons (.ife (.cmp .eq (.var 2) (.con (.int 12))) (.cons (.ret (.tup (.cons (.con (.str s_nudge)) (.cons (.con (.non)) .nil)))) .nil) .nil) (.cons (.ret (.tup (.cons (.con (.str s_ticks)) (.cons (.idx (.tup (.cons (.con (.int 0)) (.cons (.con (.int 1)) (.cons (.con (.int 3)) (.cons (.con (.int 19)) (.cons (.con (.int 20)) (.cons (.con (.int 31)) (.cons (.con (.int 7)) (.cons (.con (.int 61)) .nil))))))))) (.call x.i__law_mix (.cons (.var 0) (.cons (.con (.int 9791)) (.cons (.con (.int 8)) .nil))))) .nil)))) .nil)))))
def d__law_is_couple (x : Ix) : Ss := (.cons (.ret (.and (.call x.i__law_has (.cons (.var 1) (.cons (.con (.int 2)) .nil))) (.and (.call x.i__law_is_among (.cons (.var 0) (.cons (.idx (.var 1) (.con (.int 0))) .nil))) (.call x.i__law_whole (.cons (.idx (.var 1) (.con (.int 1))) (.cons (.var 2) (.cons (.var 3) .nil))))))) .nil)
def d_fresh (x : Ix) : Ss := (.cons (.ret (.tup (.cons (.con (.int 1)) (.cons (.tup .nil) (.cons (.con (.int 0)) (.cons (.con (.int 1)) (.cons (.con (.int 0)) (.cons (.idx (.var 0) (.con (.int 4))) (.cons (.con (.int 0)) (.cons (.con (.int 0)) (.cons (.con (.bl false)) (.cons (.con (.bl false)) (.cons (.con (.bl false)) .nil))))))))))))) .nil)
def d_begun (x : Ix) : Ss := (.cons (.asg (.nm 2) (.frz (.comp (.tup (.cons (.con (.int 0)) (.cons (.bin .sub (.idx (.var 0) (.con (.int 6))) (.blt .int (.cons (.cmp .eq (.var 3) (.con (.int 0))) .nil))) (.cons (.con (.int 0)) (.cons (.con (.int 0)) (.cons (.con (.bl false)) .nil)))))) (.nm 3) (.rng1 (.var 1)) .none [3]))) (.cons (.ret (.tup (.cons (.con (.int 0)) (.cons (.blt .tuple (.cons (.var 2) .nil)) (.cons (.call x.i_fresh (.cons (.var 0) .nil)) .nil))))) .nil))
def d_scores (x : Ix) : Ss := (.cons (.ret (.blt .tuple (.cons (.frz (.comp (.idx (.var 1) (.con (.int 0))) (.nm 1) (.val (.idx (.var 0) (.con (.int 1)))) .none [1])) .nil))) .nil)
def d_is_over (x : Ix) : Ss := (.cons (.ret (.cmp .is (.idx (.var 0) (.con (.int 0))) (.con (.non)))) .nil)
def d_leaders (x : Ix) : Ss := (.cons (.asg (.nm 1) (.blt .maxL (.cons (.call x.i_scores (.cons (.var 0) .nil)) .nil))) (.cons (.ret (.blt .tuple (.cons (.frz (.comp (.var 2) (.tp (.cons (.nm 2) (.cons (.nm 3) .nil))) (.enum (.call x.i_scores (.cons (.var 0) .nil))) (.some (.cmp .eq (.var 3) (.var 1))) [2, 3])) .nil))) .nil))
def d_leaders_v2 (x : Ix) : Ss := (.cons (.asg (.nm 1) (.blt .maxL (.cons (.call x.i_scores (.cons (.var 0) .nil)) .nil))) (.cons (.ret (.blt .tuple (.cons (.frz (.comp (.var 2) (.tp (.cons (.nm 2) (.cons (.nm 3) .nil))) (.enum (.call x.i_scores (.cons (.var 0) .nil))) (.some (.cmp .eq (.var 3) (.var 1))) [2, 3])) .nil))) .nil))
def d_target_of (x : Ix) : Ss := (.cons (.for (.nm 2) (.val (.idx (.var 0) (.con (.int 0)))) (.cons (.ife (.cmp .eq (.idx (.var 2) (.con (.int 0))) (.var 1)) (.cons (.ret (.var 2)) .nil) .nil) .nil)) (.cons (.raise x.e_NoName s_x7468657265206973206e6f6e65) .nil))
def d__law_row (x : Ix) : Ss := (.cons (.ret (.blt .tuple (.cons (.frz (.comp (.call x.i__law_event (.cons (.bin .add (.var 0) (.bin .mul (.con (.int 41)) (.var 3))) (.cons (.var 1) .nil))) (.nm 3) (.rng1 (.call x.i__law_mix (.cons (.var 0) (.cons (.con (.int 9787)) (.cons (.bin .add (.var 2) (.con (.int 1))) .nil))))) .none [3])) .nil))) .nil)
def d__law_fresh (x : Ix) : Ss := (.cons (.asg (.nm 1) (.dic [s_many, s_lit, s_bonus, s_factor, s_double, s_saves, s_warns, s_calm] (.cons (.con (.int 1)) (.cons (.cel (.disp .nil)) (.cons (.con (.int 0)) (.cons (.con (.int 1)) (.cons (.con (.int 0)) (.cons (.idx (.var 0) (.con (.int 4))) (.cons (.con (.int 0)) (.cons (.con (.int 0)) .nil)))))))))) (.cons (.for (.nm 2) (.val (.tup (.cons (.con (.str s_tilted)) (.cons (.con (.str s_open)) (.cons (.con (.str s_had)) .nil))))) (.cons (.asg (.sb (.var 1) (.var 2)) (.con (.bl false))) .nil)) (.cons (.ret (.var 1)) .nil)))
def d__law_fresh_v2 (x : Ix) : Ss := (.cons (.asg (.nm 1) (.dic [s_many, s_lit, s_bonus, s_factor, s_double, s_saves, s_warns, s_calm] (.cons (.con (.int 1)) (.cons (.cel (.disp .nil)) (.cons (.con (.int 0)) (.cons (.con (.int 1)) (.cons (.con (.int 0)) (.cons (.idx (.var 0) (.con (.int 4))) (.cons (.con (.int 0)) (.cons (.con (.int 0)) .nil)))))))))) (.cons (.for (.nm 2) (.val (.tup (.cons (.con (.str s_tilted)) (.cons (.con (.str s_open)) (.cons (.con (.str s_had)) .nil))))) (.cons (.asg (.sb (.var 1) (.var 2)) (.con (.bl false))) .nil)) (.cons (.ret (.var 1)) .nil)))
def d__law_begun (x : Ix) : Ss := (.cons (.asg (.nm 2) (.frz (.comp (.cel (.disp (.cons (.con (.int 0)) (.cons (.bin .sub (.idx (.var 0) (.con (.int 6))) (.blt .int (.cons (.cmp .eq (.var 3) (.con (.int 0))) .nil))) (.cons (.con (.int 0)) (.cons (.con (.int 0)) (.cons (.con (.bl false)) .nil))))))) (.nm 3) (.rng1 (.var 1)) .none [3]))) (.cons (.ret (.dic [s_who, s_players, s_ball] (.cons (.con (.int 0)) (.cons (.var 2) (.cons (.call x.i__law_fresh (.cons (.var 0) .nil)) .nil))))) .nil))
def d__law_tell (x : Ix) : Ss := (.cons (.expr (.app (.var 1) (.tup (.cons (.idx (.var 0) (.con (.str s_who))) (.cons (.var 2) (.cons (.var 3) .nil)))))) (.cons (.asg (.nm 4) (.idx (.idx (.var 0) (.con (.str s_players))) (.idx (.var 0) (.con (.str s_who))))) (.cons (.asg (.sb (.var 4) (.con (.int 0))) (.bin .add (.idx (.var 4) (.con (.int 0))) (.var 3))) .nil)))
def d__law_tell_v2 (x : Ix) : Ss := (.cons (.expr (.app (.var 1) (.tup (.cons (.idx (.var 0) (.con (.str s_who))) (.cons (.var 2) (.cons (.var 3) .nil)))))) (.cons (.asg (.nm 4) (.idx (.idx (.var 0) (.con (.str s_players))) (.idx (.var 0) (.con (.str s_who))))) (.cons (.asg (.sb (.var 4) (.con (.int 0))) (.bin .add (.idx (.var 4) (.con (.int 0))) (.var 3))) .nil)))
def d__law_aimed (x : Ix) : Ss := (.cons (.asg (.nm 3) (.idx (.idx (.var 1) (.con (.str s_players))) (.idx (.var 1) (.con (.str s_who))))) (.cons (.ife (.and (.cmp .isn (.idx (.var 0) (.con (.int 7))) (.con (.non))) (.and (.cmp .ge (.idx (.var 3) (.con (.int 0))) (.idx (.var 0) (.con (.int 7)))) (.not (.idx (.var 3) (.con (.int 4)))))) (.cons (.asg (.sb (.var 3) (.con (.int 4))) (.con (.bl true))) (.cons (.expr (.call x.i__law_tell (.cons (.var 1) (.cons (.var 2) (.cons (.con (.str s_won)) (.cons (.con (.int 0)) .nil)))))) .nil)) .nil) .nil))
def d__law_locks (x : Ix) : Ss := (.cons (.par2 4 5 (.idx (.var 1) (.con (.str s_ball))) (.idx (.idx (.var 1) (.con (.str s_players))) (.idx (.var 1) (.con (.str s_who))))) (.cons (.ife (.and (.cmp .isn (.idx (.var 0) (.con (.int 2))) (.con (.non))) (.and (.cmp .eq (.idx (.idx (.var 0) (.con (.int 2))) (.con (.int 0))) (.var 3)) (.and (.idx (.var 4) (.con (.str s_open))) (.cmp .eq (.idx (.var 4) (.con (.str s_many))) (.con (.int 1)))))) (.cons (.asg (.tp (.cons (.sb (.var 5) (.con (.int 3))) (.cons (.sb (.var 4) (.con (.str s_open))) (.cons (.sb (.var 4) (.con (.str s_saves))) .nil)))) (.tup (.cons (.bin .add (.idx (.var 5) (.con (.int 3))) (.con (.int 1))) (.cons (.con (.bl false)) (.cons (.idx (.var 0) (.con (.int 4))) .nil))))) (.cons (.expr (.call x.i__law_tell (.cons (.var 1) (.cons (.var 2) (.cons (.con (.str s_lock)) (.cons (.con (.int 0)) .nil)))))) (.cons (.ife (.cmp .ge (.idx (.var 5) (.con (.int 3))) (.idx (.idx (.var 0) (.con (.int 2))) (.con (.int 1)))) (.cons (.asg (.tp (.cons (.sb (.var 5) (.con (.int 3))) (.cons (.sb (.var 4) (.con (.str s_many))) .nil))) (.tup (.cons (.con (.int 0)) (.cons (.idx (.idx (.var 0) (.con (.int 2))) (.con (.int 1))) .nil)))) (.cons (.expr (.call x.i__law_tell (.cons (.var 1) (.cons (.var 2) (.cons (.con (.str s_all)) (.cons (.con (.int 0)) .nil)))))) .nil)) .nil) .nil))) .nil) .nil))
def d__law_awarded (x : Ix) : Ss := (.cons (.par2 4 5 (.idx (.var 1) (.con (.str s_ball))) (.con (.int 0))) (.cons (.ife (.and (.cmp .eq (.var 3) (.con (.str s_times))) (.cmp .lt (.idx (.var 4) (.con (.str s_factor))) (.con (.int 5)))) (.cons (.asg (.sb (.var 4) (.con (.str s_factor))) (.bin .add (.idx (.var 4) (.con (.str s_factor))) (.con (.int 1)))) .nil) .nil) (.cons (.ife (.cmp .eq (.var 3) (.con (.str s_double))) (.cons (.asg (.sb (.var 4) (.con (.str s_double))) (.con (.int 20))) .nil) .nil) (.cons (.ife (.cmp .eq (.var 3) (.con (.str s_extra))) (.cons (.ife (.idx (.var 4) (.con (.str s_had))) (.cons (.asg (.nm 5) (.con (.int 500))) .nil) (.cons (.asg (.nm 6) (.idx (.idx (.var 1) (.con (.str s_players))) (.idx (.var 1) (.con (.str s_who))))) (.cons (.asg (.tp (.cons (.sb (.var 6) (.con (.int 2))) (.cons (.sb (.var 4) (.con (.str s_had))) .nil))) (.tup (.cons (.bin .add (.idx (.var 6) (.con (.int 2))) (.con (.int 1))) (.cons (.con (.bl true)) .nil)))) .nil))) .nil) .nil) (.cons (.ife (.cmp .eq (.var 3) (.con (.str s_open))) (.cons (.ife (.cmp .is (.idx (.var 0) (.con (.int 2))) (.con (.non))) (.cons (.asg (.nm 5) (.con (.int 250))) .nil) (.cons (.asg (.sb (.var 4) (.con (.str s_open))) (.con (.bl true))) .nil)) .nil) .nil) (.cons (.expr (.call x.i__law_tell (.cons (.var 1) (.cons (.var 2) (.cons (.con (.str s_bank)) (.cons (.var 5) .nil)))))) .nil))))))
def d__law_awarded_v2 (x : Ix) : Ss := (.cons (.par2 4 5 (.idx (.var 1) (.con (.str s_ball))) (.con (.int 0))) (.cons (.ife (.and (.cmp .eq (.var 3) (.con (.str s_times))) (.cmp .lt (.idx (.var 4) (.con (.str s_factor))) (.con (.int 5)))) (.cons (.asg (.sb (.var 4) (.con (.str s_factor))) (.bin .add (.idx (.var 4) (.con (.str s_factor))) (.con (.int 1)))) .nil) .nil) (.cons (.ife (.cmp .eq (.var 3) (.con (.str s_double))) (.cons (.asg (.sb (.var 4) (.con (.str s_double))) (.con (.int 20))) .nil) .nil) (.cons (.ife (.cmp .eq (.var 3) (.con (.str s_extra))) (.cons (.ife (.idx (.var 4) (.con (.str s_had))) (.cons (.asg (.nm 5) (.con (.int 500))) .nil) (.cons (.asg (.nm 6) (.idx (.idx (.var 1) (.con (.str s_players))) (.idx (.var 1) (.con (.str s_who))))) (.cons (.asg (.tp (.cons (.sb (.var 6) (.con (.int 2))) (.cons (.sb (.var 4) (.con (.str s_had))) .nil))) (.tup (.cons (.bin .add (.idx (.var 6) (.con (.int 2))) (.con (.int 1))) (.cons (.con (.bl true)) .nil)))) .nil))) .nil) .nil) (.cons (.ife (.cmp .eq (.var 3) (.con (.str s_open))) (.cons (.ife (.cmp .is (.idx (.var 0) (.con (.int 2))) (.con (.non))) (.cons (.asg (.nm 5) (.con (.int 250))) .nil) (.cons (.asg (.sb (.var 4) (.con (.str s_open))) (.con (.bl true))) .nil)) .nil) .nil) (.cons (.expr (.call x.i__law_tell (.cons (.var 1) (.cons (.var 2) (.cons (.con (.str s_bank)) (.cons (.var 5) .nil)))))) .nil))))))
def d__law_hit (x : Ix) : Ss := (.cons (.asg (.nm 4) (.idx (.var 1) (.con (.str s_ball)))) (.cons (.asg (.nm 5) (.ife (.cmp .gt (.idx (.var 4) (.con (.str s_double))) (.con (.int 0))) (.con (.int 2)) (.con (.int 1)))) (.cons (.asg (.nm 6) (.idx (.frz (.comp (.var 9) (.nm 9) (.val (.idx (.var 0) (.con (.int 0)))) (.some (.cmp .eq (.idx (.var 9) (.con (.int 0))) (.var 3))) [9])) (.con (.int 0)))) (.cons (.expr (.call x.i__law_tell (.cons (.var 1) (.cons (.var 2) (.cons (.con (.str s_hit)) (.cons (.bin .mul (.var 5) (.idx (.var 6) (.con (.int 1)))) .nil)))))) (.cons (.asg (.sb (.var 4) (.con (.str s_bonus))) (.blt .min2 (.cons (.con (.int 99)) (.cons (.bin .add (.idx (.var 4) (.con (.str s_bonus))) (.idx (.var 6) (.con (.int 2)))) .nil)))) (.cons (.ife (.and (.cmp .gt (.idx (.var 4) (.con (.str s_many))) (.con (.int 1))) (.cmp .eq (.idx (.idx (.var 0) (.con (.int 3))) (.con (.int 0))) (.var 3))) (.cons (.expr (.call x.i__law_tell (.cons (.var 1) (.cons (.var 2) (.cons (.con (.str s_jack)) (.cons (.bin .mul (.var 5) (.idx (.idx (.var 0) (.con (.int 3))) (.con (.int 1)))) .nil)))))) .nil) .nil) (.cons (.expr (.call x.i__law_locks (.cons (.var 0) (.cons (.var 1) (.cons (.var 2) (.cons (.var 3) .nil)))))) (.cons (.ife (.cmp .nin (.var 3) (.idx (.var 4) (.con (.str s_lit)))) (.cons (.expr (.app (.idx (.var 4) (.con (.str s_lit))) (.var 3))) .nil) .nil) (.cons (.for (.tp (.cons (.nm 7) (.cons (.nm 8) .nil))) (.val (.idx (.var 0) (.con (.int 1)))) (.cons (.ife (.cmp .eq (.frz (.comp (.var 9) (.nm 9) (.val (.var 7)) (.some (.cmp .nin (.var 9) (.idx (.var 4) (.con (.str s_lit))))) [9])) (.frz (.disp .nil))) (.cons (.asg (.sb (.var 4) (.con (.str s_lit))) (.cel (.comp (.var 9) (.nm 9) (.val (.idx (.var 4) (.con (.str s_lit)))) (.some (.cmp .nin (.var 9) (.var 7))) [9]))) (.cons (.expr (.call x.i__law_awarded (.cons (.var 0) (.cons (.var 1) (.cons (.var 2) (.cons (.var 8) .nil)))))) .nil)) .nil) .nil)) (.cons (.expr (.call x.i__law_aimed (.cons (.var 0) (.cons (.var 1) (.cons (.var 2) .nil))))) .nil))))))))))
def d__law_hit_v2 (x : Ix) : Ss := (.cons (.asg (.nm 4) (.idx (.var 1) (.con (.str s_ball)))) (.cons (.asg (.nm 5) (.ife (.cmp .gt (.idx (.var 4) (.con (.str s_double))) (.con (.int 0))) (.con (.int 2)) (.con (.int 1)))) (.cons (.asg (.nm 6) (.idx (.frz (.comp (.var 9) (.nm 9) (.val (.idx (.var 0) (.con (.int 0)))) (.some (.cmp .eq (.idx (.var 9) (.con (.int 0))) (.var 3))) [9])) (.con (.int 0)))) (.cons (.expr (.call x.i__law_tell (.cons (.var 1) (.cons (.var 2) (.cons (.con (.str s_hit)) (.cons (.bin .mul (.var 5) (.idx (.var 6) (.con (.int 1)))) .nil)))))) (.cons (.asg (.sb (.var 4) (.con (.str s_bonus))) (.blt .min2 (.cons (.con (.int 99)) (.cons (.bin .add (.idx (.var 4) (.con (.str s_bonus))) (.idx (.var 6) (.con (.int 2)))) .nil)))) (.cons (.ife (.and (.cmp .gt (.idx (.var 4) (.con (.str s_many))) (.con (.int 1))) (.cmp .eq (.idx (.idx (.var 0) (.con (.int 3))) (.con (.int 0))) (.var 3))) (.cons (.expr (.call x.i__law_tell (.cons (.var 1) (.cons (.var 2) (.cons (.con (.str s_jack)) (.cons (.bin .mul (.var 5) (.idx (.idx (.var 0) (.con (.int 3))) (.con (.int 1)))) .nil)))))) .nil) .nil) (.cons (.expr (.call x.i__law_locks (.cons (.var 0) (.cons (.var 1) (.cons (.var 2) (.cons (.var 3) .nil)))))) (.cons (.ife (.cmp .nin (.var 3) (.idx (.var 4) (.con (.str s_lit)))) (.cons (.expr (.app (.idx (.var 4) (.con (.str s_lit))) (.var 3))) .nil) .nil) (.cons (.for (.tp (.cons (.nm 7) (.cons (.nm 8) .nil))) (.val (.idx (.var 0) (.con (.int 1)))) (.cons (.ife (.cmp .eq (.frz (.comp (.var 9) (.nm 9) (.val (.var 7)) (.some (.cmp .nin (.var 9) (.idx (.var 4) (.con (.str s_lit))))) [9])) (.frz (.disp .nil))) (.cons (.asg (.sb (.var 4) (.con (.str s_lit))) (.cel (.comp (.var 9) (.nm 9) (.val (.idx (.var 4) (.con (.str s_lit)))) (.some (.cmp .nin (.var 9) (.var 7))) [9]))) (.cons (.expr (.call x.i__law_awarded (.cons (.var 0) (.cons (.var 1) (.cons (.var 2) (.cons (.var 8) .nil)))))) .nil)) .nil) .nil)) (.cons (.expr (.call x.i__law_aimed (.cons (.var 0) (.cons (.var 1) (.cons (.var 2) .nil))))) .nil))))))))))
def d__law_lost (x : Ix) : Ss := (.cons (.asg (.nm 3) (.idx (.var 1) (.con (.str s_ball)))) (.cons (.ife (.cmp .gt (.idx (.var 3) (.con (.str s_saves))) (.con (.int 0))) (.cons (.asg (.sb (.var 3) (.con (.str s_saves))) (.con (.int 0))) (.cons (.expr (.call x.i__law_tell (.cons (.var 1) (.cons (.var 2) (.cons (.con (.str s_saved)) (.cons (.con (.int 0)) .nil)))))) .nil)) (.cons (.ife (.cmp .gt (.idx (.var 3) (.con (.str s_many))) (.con (.int 1))) (.cons (.asg (.sb (.var 3) (.con (.str s_many))) (.bin .sub (.idx (.var 3) (.con (.str s_many))) (.con (.int 1)))) .nil) (.cons (.ife (.not (.idx (.var 3) (.con (.str s_tilted)))) (.cons (.expr (.call x.i__law_tell (.cons (.var 1) (.cons (.var 2) (.cons (.con (.str s_bonus)) (.cons (.bin .mul (.bin .mul (.con (.int 10)) (.idx (.var 3) (.con (.str s_bonus)))) (.idx (.var 3) (.con (.str s_factor)))) .nil)))))) (.cons (.expr (.call x.i__law_aimed (.cons (.var 0) (.cons (.var 1) (.cons (.var 2) .nil))))) .nil)) .nil) (.cons (.expr (.call x.i__law_next (.cons (.var 0) (.cons (.var 1) (.cons (.var 2) .nil))))) .nil))) .nil)) .nil))
def d__law_shaken (x : Ix) : Ss := (.cons (.asg (.nm 3) (.idx (.var 1) (.con (.str s_ball)))) (.cons (.asg (.tp (.cons (.sb (.var 3) (.con (.str s_warns))) (.cons (.sb (.var 3) (.con (.str s_calm))) .nil))) (.tup (.cons (.bin .add (.idx (.var 3) (.con (.str s_warns))) (.con (.int 1))) (.cons (.con (.int 30)) .nil)))) (.cons (.expr (.call x.i__law_tell (.cons (.var 1) (.cons (.var 2) (.cons (.con (.str s_warn)) (.cons (.con (.int 0)) .nil)))))) (.cons (.ife (.cmp .gt (.idx (.var 3) (.con (.str s_warns))) (.idx (.var 0) (.con (.int 5)))) (.cons (.asg (.tp (.cons (.sb (.var 3) (.con (.str s_tilted))) (.cons (.sb (.var 3) (.con (.str s_open))) (.cons (.sb (.var 3) (.con (.str s_lit))) .nil)))) (.tup (.cons (.con (.bl true)) (.cons (.con (.bl false)) (.cons (.cel (.disp .nil)) .nil))))) (.cons (.asg (.tp (.cons (.sb (.var 3) (.con (.str s_bonus))) (.cons (.sb (.var 3) (.con (.str s_double))) (.cons (.sb (.var 3) (.con (.str s_saves))) .nil)))) (.tup (.cons (.con (.int 0)) (.cons (.con (.int 0)) (.cons (.con (.int 0)) .nil))))) (.cons (.expr (.call x.i__law_tell (.cons (.var 1) (.cons (.var 2) (.cons (.con (.str s_tilt)) (.cons (.con (.int 0)) .nil)))))) .nil))) .nil) .nil))))
def d__law_ticked (x : Ix) : Ss := (.cons (.for (.nm 1) (.val (.tup (.cons (.con (.str s_double)) (.cons (.con (.str s_saves)) .nil)))) (.cons (.asg (.sb (.var 0) (.var 1)) (.bin .sub (.idx (.var 0) (.var 1)) (.blt .int (.cons (.cmp .gt (.idx (.var 0) (.var 1)) (.con (.int 0))) .nil)))) .nil)) (.cons (.ife (.cmp .gt (.idx (.var 0) (.con (.str s_calm))) (.con (.int 0))) (.cons (.asg (.sb (.var 0) (.con (.str s_calm))) (.bin .sub (.idx (.var 0) (.con (.str s_calm))) (.con (.int 1)))) (.cons (.ife (.cmp .eq (.idx (.var 0) (.con (.str s_calm))) (.con (.int 0))) (.cons (.asg (.sb (.var 0) (.con (.str s_warns))) (.bin .sub (.idx (.var 0) (.con (.str s_warns))) (.con (.int 1)))) (.cons (.asg (.sb (.var 0) (.con (.str s_calm))) (.ife (.cmp .gt (.idx (.var 0) (.con (.str s_warns))) (.con (.int 0))) (.con (.int 30)) (.con (.int 0)))) .nil)) .nil) .nil)) .nil) .nil))
def d__law_ticked_v2 (x : Ix) : Ss := (.cons (.for (.nm 1) (.val (.tup (.cons (.con (.str s_double)) (.cons (.con (.str s_saves)) .nil)))) (.cons (.asg (.sb (.var 0) (.var 1)) (.bin .sub (.idx (.var 0) (.var 1)) (.blt .int (.cons (.cmp .gt (.idx (.var 0) (.var 1)) (.con (.int 0))) .nil)))) .nil)) (.cons (.ife (.cmp .gt (.idx (.var 0) (.con (.str s_calm))) (.con (.int 0))) (.cons (.asg (.sb (.var 0) (.con (.str s_calm))) (.bin .sub (.idx (.var 0) (.con (.str s_calm))) (.con (.int 1)))) (.cons (.ife (.cmp .eq (.idx (.var 0) (.con (.str s_calm))) (.con (.int 0))) (.cons (.asg (.sb (.var 0) (.con (.str s_warns))) (.bin .sub (.idx (.var 0) (.con (.str s_warns))) (.con (.int 1)))) (.cons (.asg (.sb (.var 0) (.con (.str s_calm))) (.ife (.cmp .gt (.idx (.var 0) (.con (.str s_warns))) (.con (.int 0))) (.con (.int 30)) (.con (.int 0)))) .nil)) .nil) .nil)) .nil) .nil))
def d__law_step (x : Ix) : Ss := (.cons (.asg (.nm 3) (.cel (.disp .nil))) (.cons (.ife (.cmp .is (.idx (.var 1) (.con (.str s_who))) (.con (.non))) (.cons (.ret (.var 3)) .nil) .nil) (.cons (.ife (.cmp .eq (.idx (.var 2) (.con (.int 0))) (.con (.str s_ticks))) (.cons (.for (.nm 4) (.rng1 (.idx (.var 2) (.con (.int 1)))) (.cons (.expr (.call x.i__law_ticked (.cons (.idx (.var 1) (.con (.str s_ball))) .nil))) .nil)) .nil) (.cons (.ife (.cmp .eq (.idx (.var 2) (.con (.int 0))) (.con (.str s_drain))) (.cons (.expr (.call x.i__law_lost (.cons (.var 0) (.cons (.var 1) (.cons (.var 3) .nil))))) .nil) (.cons (.ife (.not (.idx (.idx (.var 1) (.con (.str s_ball))) (.con (.str s_tilted)))) (.cons (.ife (.cmp .eq (.idx (.var 2) (.con (.int 0))) (.con (.str s_hit))) (.cons (.expr (.call x.i__law_hit (.cons (.var 0) (.cons (.var 1) (.cons (.var 3) (.cons (.idx (.var 2) (.con (.int 1))) .nil)))))) .nil) (.cons (.expr (.call x.i__law_shaken (.cons (.var 0) (.cons (.var 1) (.cons (.var 3) .nil))))) .nil)) .nil) .nil) .nil)) .nil)) (.cons (.ret (.var 3)) .nil))))
def d_Play_init (x : Ix) : Ss := (.cons (.asg (.fl (.var 0) s_book) (.var 1)) (.cons (.asg (.fl (.var 0) s_turn) (.idx (.var 2) (.con (.int 0)))) (.cons (.asg (.fl (.var 0) s_players) (.frz (.comp (.cel (.copy (.var 3))) (.nm 3) (.val (.idx (.var 2) (.con (.int 1)))) .none [3]))) (.cons (.asg (.fl (.var 0) s_happened) (.cel (.disp .nil))) (.cons (.expr (.meth x.i_Play_set_ball x.i_Play_init s_set_ball (.var 0) (.cons (.idx (.var 2) (.con (.int 2))) .nil))) .nil)))))
def d_Play_set_ball (x : Ix) : Ss := (.cons (.asg (.tp (.cons (.fl (.var 0) s_many) (.cons (.fl (.var 0) s_lit) (.cons (.fl (.var 0) s_bonus) (.cons (.fl (.var 0) s_factor) (.cons (.fl (.var 0) s_double) .nil)))))) (.slc (.var 1) .none (.some (.con (.int 5))))) (.cons (.asg (.tp (.cons (.fl (.var 0) s_saves) (.cons (.fl (.var 0) s_warns) (.cons (.fl (.var 0) s_calm) (.cons (.fl (.var 0) s_is_tilted) (.cons (.fl (.var 0) s_is_open) (.cons (.fl (.var 0) s_had_extra) .nil))))))) (.slc (.var 1) (.some (.con (.int 5))) .none)) .nil))
def d_Play_ball (x : Ix) : Ss := (.cons (.asg (.nm 1) (.tup (.cons (.fld (.var 0) s_many) (.cons (.fld (.var 0) s_lit) (.cons (.fld (.var 0) s_bonus) (.cons (.fld (.var 0) s_factor) (.cons (.fld (.var 0) s_double) .nil))))))) (.cons (.ret (.bin .add (.var 1) (.tup (.cons (.fld (.var 0) s_saves) (.cons (.fld (.var 0) s_warns) (.cons (.fld (.var 0) s_calm) (.cons (.fld (.var 0) s_is_tilted) (.cons (.fld (.var 0) s_is_open) (.cons (.fld (.var 0) s_had_extra) .nil))))))))) .nil))
def d_Play_state (x : Ix) : Ss := (.cons (.asg (.nm 1) (.blt .tuple (.cons (.frz (.comp (.blt .tuple (.cons (.var 2) .nil)) (.nm 2) (.val (.fld (.var 0) s_players)) .none [2])) .nil))) (.cons (.ife (.cmp .is (.fld (.var 0) s_turn) (.con (.non))) (.cons (.ret (.tup (.cons (.con (.non)) (.cons (.var 1) (.cons (.con (.non)) .nil))))) .nil) .nil) (.cons (.ret (.tup (.cons (.fld (.var 0) s_turn) (.cons (.var 1) (.cons (.meth x.i_Play_ball x.i_Play_init s_ball (.var 0) .nil) .nil))))) .nil)))
def d_Play_tell (x : Ix) : Ss := (.cons (.expr (.app (.fld (.var 0) s_happened) (.tup (.cons (.fld (.var 0) s_turn) (.cons (.var 1) (.cons (.var 2) .nil)))))) (.cons (.asg (.sb (.idx (.fld (.var 0) s_players) (.fld (.var 0) s_turn)) (.con (.int 0))) (.bin .add (.idx (.idx (.fld (.var 0) s_players) (.fld (.var 0) s_turn)) (.con (.int 0))) (.var 2))) .nil))
def d_Play_doubled (x : Ix) : Ss := (.cons (.ife (.cmp .gt (.fld (.var 0) s_double) (.con (.int 0))) (.cons (.ret (.bin .mul (.con (.int 2)) (.var 1))) .nil) .nil) (.cons (.ret (.var 1)) .nil))
def d_Play_look_for_aim (x : Ix) : Ss := (.cons (.asg (.nm 1) (.idx (.fld (.var 0) s_players) (.fld (.var 0) s_turn))) (.cons (.ife (.and (.cmp .isn (.idx (.fld (.var 0) s_book) (.con (.int 7))) (.con (.non))) (.and (.cmp .ge (.idx (.var 1) (.con (.int 0))) (.idx (.fld (.var 0) s_book) (.con (.int 7)))) (.not (.idx (.var 1) (.con (.int 4)))))) (.cons (.asg (.sb (.var 1) (.con (.int 4))) (.con (.bl true))) (.cons (.expr (.meth x.i_Play_tell x.i_Play_init s_tell (.var 0) (.cons (.con (.str s_won)) (.cons (.con (.int 0)) .nil)))) .nil)) .nil) .nil))
def d_Play_hit (x : Ix) : Ss := (.cons (.asg (.tp (.cons (.nm 2) (.cons (.nm 3) (.cons (.nm 4) .nil)))) (.var 1)) (.cons (.expr (.meth x.i_Play_tell x.i_Play_init s_tell (.var 0) (.cons (.con (.str s_hit)) (.cons (.meth x.i_Play_doubled x.i_Play_init s_doubled (.var 0) (.cons (.var 3) .nil)) .nil)))) (.cons (.asg (.fl (.var 0) s_bonus) (.blt .min2 (.cons (.glob s_MOST_BONUS (D.int 99)) (.cons (.bin .add (.fld (.var 0) s_bonus) (.var 4)) .nil)))) (.cons (.ife (.and (.cmp .gt (.fld (.var 0) s_many) (.con (.int 1))) (.cmp .eq (.var 2) (.idx (.idx (.fld (.var 0) s_book) (.con (.int 3))) (.con (.int 0))))) (.cons (.expr (.meth x.i_Play_tell x.i_Play_init s_tell (.var 0) (.cons (.con (.str s_jack)) (.cons (.meth x.i_Play_doubled x.i_Play_init s_doubled (.var 0) (.cons (.idx (.idx (.fld (.var 0) s_book) (.con (.int 3))) (.con (.int 1))) .nil)) .nil)))) .nil) .nil) (.cons (.expr (.meth x.i_Play_look_for_lock x.i_Play_init s_look_for_lock (.var 0) (.cons (.var 2) .nil))) (.cons (.asg (.fl (.var 0) s_lit) (.blt .tuple (.cons (.frz (.sset (.bin .add (.fld (.var 0) s_lit) (.tup (.cons (.var 2) .nil))))) .nil))) (.cons (.for (.tp (.cons (.nm 5) (.cons (.nm 6) .nil))) (.val (.idx (.fld (.var 0) s_book) (.con (.int 1)))) (.cons (.ife (.blt .all (.cons (.frz (.comp (.cmp .inn (.var 7) (.fld (.var 0) s_lit)) (.nm 7) (.val (.var 5)) .none [7])) .nil)) (.cons (.asg (.fl (.var 0) s_lit) (.blt .tuple (.cons (.frz (.comp (.var 7) (.nm 7) (.val (.fld (.var 0) s_lit)) (.some (.cmp .nin (.var 7) (.var 5))) [7])) .nil))) (.cons (.expr (.meth x.i_Play_award x.i_Play_init s_award (.var 0) (.cons (.var 6) .nil))) .nil)) .nil) .nil)) (.cons (.expr (.meth x.i_Play_look_for_aim x.i_Play_init s_look_for_aim (.var 0) .nil)) .nil))))))))
def d_Play_look_for_lock (x : Ix) : Ss := (.cons (.asg (.nm 2) (.idx (.fld (.var 0) s_book) (.con (.int 2)))) (.cons (.ife (.or (.cmp .is (.var 2) (.con (.non))) (.or (.cmp .ne (.var 1) (.idx (.var 2) (.con (.int 0)))) (.or (.not (.fld (.var 0) s_is_open)) (.cmp .gt (.fld (.var 0) s_many) (.con (.int 1)))))) (.cons (.ret (.con (.non))) .nil) .nil) (.cons (.asg (.nm 3) (.idx (.fld (.var 0) s_players) (.fld (.var 0) s_turn))) (.cons (.asg (.sb (.var 3) (.con (.int 3))) (.bin .add (.idx (.var 3) (.con (.int 3))) (.con (.int 1)))) (.cons (.asg (.fl (.var 0) s_is_open) (.con (.bl false))) (.cons (.asg (.fl (.var 0) s_saves) (.idx (.fld (.var 0) s_book) (.con (.int 4)))) (.cons (.expr (.meth x.i_Play_tell x.i_Play_init s_tell (.var 0) (.cons (.con (.str s_lock)) (.cons (.con (.int 0)) .nil)))) (.cons (.ife (.cmp .eq (.idx (.var 3) (.con (.int 3))) (.idx (.var 2) (.con (.int 1)))) (.cons (.asg (.sb (.var 3) (.con (.int 3))) (.con (.int 0))) (.cons (.asg (.fl (.var 0) s_many) (.idx (.var 2) (.con (.int 1)))) (.cons (.expr (.meth x.i_Play_tell x.i_Play_init s_tell (.var 0) (.cons (.con (.str s_all)) (.cons (.con (.int 0)) .nil)))) .nil))) .nil) (.cons (.ret (.con (.non))) .nil)))))))))
def d_Play_award (x : Ix) : Ss := (.cons (.asg (.nm 2) (.con (.int 0))) (.cons (.ife (.cmp .eq (.var 1) (.con (.str s_times))) (.cons (.asg (.fl (.var 0) s_factor) (.blt .min2 (.cons (.glob s_MOST_FACTOR (D.int 5)) (.cons (.bin .add (.fld (.var 0) s_factor) (.con (.int 1))) .nil)))) .nil) (.cons (.ife (.cmp .eq (.var 1) (.con (.str s_double))) (.cons (.asg (.fl (.var 0) s_double) (.glob s_DOUBLE (D.int 20))) .nil) (.cons (.ife (.cmp .eq (.var 1) (.con (.str s_extra))) (.cons (.asg (.nm 2) (.bin .mul (.glob s_ONCE_MORE (D.int 500)) (.blt .int (.cons (.fld (.var 0) s_had_extra) .nil)))) (.cons (.asg (.sb (.idx (.fld (.var 0) s_players) (.fld (.var 0) s_turn)) (.con (.int 2))) (.bin .add (.idx (.idx (.fld (.var 0) s_players) (.fld (.var 0) s_turn)) (.con (.int 2))) (.blt .int (.cons (.not (.fld (.var 0) s_had_extra)) .nil)))) (.cons (.asg (.fl (.var 0) s_had_extra) (.con (.bl true))) .nil))) (.cons (.ife (.cmp .is (.idx (.fld (.var 0) s_book) (.con (.int 2))) (.con (.non))) (.cons (.asg (.nm 2) (.glob s_NO_LOCK (D.int 250))) .nil) (.cons (.asg (.fl (.var 0) s_is_open) (.con (.bl true))) .nil)) .nil)) .nil)) .nil)) (.cons (.expr (.meth x.i_Play_tell x.i_Play_init s_tell (.var 0) (.cons (.con (.str s_bank)) (.cons (.var 2) .nil)))) .nil)))
def d_Play_nudge (x : Ix) : Ss := (.cons (.asg (.fl (.var 0) s_warns) (.bin .add (.fld (.var 0) s_warns) (.con (.int 1)))) (.cons (.asg (.fl (.var 0) s_calm) (.glob s_CALM (D.int 30))) (.cons (.expr (.meth x.i_Play_tell x.i_Play_init s_tell (.var 0) (.cons (.con (.str s_warn)) (.cons (.con (.int 0)) .nil)))) (.cons (.ife (.cmp .gt (.fld (.var 0) s_warns) (.idx (.fld (.var 0) s_book) (.con (.int 5)))) (.cons (.asg (.fl (.var 0) s_is_tilted) (.con (.bl true))) (.cons (.asg (.fl (.var 0) s_is_open) (.con (.bl false))) (.cons (.asg (.fl (.var 0) s_lit) (.tup .nil)) (.cons (.asg (.tp (.cons (.fl (.var 0) s_bonus) (.cons (.fl (.var 0) s_double) (.cons (.fl (.var 0) s_saves) .nil)))) (.tup (.cons (.con (.int 0)) (.cons (.con (.int 0)) (.cons (.con (.int 0)) .nil))))) (.cons (.expr (.meth x.i_Play_tell x.i_Play_init s_tell (.var 0) (.cons (.con (.str s_tilt)) (.cons (.con (.int 0)) .nil)))) .nil))))) .nil) .nil))))
def d_Play_tick (x : Ix) : Ss := (.cons (.asg (.fl (.var 0) s_double) (.blt .max2 (.cons (.con (.int 0)) (.cons (.bin .sub (.fld (.var 0) s_double) (.con (.int 1))) .nil)))) (.cons (.asg (.fl (.var 0) s_saves) (.blt .max2 (.cons (.con (.int 0)) (.cons (.bin .sub (.fld (.var 0) s_saves) (.con (.int 1))) .nil)))) (.cons (.ife (.cmp .gt (.fld (.var 0) s_calm) (.con (.int 0))) (.cons (.asg (.fl (.var 0) s_calm) (.bin .sub (.fld (.var 0) s_calm) (.con (.int 1)))) (.cons (.ife (.cmp .eq (.fld (.var 0) s_calm) (.con (.int 0))) (.cons (.asg (.fl (.var 0) s_warns) (.bin .sub (.fld (.var 0) s_warns) (.con (.int 1)))) (.cons (.asg (.fl (.var 0) s_calm) (.bin .mul (.glob s_CALM (D.int 30)) (.blt .int (.cons (.cmp .gt (.fld (.var 0) s_warns) (.con (.int 0))) .nil)))) .nil)) .nil) .nil)) .nil) .nil)))
def d_Play_is_still (x : Ix) : Ss := (.cons (.ret (.cmp .eq (.tup (.cons (.fld (.var 0) s_double) (.cons (.fld (.var 0) s_saves) (.cons (.fld (.var 0) s_calm) .nil)))) (.tup (.cons (.con (.int 0)) (.cons (.con (.int 0)) (.cons (.con (.int 0)) .nil)))))) .nil)
def d_next_player (x : Ix) : Ss := (.cons (.asg (.nm 1) (.idx (.fld (.var 0) s_players) (.fld (.var 0) s_turn))) (.cons (.ife (.cmp .gt (.idx (.var 1) (.con (.int 2))) (.con (.int 0))) (.cons (.asg (.sb (.var 1) (.con (.int 2))) (.bin .sub (.idx (.var 1) (.con (.int 2))) (.con (.int 1)))) (.cons (.expr (.meth x.i_Play_set_ball x.i_Play_init s_set_ball (.var 0) (.cons (.call x.i_fresh (.cons (.fld (.var 0) s_book) .nil)) .nil))) (.cons (.ret (.con (.non))) .nil))) .nil) (.cons (.asg (.nm 2) (.blt .len (.cons (.fld (.var 0) s_players) .nil))) (.cons (.for (.nm 3) (.rng2 (.con (.int 1)) (.bin .add (.var 2) (.con (.int 1)))) (.cons (.asg (.nm 4) (.bin .mod (.bin .add (.fld (.var 0) s_turn) (.var 3)) (.var 2))) (.cons (.ife (.cmp .gt (.idx (.idx (.fld (.var 0) s_players) (.var 4)) (.con (.int 1))) (.con (.int 0))) (.cons (.asg (.sb (.idx (.fld (.var 0) s_players) (.var 4)) (.con (.int 1))) (.bin .sub (.idx (.idx (.fld (.var 0) s_players) (.var 4)) (.con (.int 1))) (.con (.int 1)))) (.cons (.asg (.fl (.var 0) s_turn) (.var 4)) (.cons (.expr (.meth x.i_Play_set_ball x.i_Play_init s_set_ball (.var 0) (.cons (.call x.i_fresh (.cons (.fld (.var 0) s_book) .nil)) .nil))) (.cons (.ret (.con (.non))) .nil)))) .nil) .nil))) (.cons (.expr (.meth x.i_Play_tell x.i_Play_init s_tell (.var 0) (.cons (.con (.str s_over)) (.cons (.con (.int 0)) .nil)))) (.cons (.asg (.fl (.var 0) s_turn) (.con (.non))) (.cons (.ret (.con (.non))) .nil)))))))
def d_drain (x : Ix) : Ss := (.cons (.ife (.cmp .gt (.fld (.var 0) s_saves) (.con (.int 0))) (.cons (.asg (.fl (.var 0) s_saves) (.con (.int 0))) (.cons (.expr (.meth x.i_Play_tell x.i_Play_init s_tell (.var 0) (.cons (.con (.str s_saved)) (.cons (.con (.int 0)) .nil)))) (.cons (.ret (.con (.non))) .nil))) .nil) (.cons (.asg (.fl (.var 0) s_many) (.bin .sub (.fld (.var 0) s_many) (.con (.int 1)))) (.cons (.ife (.cmp .eq (.fld (.var 0) s_many) (.con (.int 0))) (.cons (.ife (.not (.fld (.var 0) s_is_tilted)) (.cons (.expr (.meth x.i_Play_tell x.i_Play_init s_tell (.var 0) (.cons (.con (.str s_bonus)) (.cons (.bin .mul (.bin .mul (.glob s_WORTH (D.int 10)) (.fld (.var 0) s_bonus)) (.fld (.var 0) s_factor)) .nil)))) (.cons (.expr (.meth x.i_Play_look_for_aim x.i_Play_init s_look_for_aim (.var 0) .nil)) .nil)) .nil) (.cons (.expr (.meth x.i_Play_tell x.i_Play_init s_tell (.var 0) (.cons (.con (.str s_end)) (.cons (.con (.int 0)) .nil)))) (.cons (.expr (.call x.i_next_player (.cons (.var 0) .nil))) .nil))) .nil) (.cons (.ret (.con (.non))) .nil))))
def d_step (x : Ix) : Ss := (.cons (.ife (.call x.i_is_over (.cons (.var 1) .nil)) (.cons (.ret (.tup (.cons (.var 1) (.cons (.tup .nil) .nil)))) .nil) .nil) (.cons (.asg (.nm 3) (.make x.i_Play_init (.cons (.var 0) (.cons (.var 1) .nil)))) (.cons (.asg (.tp (.cons (.nm 4) (.cons (.nm 5) .nil))) (.var 2)) (.cons (.ife (.cmp .eq (.var 4) (.con (.str s_hit))) (.cons (.ife (.not (.fld (.var 3) s_is_tilted)) (.cons (.expr (.meth x.i_Play_hit x.i_Play_init s_hit (.var 3) (.cons (.call x.i_target_of (.cons (.var 0) (.cons (.var 5) .nil))) .nil))) .nil) .nil) .nil) (.cons (.ife (.cmp .eq (.var 4) (.con (.str s_drain))) (.cons (.expr (.call x.i_drain (.cons (.var 3) .nil))) .nil) (.cons (.ife (.cmp .eq (.var 4) (.con (.str s_nudge))) (.cons (.ife (.not (.fld (.var 3) s_is_tilted)) (.cons (.expr (.meth x.i_Play_nudge x.i_Play_init s_nudge (.var 3) .nil)) .nil) .nil) .nil) (.cons (.asg (.nm 6) (.var 5)) (.cons (.whil 1000 (.and (.cmp .gt (.var 6) (.con (.int 0))) (.not (.meth x.i_Play_is_still x.i_Play_init s_is_still (.var 3) .nil))) (.cons (.expr (.meth x.i_Play_tick x.i_Play_init s_tick (.var 3) .nil)) (.cons (.asg (.nm 6) (.bin .sub (.var 6) (.con (.int 1)))) .nil))) .nil))) .nil)) .nil)) (.cons (.ret (.tup (.cons (.meth x.i_Play_state x.i_Play_init s_state (.var 3) .nil) (.cons (.blt .tuple (.cons (.fld (.var 3) s_happened) .nil)) .nil)))) .nil)))))
def d_gone (x : Ix) : Ss := (.cons (.ret (.idx (.call x.i_step (.cons (.var 0) (.cons (.var 1) (.cons (.var 2) .nil)))) (.con (.int 0)))) .nil)
def d_after (x : Ix) : Ss := (.cons (.for (.nm 3) (.val (.var 2)) (.cons (.asg (.nm 1) (.call x.i_gone (.cons (.var 0) (.cons (.var 1) (.cons (.var 3) .nil))))) .nil)) (.cons (.ret (.var 1)) .nil))
def d__law_is_good (x : Ix) : Ss := (.cons (.ife (.call x.i_is_over (.cons (.var 1) .nil)) (.cons (.ret (.and (.cmp .is (.idx (.var 1) (.con (.int 2))) (.con (.non))) (.cmp .eq (.frz (.comp (.var 5) (.nm 5) (.val (.idx (.var 1) (.con (.int 1)))) (.some (.cmp .ne (.idx (.var 5) (.con (.int 1))) (.con (.int 0)))) [5])) (.frz (.disp .nil))))) .nil) .nil) (.cons (.asg (.nm 2) (.idx (.var 1) (.con (.int 2)))) (.cons (.ife (.cmp .lt (.idx (.var 2) (.con (.int 0))) (.con (.int 1))) (.cons (.ret (.con (.bl false))) .nil) .nil) (.cons (.ife (.cmp .ne (.frz (.comp (.var 3) (.tp (.cons (.nm 3) (.cons (.nm 4) .nil))) (.val (.idx (.var 0) (.con (.int 1)))) (.some (.cmp .eq (.frz (.comp (.var 6) (.nm 6) (.val (.var 3)) (.some (.cmp .nin (.var 6) (.idx (.var 2) (.con (.int 1))))) [6])) (.frz (.disp .nil)))) [3, 4])) (.frz (.disp .nil))) (.cons (.ret (.con (.bl false))) .nil) .nil) (.cons (.ife (.and (.idx (.var 2) (.con (.int 8))) (.or (.cmp .ne (.idx (.var 2) (.con (.int 1))) (.tup .nil)) (.or (.cmp .gt (.bin .add (.bin .add (.idx (.var 2) (.con (.int 2))) (.idx (.var 2) (.con (.int 4)))) (.idx (.var 2) (.con (.int 5)))) (.con (.int 0))) (.idx (.var 2) (.con (.int 9)))))) (.cons (.ret (.con (.bl false))) .nil) .nil) (.cons (.ret (.and (.chn .le .le (.con (.int 1)) (.idx (.var 2) (.con (.int 3))) (.con (.int 5))) (.and (.chn .le .le (.con (.int 0)) (.idx (.var 2) (.con (.int 2))) (.con (.int 99))) (.and (.chn .le .le (.con (.int 0)) (.idx (.var 2) (.con (.int 4))) (.con (.int 20))) (.cmp .eq (.cmp .gt (.idx (.var 2) (.con (.int 7))) (.con (.int 0))) (.cmp .gt (.idx (.var 2) (.con (.int 6))) (.con (.int 0)))))))) .nil))))))
def d__law_are_ticks (x : Ix) : Ss := (.cons (.asg (.nm 4) (.call x.i_gone (.cons (.var 0) (.cons (.var 1) (.cons (.tup (.cons (.con (.str s_ticks)) (.cons (.bin .add (.var 2) (.var 3)) .nil))) .nil))))) (.cons (.ife (.cmp .ne (.call x.i_gone (.cons (.var 0) (.cons (.call x.i_gone (.cons (.var 0) (.cons (.var 1) (.cons (.tup (.cons (.con (.str s_ticks)) (.cons (.var 2) .nil))) .nil)))) (.cons (.tup (.cons (.con (.str s_ticks)) (.cons (.var 3) .nil))) .nil)))) (.var 4)) (.cons (.ret (.con (.bl false))) .nil) .nil) (.cons (.ife (.cmp .ne (.call x.i_gone (.cons (.var 0) (.cons (.var 1) (.cons (.tup (.cons (.con (.str s_ticks)) (.cons (.con (.int 0)) .nil))) .nil)))) (.var 1)) (.cons (.ret (.con (.bl false))) .nil) .nil) (.cons (.ret (.cmp .eq (.slc (.var 4) .none (.some (.con (.int 2)))) (.slc (.var 1) .none (.some (.con (.int 2)))))) .nil))))
def d_story (x : Ix) : Ss := (.cons (.own 3 (.disp .nil)) (.cons (.for (.tp (.cons (.nm 4) (.cons (.nm 5) .nil))) (.enum (.var 2)) (.cons (.asg (.tp (.cons (.nm 1) (.cons (.nm 6) .nil))) (.call x.i_step (.cons (.var 0) (.cons (.var 1) (.cons (.var 5) .nil))))) (.cons (.oext 3 (.frz (.comp (.bin .add (.tup (.cons (.var 4) .nil)) (.var 7)) (.nm 7) (.val (.var 6)) .none [7]))) .nil))) (.cons (.frz 3) (.cons (.ret (.blt .tuple (.cons (.var 3) .nil))) .nil))))
def d_replayed (x : Ix) : Ss := (.cons (.own 2 (.rep (.frz (.disp (.cons (.con (.int 0)) .nil))) (.var 0))) (.cons (.for (.tp (.cons (.nm 3) (.cons (.nm 4) (.cons (.nm 5) (.cons (.nm 6) .nil))))) (.val (.var 1)) (.cons (.oset 2 (.var 4) (.bin .add (.oidx 2 (.var 4)) (.var 6))) .nil)) (.cons (.frz 2) (.cons (.ret (.blt .tuple (.cons (.var 2) .nil))) .nil))))
def d_turns_of (x : Ix) : Ss := (.cons (.ret (.blt .tuple (.cons (.frz (.comp (.var 2) (.tp (.cons (.nm 1) (.cons (.nm 2) (.cons (.nm 3) (.cons (.nm 4) .nil))))) (.val (.var 0)) (.some (.cmp .eq (.var 3) (.con (.str s_end)))) [1, 2, 3, 4])) .nil))) .nil)
def d_must_count (x : Ix) : Ss := (.cons (.ife (.or (.call x.i_is_over (.cons (.var 0) .nil)) (.idx (.idx (.var 0) (.con (.int 2))) (.con (.int 8)))) (.cons (.raise x.e_NoBall s_x68697473206272696e67206e6f7468696e67) .nil) .nil) .nil)
def d_dark (x : Ix) : Ss := (.cons (.ife (.not (.chn .le .lt (.con (.int 0)) (.var 2) (.blt .len (.cons (.idx (.var 0) (.con (.int 1))) .nil)))) (.cons (.raise x.e_NoBank s_x7468657265206973206e6f6e65) .nil) .nil) (.cons (.expr (.call x.i_must_count (.cons (.var 1) .nil))) (.cons (.ret (.blt .tuple (.cons (.frz (.comp (.var 3) (.nm 3) (.val (.idx (.idx (.idx (.var 0) (.con (.int 1))) (.var 2)) (.con (.int 0)))) (.some (.cmp .nin (.var 3) (.idx (.idx (.var 1) (.con (.int 2))) (.con (.int 1))))) [3])) .nil))) .nil)))
def d_fewest (x : Ix) : Ss := (.cons (.expr (.call x.i_must_count (.cons (.var 1) .nil))) (.cons (.ife (.not (.idx (.var 0) (.con (.int 1)))) (.cons (.ret (.con (.non))) .nil) .nil) (.cons (.ret (.blt .minL (.cons (.frz (.comp (.tup (.cons (.blt .len (.cons (.call x.i_dark (.cons (.var 0) (.cons (.var 1) (.cons (.var 2) .nil)))) .nil)) (.cons (.var 2) .nil))) (.nm 2) (.rng1 (.blt .len (.cons (.idx (.var 0) (.con (.int 1))) .nil))) .none [2])) .nil))) .nil)))
def d_rows_of (x : Ix) : Ss := (.cons (.asg (.nm 2) (.frz (.disp (.cons (.tup .nil) .nil)))) (.cons (.for (.nm 3) (.rng1 (.var 1)) (.cons (.own 4 (.disp .nil)) (.cons (.for (.nm 5) (.val (.var 2)) (.cons (.oext 4 (.frz (.comp (.bin .add (.var 5) (.tup (.cons (.var 6) .nil))) (.nm 6) (.val (.var 0)) .none [6]))) .nil)) (.cons (.frz 4) (.cons (.asg (.nm 2) (.var 4)) .nil))))) (.cons (.ret (.var 2)) .nil)))
def d_best_hits (x : Ix) : Ss := (.cons (.expr (.call x.i_must_count (.cons (.var 1) .nil))) (.cons (.asg (.nm 3) (.con (.non))) (.cons (.for (.nm 4) (.val (.call x.i_rows_of (.cons (.call x.i_names_of (.cons (.var 0) .nil)) (.cons (.var 2) .nil)))) (.cons (.asg (.nm 5) (.call x.i_after (.cons (.var 0) (.cons (.var 1) (.cons (.blt .tuple (.cons (.frz (.comp (.tup (.cons (.con (.str s_hit)) (.cons (.var 7) .nil))) (.nm 7) (.val (.var 4)) .none [7])) .nil)) .nil))))) (.cons (.asg (.nm 6) (.bin .sub (.idx (.idx (.idx (.var 5) (.con (.int 1))) (.idx (.var 1) (.con (.int 0)))) (.con (.int 0))) (.idx (.idx (.idx (.var 1) (.con (.int 1))) (.idx (.var 1) (.con (.int 0)))) (.con (.int 0))))) (.cons (.ife (.or (.cmp .is (.var 3) (.con (.non))) (.cmp .gt (.var 6) (.idx (.var 3) (.con (.int 0))))) (.cons (.asg (.nm 3) (.tup (.cons (.var 6) (.cons (.var 4) .nil)))) .nil) .nil) .nil)))) (.cons (.ret (.var 3)) .nil))))
def d__law_best (x : Ix) : Ss := (.cons (.asg (.nm 3) (.frz (.disp (.cons (.tup .nil) .nil)))) (.cons (.for (.nm 4) (.rng1 (.var 2)) (.cons (.own 7 (.disp .nil)) (.cons (.for (.nm 6) (.val (.var 3)) (.cons (.oext 7 (.frz (.comp (.bin .add (.var 6) (.tup (.cons (.idx (.var 11) (.con (.int 0))) .nil))) (.nm 11) (.val (.idx (.var 0) (.con (.int 0)))) .none [11]))) .nil)) (.cons (.frz 7) (.cons (.asg (.nm 3) (.var 7)) .nil))))) (.cons (.asg (.nm 5) (.con (.non))) (.cons (.for (.nm 6) (.val (.var 3)) (.cons (.par2 9 10 (.call x.i__law_copied (.cons (.var 1) .nil)) (.con (.int 0))) (.cons (.for (.nm 8) (.val (.var 6)) (.cons (.asg (.nm 10) (.bin .add (.var 10) (.blt .sum (.cons (.frz (.comp (.idx (.var 12) (.con (.int 2))) (.nm 12) (.val (.call x.i__law_step (.cons (.var 0) (.cons (.var 9) (.cons (.tup (.cons (.con (.str s_hit)) (.cons (.var 8) .nil))) .nil))))) .none [12])) .nil)))) .nil)) (.cons (.ife (.or (.cmp .is (.var 5) (.con (.non))) (.cmp .lt (.tup (.cons (.bin .sub (.con (.int 0)) (.var 10)) (.cons (.var 6) .nil))) (.tup (.cons (.bin .sub (.con (.int 0)) (.idx (.var 5) (.con (.int 0)))) (.cons (.idx (.var 5) (.con (.int 1))) .nil))))) (.cons (.asg (.nm 5) (.tup (.cons (.var 10) (.cons (.var 6) .nil)))) .nil) .nil) .nil)))) (.cons (.ret (.var 5)) .nil)))))
def d__law_points (x : Ix) : Ss := (.cons (.asg (.nm 3) (.call x.i_after (.cons (.var 0) (.cons (.var 1) (.cons (.blt .tuple (.cons (.frz (.comp (.tup (.cons (.con (.str s_hit)) (.cons (.var 4) .nil))) (.nm 4) (.val (.var 2)) .none [4])) .nil)) .nil))))) (.cons (.ret (.bin .sub (.idx (.call x.i_scores (.cons (.var 3) .nil)) (.idx (.var 1) (.con (.int 0)))) (.idx (.call x.i_scores (.cons (.var 1) .nil)) (.idx (.var 1) (.con (.int 0)))))) .nil))
def d__law_awards (x : Ix) : Ss := (.cons (.asg (.nm 3) (.blt .tuple (.cons (.frz (.comp (.tup (.cons (.con (.str s_hit)) (.cons (.var 5) .nil))) (.nm 5) (.val (.var 2)) .none [5])) .nil))) (.cons (.ret (.frz (.comp (.idx (.var 4) (.con (.int 0))) (.nm 4) (.val (.call x.i_story (.cons (.var 0) (.cons (.var 1) (.cons (.var 3) .nil))))) (.some (.cmp .eq (.idx (.var 4) (.con (.int 2))) (.con (.str s_bank)))) [4]))) .nil))
def d_place_of (x : Ix) : Ss := (.cons (.ret (.blt .len (.cons (.frz (.comp (.var 2) (.nm 2) (.val (.var 0)) (.some (.cmp .ge (.idx (.var 2) (.con (.int 0))) (.var 1))) [2])) .nil))) .nil)
def d_placed (x : Ix) : Ss := (.cons (.asg (.nm 4) (.call x.i_place_of (.cons (.var 0) (.cons (.var 2) .nil)))) (.cons (.ret (.slc (.bin .add (.bin .add (.slc (.var 0) .none (.some (.var 4))) (.tup (.cons (.tup (.cons (.var 2) (.cons (.var 1) .nil))) .nil))) (.slc (.var 0) (.some (.var 4)) .none)) .none (.some (.var 3)))) .nil))
def d_best_of (x : Ix) : Ss := (.cons (.asg (.nm 2) (.frz (.comp (.var 3) (.tp (.cons (.nm 3) (.cons (.nm 4) .nil))) (.val (.var 0)) (.some (.cmp .eq (.var 4) (.var 1))) [3, 4]))) (.cons (.ife (.not (.var 2)) (.cons (.raise x.e_NoName s_x7468657265206973206e6f6e65) .nil) .nil) (.cons (.ret (.idx (.var 2) (.con (.int 0)))) .nil)))
def d_merged (x : Ix) : Ss := (.cons (.asg (.nm 2) (.var 0)) (.cons (.for (.tp (.cons (.nm 3) (.cons (.nm 4) .nil))) (.val (.var 1)) (.cons (.asg (.nm 2) (.call x.i_placed (.cons (.var 2) (.cons (.var 4) (.cons (.var 3) (.cons (.bin .add (.blt .len (.cons (.var 2) .nil)) (.con (.int 1))) .nil)))))) .nil)) (.cons (.ret (.var 2)) .nil)))
def d__law_filled (x : Ix) : Ss := (.cons (.asg (.nm 2) (.tup .nil)) (.cons (.for (.tp (.cons (.nm 3) (.cons (.nm 4) .nil))) (.val (.var 0)) (.cons (.asg (.nm 2) (.call x.i_placed (.cons (.var 2) (.cons (.var 4) (.cons (.var 3) (.cons (.var 1) .nil)))))) .nil)) (.cons (.ret (.var 2)) .nil)))
def d_Game_init (x : Ix) : Ss := (.cons (.asg (.fl (.var 0) s_book) (.var 1)) (.cons (.asg (.fl (.var 0) s_count) (.var 2)) (.cons (.asg (.fl (.var 0) s_now) (.call x.i_begun (.cons (.var 1) (.cons (.var 2) .nil)))) (.cons (.asg (.fl (.var 0) s_events) (.tup .nil)) (.cons (.asg (.fl (.var 0) s_past) (.cel (.disp .nil))) .nil)))))
def d_Game_do (x : Ix) : Ss := (.cons (.expr (.app (.fld (.var 0) s_past) (.fld (.var 0) s_now))) (.cons (.asg (.tp (.cons (.fl (.var 0) s_now) (.cons (.nm 2) .nil))) (.call x.i_step (.cons (.fld (.var 0) s_book) (.cons (.fld (.var 0) s_now) (.cons (.var 1) .nil))))) (.cons (.asg (.fl (.var 0) s_events) (.bin .add (.fld (.var 0) s_events) (.tup (.cons (.var 1) .nil)))) (.cons (.ret (.blt .tuple (.cons (.frz (.comp (.tup (.cons (.var 4) (.cons (.var 5) .nil))) (.tp (.cons (.nm 3) (.cons (.nm 4) (.cons (.nm 5) .nil)))) (.val (.var 2)) .none [3, 4, 5])) .nil))) .nil))))
def d_Game_hit (x : Ix) : Ss := (.cons (.expr (.call x.i_target_of (.cons (.fld (.var 0) s_book) (.cons (.var 1) .nil)))) (.cons (.ret (.meth x.i_Game_do x.i_Game_init s_do (.var 0) (.cons (.tup (.cons (.con (.str s_hit)) (.cons (.var 1) .nil))) .nil))) .nil))
def d_Game_drain (x : Ix) : Ss := (.cons (.ret (.meth x.i_Game_do x.i_Game_init s_do (.var 0) (.cons (.tup (.cons (.con (.str s_drain)) (.cons (.con (.non)) .nil))) .nil))) .nil)
def d_Game_nudge (x : Ix) : Ss := (.cons (.ret (.meth x.i_Game_do x.i_Game_init s_do (.var 0) (.cons (.tup (.cons (.con (.str s_nudge)) (.cons (.con (.non)) .nil))) .nil))) .nil)
def d_Game_ticks (x : Ix) : Ss := (.cons (.ret (.meth x.i_Game_do x.i_Game_init s_do (.var 0) (.cons (.tup (.cons (.con (.str s_ticks)) (.cons (.var 1) .nil))) .nil))) .nil)
def d_Game_state (x : Ix) : Ss := (.cons (.ret (.fld (.var 0) s_now)) .nil)
def d_Game_scores (x : Ix) : Ss := (.cons (.ret (.call x.i_scores (.cons (.fld (.var 0) s_now) .nil))) .nil)
def d_Game_who (x : Ix) : Ss := (.cons (.ret (.idx (.fld (.var 0) s_now) (.con (.int 0)))) .nil)
def d_Game_log (x : Ix) : Ss := (.cons (.ret (.fld (.var 0) s_events)) .nil)
def d_Game_undo (x : Ix) : Ss := (.cons (.ife (.not (.fld (.var 0) s_past)) (.cons (.raise x.e_NoDeed s_x7468657265206973206e6f6e65) .nil) .nil) (.cons (.asg (.fl (.var 0) s_now) (.pop (.fld (.var 0) s_past))) (.cons (.asg (.fl (.var 0) s_events) (.slc (.fld (.var 0) s_events) .none (.some (.neg (.con (.int 1)))))) .nil)))
def d_Game_undo_v2 (x : Ix) : Ss := (.cons (.expr (.call x.i__wall (.cons (.con (.int 0)) .nil))) .nil)
def d_Game_again (x : Ix) : Ss := (.cons (.asg (.nm 1) (.call x.i_begun (.cons (.fld (.var 0) s_book) (.cons (.fld (.var 0) s_count) .nil)))) (.cons (.own 2 (.disp .nil)) (.cons (.for (.nm 3) (.val (.fld (.var 0) s_events)) (.cons (.asg (.nm 1) (.call x.i_gone (.cons (.fld (.var 0) s_book) (.cons (.var 1) (.cons (.var 3) .nil))))) (.cons (.oapp 2 (.call x.i_scores (.cons (.var 1) .nil))) .nil))) (.cons (.frz 2) (.cons (.ret (.blt .tuple (.cons (.var 2) .nil))) .nil)))))
def d_Game_again_v2 (x : Ix) : Ss := (.cons (.expr (.call x.i__wall (.cons (.con (.int 0)) .nil))) .nil)
def d_Game_again_v3 (x : Ix) : Ss := (.cons (.expr (.call x.i__wall (.cons (.con (.int 1)) .nil))) .nil)
def d__law_walked (x : Ix) : Ss := (.cons (.par3 4 5 6 (.call x.i__law_begun (.cons (.var 0) (.cons (.var 1) .nil))) (.frz (.disp .nil)) (.frz (.disp .nil))) (.cons (.for (.nm 3) (.val (.var 2)) (.cons (.asg (.nm 5) (.call x.i__law_step (.cons (.var 0) (.cons (.var 4) (.cons (.var 3) .nil))))) (.cons (.expr (.app (.var 6) (.blt .tuple (.cons (.frz (.comp (.idx (.var 8) (.con (.int 0))) (.nm 8) (.val (.idx (.var 4) (.con (.str s_players)))) .none [8])) .nil)))) .nil))) (.cons (.ret (.tup (.cons (.var 4) (.cons (.blt .tuple (.cons (.frz (.comp (.slc (.var 7) (.some (.con (.int 1))) .none) (.nm 7) (.val (.var 5)) .none [7])) .nil)) (.cons (.blt .tuple (.cons (.var 6) .nil)) .nil))))) .nil)))
def d__law_do (x : Ix) : Ss := (.cons (.ife (.cmp .eq (.idx (.var 1) (.con (.int 0))) (.con (.str s_hit))) (.cons (.ret (.meth x.i_Game_hit x.i_Game_init s_hit (.var 0) (.cons (.idx (.var 1) (.con (.int 1))) .nil))) .nil) .nil) (.cons (.ife (.cmp .eq (.idx (.var 1) (.con (.int 0))) (.con (.str s_ticks))) (.cons (.ret (.meth x.i_Game_ticks x.i_Game_init s_ticks (.var 0) (.cons (.idx (.var 1) (.con (.int 1))) .nil))) .nil) .nil) (.cons (.ret (.ife (.cmp .eq (.idx (.var 1) (.con (.int 0))) (.con (.str s_drain))) (.meth x.i_Game_drain x.i_Game_init s_drain (.var 0) .nil) (.meth x.i_Game_nudge x.i_Game_init s_nudge (.var 0) .nil))) .nil)))
def d_event_text (x : Ix) : Ss := (.cons (.ife (.cmp .is (.idx (.var 0) (.con (.int 1))) (.con (.non))) (.cons (.ret (.idx (.var 0) (.con (.int 0)))) .nil) .nil) (.cons (.ret (.bin .add (.bin .add (.idx (.var 0) (.con (.int 0))) (.con (.str s_x20))) (.blt .str (.cons (.idx (.var 0) (.con (.int 1))) .nil)))) .nil))
def d_must (x : Ix) : Ss := (.cons (.ife (.not (.var 0)) (.cons (.raise x.e_NoText s_x6974206973207772697474656e206f7468657277697365) .nil) .nil) .nil)
def d_number_in (x : Ix) : Ss := (.cons (.expr (.call x.i_must (.cons (.and (.cmp .ne (.var 0) (.con (.str s_x))) (.blt .all (.cons (.frz (.comp (.cmp .inn (.var 1) (.glob s_FIGURES (D.str s_0123456789))) (.nm 1) (.val (.var 0)) .none [1])) .nil))) .nil))) (.cons (.ret (.blt .int (.cons (.var 0) .nil))) .nil))
def d_lines_of (x : Ix) : Ss := (.cons (.ret (.frz (.comp (.slc (.var 2) (.some (.con (.int 1))) .none) (.nm 2) (.val (.var 0)) (.some (.cmp .eq (.idx (.var 2) (.con (.int 0))) (.var 1))) [2]))) .nil)
def d_only (x : Ix) : Ss := (.cons (.asg (.nm 3) (.call x.i_lines_of (.cons (.var 0) (.cons (.var 1) .nil)))) (.cons (.expr (.call x.i_must (.cons (.and (.cmp .eq (.blt .len (.cons (.var 3) .nil)) (.con (.int 1))) (.cmp .eq (.blt .len (.cons (.idx (.var 3) (.con (.int 0))) .nil)) (.var 2))) .nil))) (.cons (.ret (.idx (.var 3) (.con (.int 0)))) .nil)))
def d_pair_in (x : Ix) : Ss := (.cons (.asg (.tp (.cons (.nm 2) (.cons (.nm 3) .nil))) (.call x.i_only (.cons (.var 0) (.cons (.var 1) (.cons (.con (.int 2)) .nil))))) (.cons (.ret (.tup (.cons (.var 2) (.cons (.call x.i_number_in (.cons (.var 3) .nil)) .nil)))) .nil))
def d__law_words (x : Ix) : Ss := (.cons (.asg (.nm 1) (.con (.str s_x))) (.cons (.for (.tp (.cons (.nm 2) (.cons (.tp (.cons (.nm 3) (.cons (.nm 4) .nil))) .nil))) (.enum (.var 0)) (.cons (.asg (.nm 1) (.bin .add (.bin .add (.var 1) (.ife (.cmp .gt (.var 2) (.con (.int 0))) (.con (.str s_x3b20)) (.con (.str s_x)))) (.var 3))) (.cons (.ife (.cmp .eq (.var 3) (.con (.str s_hit))) (.cons (.asg (.nm 1) (.bin .add (.bin .add (.var 1) (.con (.str s_x20))) (.var 4))) .nil) .nil) (.cons (.ife (.cmp .eq (.var 3) (.con (.str s_ticks))) (.cons (.asg (.nm 1) (.bin .add (.bin .add (.var 1) (.con (.str s_x20))) (.blt .str (.cons (.var 4) .nil)))) .nil) .nil) .nil)))) (.cons (.ret (.var 1)) .nil)))
def d__law_words_v2 (x : Ix) : Ss := (.cons (.ret (.frz (.comp (.var 5) (.tp (.cons (.nm 3) (.cons (.nm 4) (.cons (.nm 5) (.cons (.nm 6) .nil))))) (.val (.call x.i_story (.cons (.var 0) (.cons (.var 1) (.cons (.var 2) .nil))))) .none [3, 4, 5, 6]))) .nil)
def d__law_is_right (x : Ix) : Ss := (.cons (.asg (.nm 2) (.call x.i__law_said (.cons (.var 0) (.cons (.var 1) .nil)))) (.cons (.ife (.cmp .eq (.var 2) (.con (.str s_x6e6f2074657874))) (.cons (.ret (.con (.bl true))) .nil) .nil) (.cons (.ife (.cmp .is (.var 0) (.con (.non))) (.cons (.ret (.and (.cmp .is (.call x.i_is_book (.cons (.var 2) .nil)) (.con (.bl true))) (.cmp .eq (.call x.i_book_text (.cons (.var 2) .nil)) (.var 1)))) .nil) .nil) (.cons (.ife (.cmp .ne (.frz (.comp (.var 3) (.nm 3) (.val (.var 2)) (.some (.cmp .isn (.call x.i_is_event (.cons (.var 0) (.cons (.var 3) .nil))) (.con (.bl true)))) [3])) (.frz (.disp .nil))) (.cons (.ret (.con (.bl false))) .nil) .nil) (.cons (.ret (.cmp .eq (.call x.i_row_text (.cons (.var 2) .nil)) (.var 1))) .nil)))))
def d__law_table (x : Ix) : Ss := (.cons (.own 4 (.disp .nil)) (.cons (.for (.nm 5) (.rng1 (.con (.int 5))) (.cons (.oapp 4 (.tup (.cons (.idx (.con (.str s_abcde)) (.var 5)) (.cons (.bin .add (.con (.int 1)) (.call x.i__law_mix (.cons (.bin .add (.var 0) (.bin .mul (.con (.int 7)) (.var 5))) (.cons (.con (.int 9689)) (.cons (.con (.int 900)) .nil))))) (.cons (.call x.i__law_mix (.cons (.bin .add (.var 0) (.bin .mul (.con (.int 11)) (.var 5))) (.cons (.con (.int 9679)) (.cons (.con (.int 10)) .nil)))) .nil))))) .nil)) (.cons (.frz 4) (.cons (.ret (.bin .add (.tup (.cons (.blt .tuple (.cons (.var 4) .nil)) (.cons (.var 1) (.cons (.var 2) (.cons (.tup (.cons (.con (.str s_e)) (.cons (.bin .add (.con (.int 1)) (.call x.i__law_mix (.cons (.var 0) (.cons (.con (.int 9677)) (.cons (.con (.int 5000)) .nil))))) .nil))) .nil))))) (.var 3))) .nil))))
def d__law_hits (x : Ix) : Ss := (.cons (.ret (.blt .tuple (.cons (.frz (.comp (.tup (.cons (.con (.str s_hit)) (.cons (.var 1) .nil))) (.nm 1) (.val (.var 0)) .none [1])) .nil))) .nil)
def d__law_points_of (x : Ix) : Ss := (.cons (.asg (.nm 2) (.dof (.frz (.comp (.tup (.cons (.var 3) (.cons (.var 4) .nil))) (.tp (.cons (.nm 3) (.cons (.nm 4) (.cons (.nm 5) .nil)))) (.val (.idx (.var 0) (.con (.int 0)))) .none [3, 4, 5])))) (.cons (.ret (.blt .sum (.cons (.frz (.comp (.idx (.var 2) (.var 3)) (.nm 3) (.val (.var 1)) .none [3])) .nil))) .nil))
def d__law_is_awarded (x : Ix) : Ss := (.cons (.ife (.cmp .eq (.var 0) (.con (.str s_times))) (.cons (.ret (.cmp .eq (.idx (.var 1) (.con (.int 3))) (.blt .min2 (.cons (.con (.int 5)) (.cons (.bin .add (.con (.int 1)) (.var 3)) .nil))))) .nil) .nil) (.cons (.ife (.cmp .eq (.var 0) (.con (.str s_double))) (.cons (.ret (.cmp .eq (.idx (.var 1) (.con (.int 4))) (.con (.int 20)))) .nil) .nil) (.cons (.ife (.cmp .eq (.var 0) (.con (.str s_extra))) (.cons (.ret (.and (.cmp .eq (.var 2) (.con (.int 1))) (.cmp .is (.idx (.var 1) (.con (.int 10))) (.con (.bl true))))) .nil) .nil) (.cons (.ret (.cmp .is (.idx (.var 1) (.con (.int 9))) (.con (.bl false)))) .nil))))
def d__law_is_same (x : Ix) : Ss := (.cons (.ife (.or (.cmp .ne (.meth x.i_Game_state x.i_Game_init s_state (.var 0) .nil) (.meth x.i_Game_state x.i_Game_init s_state (.var 1) .nil)) (.or (.cmp .ne (.meth x.i_Game_log x.i_Game_init s_log (.var 0) .nil) (.meth x.i_Game_log x.i_Game_init s_log (.var 1) .nil)) (.cmp .ne (.meth x.i_Game_again x.i_Game_init s_again (.var 0) .nil) (.meth x.i_Game_again x.i_Game_init s_again (.var 1) .nil)))) (.cons (.ret (.con (.bl false))) .nil) .nil) (.cons (.ret (.and (.cmp .eq (.meth x.i_Game_scores x.i_Game_init s_scores (.var 0) .nil) (.meth x.i_Game_scores x.i_Game_init s_scores (.var 1) .nil)) (.cmp .eq (.meth x.i_Game_who x.i_Game_init s_who (.var 0) .nil) (.meth x.i_Game_who x.i_Game_init s_who (.var 1) .nil)))) .nil))
def d__law_gain (x : Ix) : Ss := (.cons (.ret (.blt .sum (.cons (.frz (.comp (.var 6) (.tp (.cons (.nm 3) (.cons (.nm 4) (.cons (.nm 5) (.cons (.nm 6) .nil))))) (.val (.call x.i_story (.cons (.var 0) (.cons (.var 1) (.cons (.var 2) .nil))))) .none [3, 4, 5, 6])) .nil))) .nil)
def d__law_goes_down (x : Ix) : Ss := (.cons (.asg (.nm 4) (.call x.i_gone (.cons (.var 0) (.cons (.var 1) (.cons (.tup (.cons (.con (.str s_hit)) (.cons (.var 3) .nil))) .nil))))) (.cons (.ife (.or (.cmp .inn (.con (.str s_bank)) (.frz (.comp (.idx (.var 5) (.con (.int 2))) (.nm 5) (.val (.call x.i_story (.cons (.var 0) (.cons (.var 1) (.cons (.tup (.cons (.tup (.cons (.con (.str s_hit)) (.cons (.var 3) .nil))) .nil)) .nil))))) .none [5]))) (.cmp .lt (.idx (.call x.i_fewest (.cons (.var 0) (.cons (.var 4) .nil))) (.con (.int 0))) (.bin .sub (.idx (.var 2) (.con (.int 0))) (.con (.int 1))))) (.cons (.ret (.con (.bl false))) .nil) .nil) (.cons (.ret (.or (.cmp .nin (.var 3) (.call x.i_dark (.cons (.var 0) (.cons (.var 1) (.cons (.idx (.var 2) (.con (.int 1))) .nil))))) (.cmp .eq (.idx (.call x.i_fewest (.cons (.var 0) (.cons (.var 4) .nil))) (.con (.int 0))) (.bin .sub (.idx (.var 2) (.con (.int 0))) (.con (.int 1)))))) .nil)))
end P

set_option Elab.async false
set_option linter.all false
set_option maxRecDepth 100000
set_option maxHeartbeats 4000000
/-! Walking by simp: the parts that are looked at first. -/
namespace B
set_option autoImplicit false
open PySem
variable {Φ : Phi} {ρ : Slots} {st : Store}
theorem RS.bind_next {ρ : Slots} {st : Store} {f : Slots → Store → RS} : (RS.ok (.next ρ) st).bind f = f ρ st := rfl
theorem RS.bind_ret {d : D} {st : Store} {f : Slots → Store → RS} : (RS.ok (.ret d) st).bind f = .ok (.ret d) st := rfl
theorem RS.bind_cont {ρ : Slots} {st : Store} {f : Slots → Store → RS} : (RS.ok (.cont ρ) st).bind f = .ok (.cont ρ) st := rfl
theorem RS.bind_exc {c : Nat} {ρ : Slots} {st : Store} {f : Slots → Store → RS} : (RS.exc c ρ st).bind f = .exc c ρ st := rfl
theorem R.s_ok {α : Type} {a : α} {st : Store} {ρ : Slots} {f : α → Store → RS} : (R.ok a st).s ρ f = f a st := rfl
theorem R.s_exc {α : Type} {c : Nat} {st : Store} {ρ : Slots} {f : α → Store → RS} : (R.exc c st : R α).s ρ f = .exc c ρ st := rfl
theorem w_noExc_ok {α : Type} {a : α} {st : Store} : noExc (R.ok a st) = .ok a st := rfl
theorem en_step {s : Sm} {r : Ss} {ρ ρ' : Slots} {st st' : Store} {X : R D} (h : evS Φ s ρ st = .ok (.next ρ') st') (h2 : endOf (evSs Φ r ρ' st') = X) : endOf (evSs Φ (.cons s r) ρ st) = X := by
  simp only [evSs, h, RS.bind]
  exact h2
theorem en_ret {s : Sm} {r : Ss} {d : D} {st' : Store} (h : evS Φ s ρ st = .ok (.ret d) st') : endOf (evSs Φ (.cons s r) ρ st) = .ok d st' := by
  simp only [evSs, h, RS.bind, endOf]
theorem en_exc {s : Sm} {r : Ss} {c : Nat} {ρ' : Slots} {st' : Store} (h : evS Φ s ρ st = .exc c ρ' st') : endOf (evSs Φ (.cons s r) ρ st) = .exc c st' := by
  simp only [evSs, h, RS.bind, endOf]
theorem en_nil : endOf (evSs Φ .nil ρ st) = .ok .non st := by simp only [evSs, endOf]
theorem endOf_next : endOf (.ok (.next ρ) st) = .ok .non st := rfl
theorem endOf_ret {d : D} : endOf (.ok (.ret d) st) = .ok d st := rfl
theorem endOf_exc {c : Nat} : endOf (.exc c ρ st) = .exc c st := rfl
/-- a def by its statements -/
theorem run_end {d : Def} {ds : List D} {X : R D} (ha : ds.length = d.ar) (hd : d.drop = false) (h : endOf (evSs Φ d.body (startE d.sz ds) st) = X) : runD Φ d ds st = X := by
  unfold runD
  rw [if_pos ha, h, hd]
  rfl
theorem en_of {b : Ss} {X : Store} (h : ∃ ρ', evSs Φ b ρ st = .ok (.next ρ') X) : endOf (evSs Φ b ρ st) = .ok .non X := by
  obtain ⟨ρ', h⟩ := h
  rw [h, endOf_next]
theorem ite_ok {α : Type} {c : Prop} [Decidable c] {a b : α} : (if c then R.ok a st else R.ok b st) = R.ok (if c then a else b) st := by split <;> rfl
theorem seq_tup {xs : List D} : seqOf st (.tup xs) = some xs := rfl
theorem seq_lst {xs : List D} : seqOf st (.lst xs) = some xs := rfl
/-- a field is set -/
def setF (y : D) (f : Str) (x : D) (ρ : Slots) (st : Store) : R Slots :=
  match y with
  | .ref n => match st[n]? with
    | some (.ins c fs) => if fs.length < 1000 then .ok ρ (putCell st n (.ins c (putF f x fs))) else .stuck
    | _ => .stuck
  | _ => .stuck
theorem asT_fl {o : Ex} {f : Str} {x : D} : asT Φ (.fl o f) x ρ st = (noExc (evE Φ o ρ st)).bind fun y st => setF y f x ρ st := by
  simp only [asT]
  rfl
/-- an item is set -/
def setS (y k x : D) (ρ : Slots) (st : Store) : R Slots :=
  match y with
  | .ref n => match st[n]?, k with
    | some (.lst xs), .int k => match L2.ixN xs.length k with
      | some j => .ok ρ (putCell st n (.lst (xs.set j x)))
      | none => .stuck
    | some (.dict kvs), .str k => if kvs.length < sizeLine then .ok ρ (putCell st n (.dict (putK kvs k x))) else .stuck
    | _, _ => .stuck
  | _ => .stuck
theorem asT_sb {o i : Ex} {x : D} : asT Φ (.sb o i) x ρ st = (noExc (evE Φ o ρ st)).bind fun y st => (noExc (evE Φ i ρ st)).bind fun k st => setS y k x ρ st := by
  simp only [asT]
  rfl
theorem asT_nm {i : Nat} {x : D} : asT Φ (.nm i) x ρ st = .ok (ρ.set i (.val x)) st := by simp only [asT]
theorem asT_tp {ts : Ts} {xs : List D} : asT Φ (.tp ts) (.tup xs) ρ st = asTs Φ ts xs ρ st := by simp only [asT]
/-! ### the equations of the walk -/
def kBin (o : Bop) (x : R D) (Φ : Phi) (b : Ex) (ρ : Slots) : R D := x.bind fun x st => (evE Φ b ρ st).bind fun y st => lift (binD o x y) st
def kBin2 (o : Bop) (x : D) (y : R D) : R D := y.bind fun y st => lift (binD o x y) st
def kNeg (x : R D) : R D := x.bind fun x st => match x with
    | .int i => .ok (.int (-i)) st
    | _ => .stuck
def liftB (o : Option Bool) (st : Store) : R D := (lift o st).bind fun k st => .ok (.bl k) st
def kCmp (o : Cop) (x : R D) (Φ : Phi) (b : Ex) (ρ : Slots) : R D := x.bind fun x st => (evE Φ b ρ st).bind fun y st => liftB (cmpD o st x y) st
def kCmp2 (o : Cop) (x : D) (y : R D) : R D := y.bind fun y st => liftB (cmpD o st x y) st
def kChn (o o' : Cop) (x : R D) (Φ : Phi) (b c : Ex) (ρ : Slots) : R D := x.bind fun x st => (evE Φ b ρ st).bind fun y st => (lift (cmpD o st x y) st).bind fun k st =>
      if k then (evE Φ c ρ st).bind fun z st => liftB (cmpD o' st y z) st else .ok (.bl false) st
def kChn2 (o o' : Cop) (x : D) (y : R D) (Φ : Phi) (c : Ex) (ρ : Slots) : R D := y.bind fun y st => (lift (cmpD o st x y) st).bind fun k st =>
      if k then (evE Φ c ρ st).bind fun z st => liftB (cmpD o' st y z) st else .ok (.bl false) st
def kChn3 (o' : Cop) (y : D) (k : R Bool) (Φ : Phi) (c : Ex) (ρ : Slots) : R D := k.bind fun k st =>
      if k then (evE Φ c ρ st).bind fun z st => liftB (cmpD o' st y z) st else .ok (.bl false) st
def kAnd (x : R D) (Φ : Phi) (b : Ex) (ρ : Slots) : R D := x.bind fun x st => match x with
    | .bl true => evE Φ b ρ st
    | .bl false => .ok (.bl false) st
    | _ => .stuck
def kOr (x : R D) (Φ : Phi) (b : Ex) (ρ : Slots) : R D := x.bind fun x st => match x with
    | .bl true => .ok (.bl true) st
    | .bl false => evE Φ b ρ st
    | _ => .stuck
def liftN (o : Option Bool) (st : Store) : R D := (lift o st).bind fun k st => .ok (.bl !k) st
def kNot (x : R D) : R D := x.bind fun x st => liftN (truD st x) st
def kIfe (x : R Bool) (Φ : Phi) (a b : Ex) (ρ : Slots) : R D := x.bind fun k st => if k then evE Φ a ρ st else evE Φ b ρ st
def kTup (x : R (List D)) : R D := x.bind fun ds st => .ok (.tup ds) st
def kFrz (x : R (List D)) : R D := x.bind fun ds st => .ok (.lst ds) st
def kCel (x : R (List D)) : R D := x.bind fun ds st => .ok (.ref st.length) (st ++ [.lst ds])
def kDic (ks : List Str) (x : R (List D)) : R D := x.bind fun ds st => .ok (.ref st.length) (st ++ [.dict (ks.zip ds)])
def kIdx (x : R D) (Φ : Phi) (b : Ex) (ρ : Slots) : R D := x.bind fun x st => (evE Φ b ρ st).bind fun y st => lift (idxD st x y) st
def kIdx2 (x : D) (y : R D) : R D := y.bind fun y st => lift (idxD st x y) st
def slcD (x : D) (l h : Option Int) (st : Store) : R D := match view st x with
    | .tup xs => .ok (.tup (cutD xs l h)) st
    | .lst xs => .ok (.lst (cutD xs l h)) st
    | .str s => if s.length ≤ sizeLine then .ok (.str (L2.cutS s l h)) st else .stuck
    | _ => .stuck
def kSlc (x : R D) (Φ : Phi) (lo hi : Eo) (ρ : Slots) : R D := x.bind fun x st => (evEo Φ lo ρ st).bind fun l st => (evEo Φ hi ρ st).bind fun h st => slcD x l h st
def kSlc2 (x : D) (l : R (Option Int)) (Φ : Phi) (hi : Eo) (ρ : Slots) : R D := l.bind fun l st => (evEo Φ hi ρ st).bind fun h st => slcD x l h st
def kSlc3 (x : D) (l : Option Int) (h : R (Option Int)) : R D := h.bind fun h st => slcD x l h st
def kFld (f : Str) (x : R D) : R D := x.bind fun x st => lift (fldD st x f) st
def kCall (f : Nat) (Φ : Phi) (x : R (List D)) : R D := x.bind fun ds st => Φ f ds st
def kMake (f : Nat) (Φ : Phi) (x : R (List D)) : R D := x.bind fun ds st => (noExc (Φ f (.ref st.length :: ds) (st ++ [.ins f []]))).bind fun r st' => match r with
    | .non => .ok (.ref st.length) st'
    | _ => .stuck
def kMake2 (n : Nat) (x : R D) : R D := (noExc x).bind fun r st' => match r with
    | .non => .ok (.ref n) st'
    | _ => .stuck
def kMeth (f c : Nat) (m : Str) (x : R D) (Φ : Phi) (es : Es) (ρ : Slots) : R D := x.bind fun x st => if instOf st x c m then (evEs Φ es ρ st).bind fun ds st => Φ f (x :: ds) st else .stuck
def kMeth2 (f : Nat) (x : D) (Φ : Phi) (y : R (List D)) : R D := y.bind fun ds st => Φ f (x :: ds) st
def kBlt (b : BI) (x : R (List D)) : R D := x.bind fun ds st => lift (biD b st ds) st
def appD (x y : D) (st : Store) : R D := match lstAt st x with
    | some xs => if xs.length < sizeLine then .ok .non (putL st x (xs ++ [y])) else .stuck
    | none => .stuck
def kApp (x : R D) (Φ : Phi) (e : Ex) (ρ : Slots) : R D := x.bind fun x st => if (lstAt st x).isSome then (evE Φ e ρ st).bind fun y st => appD x y st else .stuck
def kApp2 (x : D) (y : R D) : R D := y.bind fun y st => appD x y st
def popD (x : D) (st : Store) : R D := match lstAt st x with
    | some xs => match xs[xs.length - 1]? with
      | some y => .ok y (putL st x xs.dropLast)
      | none => .stuck
    | none => .stuck
def kPop (x : R D) : R D := x.bind fun x st => popD x st
def olenD (o : Option (List D)) (st : Store) : R D := match o with
    | some xs => .ok (.int xs.length) st
    | none => .stuck
def oidxD (o : Option (List D)) (e : Ex) (Φ : Phi) (ρ : Slots) (st : Store) : R D := match o with
    | some xs => (evE Φ e ρ st).bind fun y st => match y with
      | .int k => lift (atD xs k) st
      | _ => .stuck
    | none => .stuck
def kOidx (xs : List D) (y : R D) : R D := y.bind fun y st => match y with
      | .int k => lift (atD xs k) st
      | _ => .stuck
def lsetQ (x : D) (st : Store) : R D := match seqOf st x with
    | some xs => lift (lsetD xs) st
    | none => .stuck
def kLset (x : R D) : R D := x.bind fun x st => lsetQ x st
def dofQ (x : D) (st : Store) : R D := match (listOf st x).bind pairsD with
    | some kvs => .ok (.ref st.length) (st ++ [.dict (mergeD kvs)])
    | none => .stuck
def kDof (x : R D) : R D := x.bind fun x st => dofQ x st
def kT (x : R D) : R Bool := x.bind fun x st => lift (truD st x) st
def kAndT (x : R Bool) (Φ : Phi) (b : Ex) (ρ : Slots) : R Bool := x.bind fun k st => if k then evT Φ b ρ st else .ok false st
def kOrT (x : R Bool) (Φ : Phi) (b : Ex) (ρ : Slots) : R Bool := x.bind fun k st => if k then .ok true st else evT Φ b ρ st
def kNotT (x : R Bool) : R Bool := x.bind fun k st => .ok (!k) st
def kEo (x : R D) : R (Option Int) := x.bind fun x st => match x with
    | .int i => .ok (some i) st
    | _ => .stuck
def kEs (x : R D) (Φ : Phi) (es : Es) (ρ : Slots) : R (List D) := x.bind fun x st => (evEs Φ es ρ st).bind fun xs st => .ok (x :: xs) st
def kEs2 (x : D) (xs : R (List D)) : R (List D) := xs.bind fun xs st => .ok (x :: xs) st
def kCopy (x : R D) : R (List D) := x.bind fun x st => lift (seqOf st x) st
def revQ (x : D) (st : Store) : R (List D) := match listOf st x with
    | some xs => .ok xs.reverse st
    | none => .stuck
def kRev (x : R D) : R (List D) := x.bind fun x st => revQ x st
def sortQ (x : D) (st : Store) : R (List D) := match seqOf st x with
    | some xs => lift (sortD false xs) st
    | none => .stuck
def kSort (x : R D) : R (List D) := x.bind fun x st => sortQ x st
def srevQ (x : D) (st : Store) : R (List D) := match listOf st x with
    | some xs => lift (sortD true xs) st
    | none => .stuck
def kSrev (x : R D) : R (List D) := x.bind fun x st => srevQ x st
def ssetQ (x : D) (st : Store) : R (List D) := match seqOf st x with
    | some xs => lift (ssetD xs) st
    | none => .stuck
def kSset (x : R D) : R (List D) := x.bind fun x st => ssetQ x st
def catQ (x y : D) (st : Store) : R (List D) := match view st x, view st y with
    | .lst xs, .lst ys => if xs.length + ys.length ≤ sizeLine then .ok (xs ++ ys) st else .stuck
    | _, _ => .stuck
def kCat (x : R D) (Φ : Phi) (b : Ex) (ρ : Slots) : R (List D) := x.bind fun x st => (evE Φ b ρ st).bind fun y st => catQ x y st
def kCat2 (x : D) (y : R D) : R (List D) := y.bind fun y st => catQ x y st
def repQ (x y : D) (st : Store) : R (List D) := match x, y with
    | .lst xs, .int k => if -(2 ^ 63) ≤ k ∧ k < 2 ^ 63 ∧ xs.length * k.toNat ≤ sizeLine then .ok (List.replicate k.toNat xs).flatten st else .stuck
    | _, _ => .stuck
def kRep (x : R D) (Φ : Phi) (b : Ex) (ρ : Slots) : R (List D) := x.bind fun x st => (evE Φ b ρ st).bind fun y st => repQ x y st
def kRep2 (x : D) (y : R D) : R (List D) := y.bind fun y st => repQ x y st
def kTs (x : R Slots) (Φ : Phi) (ts : Ts) (xs : List D) : R Slots := x.bind fun ρ st => asTs Φ ts xs ρ st
def kFl (y : R D) (f : Str) (x : D) (ρ : Slots) : R Slots := (noExc y).bind fun y st => setF y f x ρ st
def kSb (y : R D) (Φ : Phi) (i : Ex) (x : D) (ρ : Slots) : R Slots := (noExc y).bind fun y st => (noExc (evE Φ i ρ st)).bind fun k st => setS y k x ρ st
def kSb2 (y : D) (k : R D) (x : D) (ρ : Slots) : R Slots := (noExc k).bind fun k st => setS y k x ρ st
def kAsg (x : R D) (Φ : Phi) (tg : Tg) (ρ : Slots) : RS := x.s ρ fun x st => (asT Φ tg x ρ st).s ρ fun ρ st => .ok (.next ρ) st
def kAsg2 (x : R Slots) (ρ : Slots) : RS := x.s ρ fun ρ st => .ok (.next ρ) st
def kPar (i j : Nat) (x : R D) (Φ : Phi) (b : Ex) (ρ : Slots) : RS := x.s ρ fun x st => (evE Φ b ρ st).s ρ fun y st => .ok (.next ((ρ.set i (.val x)).set j (.val y))) st
def kPar2 (i j : Nat) (x : D) (y : R D) (ρ : Slots) : RS := y.s ρ fun y st => .ok (.next ((ρ.set i (.val x)).set j (.val y))) st
def kPar3 (i j l : Nat) (x : R D) (Φ : Phi) (b c : Ex) (ρ : Slots) : RS := x.s ρ fun x st => (evE Φ b ρ st).s ρ fun y st => (evE Φ c ρ st).s ρ fun z st => .ok (.next (((ρ.set i (.val x)).set j (.val y)).set l (.val z))) st
def kPar3b (i j l : Nat) (x : D) (y : R D) (Φ : Phi) (c : Ex) (ρ : Slots) : RS := y.s ρ fun y st => (evE Φ c ρ st).s ρ fun z st => .ok (.next (((ρ.set i (.val x)).set j (.val y)).set l (.val z))) st
def kPar3c (i j l : Nat) (x y : D) (z : R D) (ρ : Slots) : RS := z.s ρ fun z st => .ok (.next (((ρ.set i (.val x)).set j (.val y)).set l (.val z))) st
def kOwn (i : Nat) (x : R (List D)) (ρ : Slots) : RS := x.s ρ fun xs st => .ok (.next (ρ.set i (.own xs))) st
def frzQ (o : Option (List D)) (i : Nat) (ρ : Slots) (st : Store) : RS := match o with
    | some xs => .ok (.next (ρ.set i (.val (.lst xs)))) st
    | none => .ok (.next ρ) st
def oappQ (o : Option (List D)) (i : Nat) (e : Ex) (Φ : Phi) (ρ : Slots) (st : Store) : RS := match o with
    | some xs => (evE Φ e ρ st).s ρ fun y st => if xs.length < sizeLine then .ok (.next (ρ.set i (.own (xs ++ [y])))) st else .stuck
    | none => .stuck
def kOapp (xs : List D) (i : Nat) (y : R D) (ρ : Slots) : RS := y.s ρ fun y st => if xs.length < sizeLine then .ok (.next (ρ.set i (.own (xs ++ [y])))) st else .stuck
def extQ (xs : List D) (i : Nat) (y : D) (ρ : Slots) (st : Store) : RS := match y with
      | .lst ys => if xs.length + ys.length ≤ sizeLine then .ok (.next (ρ.set i (.own (xs ++ ys)))) st else .stuck
      | _ => .stuck
def oextQ (o : Option (List D)) (i : Nat) (e : Ex) (Φ : Phi) (ρ : Slots) (st : Store) : RS := match o with
    | some xs => (evE Φ e ρ st).s ρ fun y st => extQ xs i y ρ st
    | none => .stuck
def kOext (xs : List D) (i : Nat) (y : R D) (ρ : Slots) : RS := y.s ρ fun y st => extQ xs i y ρ st
def osetQ2 (xs : List D) (i : Nat) (y k : D) (ρ : Slots) (st : Store) : RS := match k with
      | .int k => match L2.ixN xs.length k with
        | some j => .ok (.next (ρ.set i (.own (xs.set j y)))) st
        | none => .stuck
      | _ => .stuck
def osetQ (o : Option (List D)) (i : Nat) (a e : Ex) (Φ : Phi) (ρ : Slots) (st : Store) : RS := match o with
    | some xs => (evE Φ e ρ st).s ρ fun y st => (noExc (evE Φ a ρ st)).s ρ fun k st => osetQ2 xs i y k ρ st
    | none => .stuck
def kOset (xs : List D) (i : Nat) (a : Ex) (y : R D) (Φ : Phi) (ρ : Slots) : RS := y.s ρ fun y st => (noExc (evE Φ a ρ st)).s ρ fun k st => osetQ2 xs i y k ρ st
def kOset2 (xs : List D) (i : Nat) (y : D) (k : R D) (ρ : Slots) : RS := (noExc k).s ρ fun k st => osetQ2 xs i y k ρ st
def kExpr (x : R D) (ρ : Slots) : RS := x.s ρ fun _ st => .ok (.next ρ) st
def kRet (x : R D) (ρ : Slots) : RS := x.s ρ fun x st => .ok (.ret x) st
def kIf (x : R Bool) (Φ : Phi) (a b : Ss) (ρ : Slots) : RS := x.s ρ fun k st => if k then evSs Φ a ρ st else evSs Φ b ρ st
def kSeq (x : RS) (Φ : Phi) (r : Ss) : RS := x.bind fun ρ st => evSs Φ r ρ st
theorem yx_var {Φ : Phi} {ρ : Slots} {st : Store} {i : Nat} : evE Φ (.var i) ρ st = lift (getV ρ i) st := by
  simp only [evE]
  try rfl
theorem yx_con {Φ : Phi} {ρ : Slots} {st : Store} {d : D} : evE Φ (.con d) ρ st = .ok d st := by
  simp only [evE]
  try rfl
theorem yx_glob {Φ : Phi} {ρ : Slots} {st : Store} {x : Str} {d : D} : evE Φ (.glob x d) ρ st = .ok d st := by
  simp only [evE]
  try rfl
theorem yx_bin {Φ : Phi} {ρ : Slots} {st : Store} {o : Bop} {a b : Ex} : evE Φ (.bin o a b) ρ st = kBin o (evE Φ a ρ st) Φ b ρ := by
  simp only [evE]
  try rfl
theorem yx_bin1 {Φ : Phi} {ρ : Slots} {st : Store} {o : Bop} {b : Ex} {x : D} : kBin o (.ok x st) Φ b ρ = kBin2 o x (evE Φ b ρ st) := rfl
theorem yx_bin2 {st : Store} {o : Bop} {x y : D} : kBin2 o x (.ok y st) = lift (binD o x y) st := rfl
theorem yx_neg {Φ : Phi} {ρ : Slots} {st : Store} {a : Ex} : evE Φ (.neg a) ρ st = kNeg (evE Φ a ρ st) := by
  simp only [evE]
  try rfl
theorem yx_neg1 {st : Store} {i : Int} : kNeg (.ok (.int i) st) = .ok (.int (-i)) st := rfl
theorem yx_liftB {st : Store} {k : Bool} : liftB (some k) st = .ok (.bl k) st := rfl
theorem yx_cmp {Φ : Phi} {ρ : Slots} {st : Store} {o : Cop} {a b : Ex} : evE Φ (.cmp o a b) ρ st = kCmp o (evE Φ a ρ st) Φ b ρ := by
  simp only [evE]
  try rfl
theorem yx_cmp1 {Φ : Phi} {ρ : Slots} {st : Store} {o : Cop} {b : Ex} {x : D} : kCmp o (.ok x st) Φ b ρ = kCmp2 o x (evE Φ b ρ st) := rfl
theorem yx_cmp2 {st : Store} {o : Cop} {x y : D} : kCmp2 o x (.ok y st) = liftB (cmpD o st x y) st := rfl
theorem yx_chn {Φ : Phi} {ρ : Slots} {st : Store} {o o' : Cop} {a b c : Ex} : evE Φ (.chn o o' a b c) ρ st = kChn o o' (evE Φ a ρ st) Φ b c ρ := by
  simp only [evE]
  try rfl
theorem yx_chn1 {Φ : Phi} {ρ : Slots} {st : Store} {o o' : Cop} {b c : Ex} {x : D} : kChn o o' (.ok x st) Φ b c ρ = kChn2 o o' x (evE Φ b ρ st) Φ c ρ := rfl
theorem yx_chn2 {Φ : Phi} {ρ : Slots} {st : Store} {o o' : Cop} {c : Ex} {x y : D} : kChn2 o o' x (.ok y st) Φ c ρ = kChn3 o' y (lift (cmpD o st x y) st) Φ c ρ := rfl
theorem yx_chn3 {Φ : Phi} {ρ : Slots} {st : Store} {o' : Cop} {c : Ex} {y : D} {k : Bool} : kChn3 o' y (.ok k st) Φ c ρ = if k then kCmp2 o' y (evE Φ c ρ st) else .ok (.bl false) st := rfl
theorem yx_and {Φ : Phi} {ρ : Slots} {st : Store} {a b : Ex} : evE Φ (.and a b) ρ st = kAnd (evE Φ a ρ st) Φ b ρ := by
  simp only [evE]
  try rfl
theorem yx_and1 {Φ : Phi} {ρ : Slots} {st : Store} {b : Ex} {k : Bool} : kAnd (.ok (.bl k) st) Φ b ρ = if k then evE Φ b ρ st else .ok (.bl false) st := by cases k <;> rfl
theorem yx_or {Φ : Phi} {ρ : Slots} {st : Store} {a b : Ex} : evE Φ (.or a b) ρ st = kOr (evE Φ a ρ st) Φ b ρ := by
  simp only [evE]
  try rfl
theorem yx_or1 {Φ : Phi} {ρ : Slots} {st : Store} {b : Ex} {k : Bool} : kOr (.ok (.bl k) st) Φ b ρ = if k then .ok (.bl true) st else evE Φ b ρ st := by cases k <;> rfl
theorem yx_liftN {st : Store} {k : Bool} : liftN (some k) st = .ok (.bl !k) st := rfl
theorem yx_not {Φ : Phi} {ρ : Slots} {st : Store} {a : Ex} : evE Φ (.not a) ρ st = kNot (evE Φ a ρ st) := by
  simp only [evE]
  try rfl
theorem yx_not1 {st : Store} {x : D} : kNot (.ok x st) = liftN (truD st x) st := rfl
theorem yx_ife {Φ : Phi} {ρ : Slots} {st : Store} {c a b : Ex} : evE Φ (.ife c a b) ρ st = kIfe (evT Φ c ρ st) Φ a b ρ := by
  simp only [evE]
  try rfl
theorem yx_ife1 {Φ : Phi} {ρ : Slots} {st : Store} {a b : Ex} {k : Bool} : kIfe (.ok k st) Φ a b ρ = if k then evE Φ a ρ st else evE Φ b ρ st := rfl
theorem yx_tup {Φ : Phi} {ρ : Slots} {st : Store} {es : Es} : evE Φ (.tup es) ρ st = kTup (evEs Φ es ρ st) := by
  simp only [evE]
  try rfl
theorem yx_tup1 {st : Store} {ds : List D} : kTup (.ok ds st) = .ok (.tup ds) st := rfl
theorem yx_frz {Φ : Phi} {ρ : Slots} {st : Store} {c : Cr} : evE Φ (.frz c) ρ st = kFrz (evC Φ c ρ st) := by
  simp only [evE]
  try rfl
theorem yx_frz1 {st : Store} {ds : List D} : kFrz (.ok ds st) = .ok (.lst ds) st := rfl
theorem yx_cel {Φ : Phi} {ρ : Slots} {st : Store} {c : Cr} : evE Φ (.cel c) ρ st = kCel (evC Φ c ρ st) := by
  simp only [evE]
  try rfl
theorem yx_cel1 {st : Store} {ds : List D} : kCel (.ok ds st) = .ok (.ref st.length) (st ++ [.lst ds]) := rfl
theorem yx_dic {Φ : Phi} {ρ : Slots} {st : Store} {ks : List Str} {es : Es} : evE Φ (.dic ks es) ρ st = kDic ks (evEs Φ es ρ st) := by
  simp only [evE]
  try rfl
theorem yx_dic1 {st : Store} {ks : List Str} {ds : List D} : kDic ks (.ok ds st) = .ok (.ref st.length) (st ++ [.dict (ks.zip ds)]) := rfl
theorem yx_idx {Φ : Phi} {ρ : Slots} {st : Store} {a b : Ex} : evE Φ (.idx a b) ρ st = kIdx (evE Φ a ρ st) Φ b ρ := by
  simp only [evE]
  try rfl
theorem yx_idx1 {Φ : Phi} {ρ : Slots} {st : Store} {b : Ex} {x : D} : kIdx (.ok x st) Φ b ρ = kIdx2 x (evE Φ b ρ st) := rfl
theorem yx_idx2 {st : Store} {x y : D} : kIdx2 x (.ok y st) = lift (idxD st x y) st := rfl
theorem yx_slc {Φ : Phi} {ρ : Slots} {st : Store} {a : Ex} {lo hi : Eo} : evE Φ (.slc a lo hi) ρ st = kSlc (evE Φ a ρ st) Φ lo hi ρ := by
  simp only [evE]
  try rfl
theorem yx_slc1 {Φ : Phi} {ρ : Slots} {st : Store} {x : D} {lo hi : Eo} : kSlc (.ok x st) Φ lo hi ρ = kSlc2 x (evEo Φ lo ρ st) Φ hi ρ := rfl
theorem yx_slc2 {Φ : Phi} {ρ : Slots} {st : Store} {x : D} {l : Option Int} {hi : Eo} : kSlc2 x (.ok l st) Φ hi ρ = kSlc3 x l (evEo Φ hi ρ st) := rfl
theorem yx_slc3 {st : Store} {x : D} {l h : Option Int} : kSlc3 x l (.ok h st) = slcD x l h st := rfl
theorem yx_slcT {st : Store} {xs : List D} {l h : Option Int} : slcD (.tup xs) l h st = .ok (.tup (cutD xs l h)) st := rfl
theorem yx_slcL {st : Store} {xs : List D} {l h : Option Int} : slcD (.lst xs) l h st = .ok (.lst (cutD xs l h)) st := rfl
theorem yx_fld {Φ : Phi} {ρ : Slots} {st : Store} {a : Ex} {f : Str} : evE Φ (.fld a f) ρ st = kFld f (evE Φ a ρ st) := by
  simp only [evE]
  try rfl
theorem yx_fld1 {st : Store} {f : Str} {x : D} : kFld f (.ok x st) = lift (fldD st x f) st := rfl
theorem yx_call {Φ : Phi} {ρ : Slots} {st : Store} {f : Nat} {es : Es} : evE Φ (.call f es) ρ st = kCall f Φ (evEs Φ es ρ st) := by
  simp only [evE]
  try rfl
theorem yx_call1 {Φ : Phi} {st : Store} {f : Nat} {ds : List D} : kCall f Φ (.ok ds st) = Φ f ds st := rfl
theorem yx_make {Φ : Phi} {ρ : Slots} {st : Store} {f : Nat} {es : Es} : evE Φ (.make f es) ρ st = kMake f Φ (evEs Φ es ρ st) := by
  simp only [evE]
  try rfl
theorem yx_make1 {Φ : Phi} {st : Store} {f : Nat} {ds : List D} : kMake f Φ (.ok ds st) = kMake2 st.length (Φ f (.ref st.length :: ds) (st ++ [.ins f []])) := rfl
theorem yx_make2 {st : Store} {n : Nat} : kMake2 n (.ok .non st) = .ok (.ref n) st := rfl
theorem yx_meth {Φ : Phi} {ρ : Slots} {st : Store} {f c : Nat} {m : Str} {o : Ex} {es : Es} : evE Φ (.meth f c m o es) ρ st = kMeth f c m (evE Φ o ρ st) Φ es ρ := by
  simp only [evE]
  try rfl
theorem yx_meth1 {Φ : Phi} {ρ : Slots} {st : Store} {f c : Nat} {m : Str} {es : Es} {x : D} : kMeth f c m (.ok x st) Φ es ρ = if instOf st x c m then kMeth2 f x Φ (evEs Φ es ρ st) else .stuck := rfl
theorem yx_meth2 {Φ : Phi} {st : Store} {f : Nat} {x : D} {ds : List D} : kMeth2 f x Φ (.ok ds st) = Φ f (x :: ds) st := rfl
theorem yx_blt {Φ : Phi} {ρ : Slots} {st : Store} {b : BI} {es : Es} : evE Φ (.blt b es) ρ st = kBlt b (evEs Φ es ρ st) := by
  simp only [evE]
  try rfl
theorem yx_blt1 {st : Store} {b : BI} {ds : List D} : kBlt b (.ok ds st) = lift (biD b st ds) st := rfl
theorem yx_app {Φ : Phi} {ρ : Slots} {st : Store} {o e : Ex} : evE Φ (.app o e) ρ st = kApp (evE Φ o ρ st) Φ e ρ := by
  simp only [evE]
  try rfl
theorem yx_app1 {Φ : Phi} {ρ : Slots} {st : Store} {x : D} {e : Ex} : kApp (.ok x st) Φ e ρ = if (lstAt st x).isSome then kApp2 x (evE Φ e ρ st) else .stuck := rfl
theorem yx_app2 {st : Store} {x y : D} : kApp2 x (.ok y st) = appD x y st := rfl
theorem yx_pop {Φ : Phi} {ρ : Slots} {st : Store} {o : Ex} : evE Φ (.pop o) ρ st = kPop (evE Φ o ρ st) := by
  simp only [evE]
  try rfl
theorem yx_pop1 {st : Store} {x : D} : kPop (.ok x st) = popD x st := rfl
theorem yx_olen {Φ : Phi} {ρ : Slots} {st : Store} {i : Nat} : evE Φ (.olen i) ρ st = olenD (getO ρ i) st := by
  simp only [evE]
  try rfl
theorem yx_olen1 {st : Store} {xs : List D} : olenD (some xs) st = .ok (.int xs.length) st := rfl
theorem yx_oidx {Φ : Phi} {ρ : Slots} {st : Store} {i : Nat} {e : Ex} : evE Φ (.oidx i e) ρ st = oidxD (getO ρ i) e Φ ρ st := by
  simp only [evE]
  try rfl
theorem yx_oidx1 {Φ : Phi} {ρ : Slots} {st : Store} {xs : List D} {e : Ex} : oidxD (some xs) e Φ ρ st = kOidx xs (evE Φ e ρ st) := rfl
theorem yx_oidx2 {st : Store} {xs : List D} {k : Int} : kOidx xs (.ok (.int k) st) = lift (L2.atI xs k) st := rfl
theorem yx_lset {Φ : Phi} {ρ : Slots} {st : Store} {e : Ex} : evE Φ (.lset e) ρ st = kLset (evE Φ e ρ st) := by
  simp only [evE]
  try rfl
theorem yx_lset1 {st : Store} {x : D} : kLset (.ok x st) = lsetQ x st := rfl
theorem yx_dof {Φ : Phi} {ρ : Slots} {st : Store} {e : Ex} : evE Φ (.dof e) ρ st = kDof (evE Φ e ρ st) := by
  simp only [evE]
  try rfl
theorem yx_dof1 {st : Store} {x : D} : kDof (.ok x st) = dofQ x st := rfl
theorem yt_ok {st : Store} {x : D} : kT (.ok x st) = lift (truD st x) st := rfl
theorem yt_and {Φ : Phi} {ρ : Slots} {st : Store} {a b : Ex} : evT Φ (.and a b) ρ st = kAndT (evT Φ a ρ st) Φ b ρ := by
  simp only [evT]
  try rfl
theorem yt_or {Φ : Phi} {ρ : Slots} {st : Store} {a b : Ex} : evT Φ (.or a b) ρ st = kOrT (evT Φ a ρ st) Φ b ρ := by
  simp only [evT]
  try rfl
theorem yt_not {Φ : Phi} {ρ : Slots} {st : Store} {a : Ex} : evT Φ (.not a) ρ st = kNotT (evT Φ a ρ st) := by
  simp only [evT]
  try rfl
theorem yt_and1 {Φ : Phi} {ρ : Slots} {st : Store} {b : Ex} {k : Bool} : kAndT (.ok k st) Φ b ρ = if k then evT Φ b ρ st else .ok false st := rfl
theorem yt_or1 {Φ : Phi} {ρ : Slots} {st : Store} {b : Ex} {k : Bool} : kOrT (.ok k st) Φ b ρ = if k then .ok true st else evT Φ b ρ st := rfl
theorem yt_not1 {st : Store} {k : Bool} : kNotT (.ok k st) = .ok (!k) st := rfl
theorem yt_var {Φ : Phi} {ρ : Slots} {st : Store} {i : Nat} : evT Φ (.var i) ρ st = kT (evE Φ (.var i) ρ st) := by
  simp only [evT]
  try rfl
theorem yt_con {Φ : Phi} {ρ : Slots} {st : Store} {d : D} : evT Φ (.con d) ρ st = kT (evE Φ (.con d) ρ st) := by
  simp only [evT]
  try rfl
theorem yt_glob {Φ : Phi} {ρ : Slots} {st : Store} {x : Str} {d : D} : evT Φ (.glob x d) ρ st = kT (evE Φ (.glob x d) ρ st) := by
  simp only [evT]
  try rfl
theorem yt_bin {Φ : Phi} {ρ : Slots} {st : Store} {o : Bop} {a b : Ex} : evT Φ (.bin o a b) ρ st = kT (evE Φ (.bin o a b) ρ st) := by
  simp only [evT]
  try rfl
theorem yt_neg {Φ : Phi} {ρ : Slots} {st : Store} {a : Ex} : evT Φ (.neg a) ρ st = kT (evE Φ (.neg a) ρ st) := by
  simp only [evT]
  try rfl
theorem yt_cmp {Φ : Phi} {ρ : Slots} {st : Store} {o : Cop} {a b : Ex} : evT Φ (.cmp o a b) ρ st = kT (evE Φ (.cmp o a b) ρ st) := by
  simp only [evT]
  try rfl
theorem yt_chn {Φ : Phi} {ρ : Slots} {st : Store} {o o' : Cop} {a b c : Ex} : evT Φ (.chn o o' a b c) ρ st = kT (evE Φ (.chn o o' a b c) ρ st) := by
  simp only [evT]
  try rfl
theorem yt_ife {Φ : Phi} {ρ : Slots} {st : Store} {c a b : Ex} : evT Φ (.ife c a b) ρ st = kT (evE Φ (.ife c a b) ρ st) := by
  simp only [evT]
  try rfl
theorem yt_tup {Φ : Phi} {ρ : Slots} {st : Store} {es : Es} : evT Φ (.tup es) ρ st = kT (evE Φ (.tup es) ρ st) := by
  simp only [evT]
  try rfl
theorem yt_frz {Φ : Phi} {ρ : Slots} {st : Store} {c : Cr} : evT Φ (.frz c) ρ st = kT (evE Φ (.frz c) ρ st) := by
  simp only [evT]
  try rfl
theorem yt_idx {Φ : Phi} {ρ : Slots} {st : Store} {a b : Ex} : evT Φ (.idx a b) ρ st = kT (evE Φ (.idx a b) ρ st) := by
  simp only [evT]
  try rfl
theorem yt_slc {Φ : Phi} {ρ : Slots} {st : Store} {a : Ex} {lo hi : Eo} : evT Φ (.slc a lo hi) ρ st = kT (evE Φ (.slc a lo hi) ρ st) := by
  simp only [evT]
  try rfl
theorem yt_fld {Φ : Phi} {ρ : Slots} {st : Store} {a : Ex} {f : Str} : evT Φ (.fld a f) ρ st = kT (evE Φ (.fld a f) ρ st) := by
  simp only [evT]
  try rfl
theorem yt_call {Φ : Phi} {ρ : Slots} {st : Store} {f : Nat} {es : Es} : evT Φ (.call f es) ρ st = kT (evE Φ (.call f es) ρ st) := by
  simp only [evT]
  try rfl
theorem yt_meth {Φ : Phi} {ρ : Slots} {st : Store} {f c : Nat} {m : Str} {o : Ex} {es : Es} : evT Φ (.meth f c m o es) ρ st = kT (evE Φ (.meth f c m o es) ρ st) := by
  simp only [evT]
  try rfl
theorem yt_blt {Φ : Phi} {ρ : Slots} {st : Store} {b : BI} {es : Es} : evT Φ (.blt b es) ρ st = kT (evE Φ (.blt b es) ρ st) := by
  simp only [evT]
  try rfl
theorem yt_olen {Φ : Phi} {ρ : Slots} {st : Store} {i : Nat} : evT Φ (.olen i) ρ st = kT (evE Φ (.olen i) ρ st) := by
  simp only [evT]
  try rfl
theorem yt_oidx {Φ : Phi} {ρ : Slots} {st : Store} {i : Nat} {e : Ex} : evT Φ (.oidx i e) ρ st = kT (evE Φ (.oidx i e) ρ st) := by
  simp only [evT]
  try rfl
theorem yt_lset {Φ : Phi} {ρ : Slots} {st : Store} {e : Ex} : evT Φ (.lset e) ρ st = kT (evE Φ (.lset e) ρ st) := by
  simp only [evT]
  try rfl
theorem yt_pop {Φ : Phi} {ρ : Slots} {st : Store} {o : Ex} : evT Φ (.pop o) ρ st = kT (evE Φ (.pop o) ρ st) := by
  simp only [evT]
  try rfl
theorem yx_eo0 {Φ : Phi} {ρ : Slots} {st : Store}  : evEo Φ .none ρ st = .ok none st := by
  simp only [evEo]
  try rfl
theorem yx_eo {Φ : Phi} {ρ : Slots} {st : Store} {e : Ex} : evEo Φ (.some e) ρ st = kEo (evE Φ e ρ st) := by
  simp only [evEo]
  try rfl
theorem yx_eo1 {st : Store} {i : Int} : kEo (.ok (.int i) st) = .ok (some i) st := rfl
theorem yx_es0 {Φ : Phi} {ρ : Slots} {st : Store}  : evEs Φ .nil ρ st = .ok [] st := by
  simp only [evEs]
  try rfl
theorem yx_es {Φ : Phi} {ρ : Slots} {st : Store} {e : Ex} {es : Es} : evEs Φ (.cons e es) ρ st = kEs (evE Φ e ρ st) Φ es ρ := by
  simp only [evEs]
  try rfl
theorem yx_es1 {Φ : Phi} {ρ : Slots} {st : Store} {x : D} {es : Es} : kEs (.ok x st) Φ es ρ = kEs2 x (evEs Φ es ρ st) := rfl
theorem yx_es2 {st : Store} {x : D} {xs : List D} : kEs2 x (.ok xs st) = .ok (x :: xs) st := rfl
theorem yc_disp0 {Φ : Phi} {ρ : Slots} {st : Store} {es : Es} : evC Φ (.disp es) ρ st = evEs Φ es ρ st := by
  simp only [evC]
  try rfl
theorem yc_copy0 {Φ : Phi} {ρ : Slots} {st : Store} {e : Ex} : evC Φ (.copy e) ρ st = kCopy (evE Φ e ρ st) := by
  simp only [evC]
  try rfl
theorem yc_copy1 {st : Store} {x : D} : kCopy (.ok x st) = lift (seqOf st x) st := rfl
theorem yc_rev0 {Φ : Phi} {ρ : Slots} {st : Store} {e : Ex} : evC Φ (.rev e) ρ st = kRev (evE Φ e ρ st) := by
  simp only [evC]
  try rfl
theorem yc_rev1 {st : Store} {x : D} : kRev (.ok x st) = revQ x st := rfl
theorem yc_rev2 {st : Store} {xs : List D} : revQ (.lst xs) st = .ok xs.reverse st := rfl
theorem yc_sort0 {Φ : Phi} {ρ : Slots} {st : Store} {e : Ex} : evC Φ (.sort e) ρ st = kSort (evE Φ e ρ st) := by
  simp only [evC]
  try rfl
theorem yc_sort1 {st : Store} {x : D} : kSort (.ok x st) = sortQ x st := rfl
theorem yc_sort2 {st : Store} {xs : List D} : sortQ (.lst xs) st = lift (sortD false xs) st := rfl
theorem yc_sort3 {st : Store} {xs : List D} : sortQ (.tup xs) st = lift (sortD false xs) st := rfl
theorem yc_srev0 {Φ : Phi} {ρ : Slots} {st : Store} {e : Ex} : evC Φ (.srev e) ρ st = kSrev (evE Φ e ρ st) := by
  simp only [evC]
  try rfl
theorem yc_srev1 {st : Store} {x : D} : kSrev (.ok x st) = srevQ x st := rfl
theorem yc_srev2 {st : Store} {xs : List D} : srevQ (.lst xs) st = lift (sortD true xs) st := rfl
theorem yc_sset0 {Φ : Phi} {ρ : Slots} {st : Store} {e : Ex} : evC Φ (.sset e) ρ st = kSset (evE Φ e ρ st) := by
  simp only [evC]
  try rfl
theorem yc_sset1 {st : Store} {x : D} : kSset (.ok x st) = ssetQ x st := rfl
theorem yc_sset2 {st : Store} {xs : List D} : ssetQ (.lst xs) st = lift (ssetD xs) st := rfl
theorem yc_sset3 {st : Store} {xs : List D} : ssetQ (.tup xs) st = lift (ssetD xs) st := rfl
theorem yc_cat0 {Φ : Phi} {ρ : Slots} {st : Store} {a b : Ex} : evC Φ (.cat a b) ρ st = kCat (evE Φ a ρ st) Φ b ρ := by
  simp only [evC]
  try rfl
theorem yc_cat1 {Φ : Phi} {ρ : Slots} {st : Store} {x : D} {b : Ex} : kCat (.ok x st) Φ b ρ = kCat2 x (evE Φ b ρ st) := rfl
theorem yc_cat2 {st : Store} {x y : D} : kCat2 x (.ok y st) = catQ x y st := rfl
theorem yc_cat3 {st : Store} {xs ys : List D} (h : xs.length + ys.length ≤ sizeLine) : catQ (.lst xs) (.lst ys) st = .ok (xs ++ ys) st := if_pos h
theorem yc_rep0 {Φ : Phi} {ρ : Slots} {st : Store} {a b : Ex} : evC Φ (.rep a b) ρ st = kRep (evE Φ a ρ st) Φ b ρ := by
  simp only [evC]
  try rfl
theorem yc_rep1 {Φ : Phi} {ρ : Slots} {st : Store} {x : D} {b : Ex} : kRep (.ok x st) Φ b ρ = kRep2 x (evE Φ b ρ st) := rfl
theorem yc_rep2 {st : Store} {x y : D} : kRep2 x (.ok y st) = repQ x y st := rfl
theorem yc_rep3 {st : Store} {xs : List D} {k : Int} (h : -(2 ^ 63) ≤ k ∧ k < 2 ^ 63 ∧ xs.length * k.toNat ≤ sizeLine) : repQ (.lst xs) (.int k) st = .ok (List.replicate k.toNat xs).flatten st := if_pos h
theorem yc_co0 {Φ : Phi} {ρ : Slots} {st : Store}  : evCo Φ .none ρ st = .ok true st := by
  simp only [evCo]
  try rfl
theorem yc_co {Φ : Phi} {ρ : Slots} {st : Store} {e : Ex} : evCo Φ (.some e) ρ st = evT Φ e ρ st := by
  simp only [evCo]
  try rfl
theorem ys_nil0 {Φ : Phi} {ρ : Slots} {st : Store}  : asTs Φ .nil [] ρ st = .ok ρ st := by
  simp only [asTs]
  try rfl
theorem ys_cons0 {Φ : Phi} {ρ : Slots} {st : Store} {t : Tg} {ts : Ts} {x : D} {xs : List D} : asTs Φ (.cons t ts) (x :: xs) ρ st = kTs (asT Φ t x ρ st) Φ ts xs := by
  simp only [asTs]
  try rfl
theorem ys_cons1 {Φ : Phi} {ρ : Slots} {st : Store} {ts : Ts} {xs : List D} : kTs (.ok ρ st) Φ ts xs = asTs Φ ts xs ρ st := rfl
theorem ys_fl {Φ : Phi} {ρ : Slots} {st : Store} {o : Ex} {f : Str} {x : D} : asT Φ (.fl o f) x ρ st = kFl (evE Φ o ρ st) f x ρ := by
  simp only [asT]
  try rfl
theorem ys_fl1 {ρ : Slots} {st : Store} {f : Str} {x y : D} : kFl (.ok y st) f x ρ = setF y f x ρ st := rfl
theorem ys_sb {Φ : Phi} {ρ : Slots} {st : Store} {o i : Ex} {x : D} : asT Φ (.sb o i) x ρ st = kSb (evE Φ o ρ st) Φ i x ρ := by
  simp only [asT]
  try rfl
theorem ys_sb1 {Φ : Phi} {ρ : Slots} {st : Store} {i : Ex} {x y : D} : kSb (.ok y st) Φ i x ρ = kSb2 y (evE Φ i ρ st) x ρ := rfl
theorem ys_sb2 {ρ : Slots} {st : Store} {x y k : D} : kSb2 y (.ok k st) x ρ = setS y k x ρ st := rfl
theorem yS_asg {Φ : Phi} {ρ : Slots} {st : Store} {tg : Tg} {e : Ex} : evS Φ (.asg tg e) ρ st = kAsg (evE Φ e ρ st) Φ tg ρ := by
  simp only [evS]
  try rfl
theorem yS_asg1 {Φ : Phi} {ρ : Slots} {st : Store} {tg : Tg} {x : D} : kAsg (.ok x st) Φ tg ρ = kAsg2 (asT Φ tg x ρ st) ρ := rfl
theorem yS_asg2 {ρ : Slots} {st : Store} {ρ' : Slots} : kAsg2 (.ok ρ' st) ρ = RS.ok (.next ρ') st := rfl
theorem yS_par2 {Φ : Phi} {ρ : Slots} {st : Store} {i j : Nat} {a b : Ex} : evS Φ (.par2 i j a b) ρ st = kPar i j (evE Φ a ρ st) Φ b ρ := by
  simp only [evS]
  try rfl
theorem yS_par21 {Φ : Phi} {ρ : Slots} {st : Store} {i j : Nat} {b : Ex} {x : D} : kPar i j (.ok x st) Φ b ρ = kPar2 i j x (evE Φ b ρ st) ρ := rfl
theorem yS_par22 {ρ : Slots} {st : Store} {i j : Nat} {x y : D} : kPar2 i j x (.ok y st) ρ = .ok (.next ((ρ.set i (.val x)).set j (.val y))) st := rfl
theorem yS_par3 {Φ : Phi} {ρ : Slots} {st : Store} {i j l : Nat} {a b c : Ex} : evS Φ (.par3 i j l a b c) ρ st = kPar3 i j l (evE Φ a ρ st) Φ b c ρ := by
  simp only [evS]
  try rfl
theorem yS_par31 {Φ : Phi} {ρ : Slots} {st : Store} {i j l : Nat} {b c : Ex} {x : D} : kPar3 i j l (.ok x st) Φ b c ρ = kPar3b i j l x (evE Φ b ρ st) Φ c ρ := rfl
theorem yS_par32 {Φ : Phi} {ρ : Slots} {st : Store} {i j l : Nat} {c : Ex} {x y : D} : kPar3b i j l x (.ok y st) Φ c ρ = kPar3c i j l x y (evE Φ c ρ st) ρ := rfl
theorem yS_par33 {ρ : Slots} {st : Store} {i j l : Nat} {x y z : D} : kPar3c i j l x y (.ok z st) ρ = .ok (.next (((ρ.set i (.val x)).set j (.val y)).set l (.val z))) st := rfl
theorem yS_own {Φ : Phi} {ρ : Slots} {st : Store} {i : Nat} {c : Cr} : evS Φ (.own i c) ρ st = kOwn i (evC Φ c ρ st) ρ := by
  simp only [evS]
  try rfl
theorem yS_own1 {ρ : Slots} {st : Store} {i : Nat} {xs : List D} : kOwn i (.ok xs st) ρ = .ok (.next (ρ.set i (.own xs))) st := rfl
theorem yS_frz {Φ : Phi} {ρ : Slots} {st : Store} {i : Nat} : evS Φ (.frz i) ρ st = frzQ (getO ρ i) i ρ st := by
  simp only [evS]
  try rfl
theorem yS_frz1 {ρ : Slots} {st : Store} {i : Nat} {xs : List D} : frzQ (some xs) i ρ st = .ok (.next (ρ.set i (.val (.lst xs)))) st := rfl
theorem yS_frz2 {ρ : Slots} {st : Store} {i : Nat} : frzQ none i ρ st = .ok (.next ρ) st := rfl
theorem yS_oapp {Φ : Phi} {ρ : Slots} {st : Store} {i : Nat} {e : Ex} : evS Φ (.oapp i e) ρ st = oappQ (getO ρ i) i e Φ ρ st := by
  simp only [evS]
  try rfl
theorem yS_oapp1 {Φ : Phi} {ρ : Slots} {st : Store} {i : Nat} {e : Ex} {xs : List D} : oappQ (some xs) i e Φ ρ st = kOapp xs i (evE Φ e ρ st) ρ := rfl
theorem yS_oapp2 {ρ : Slots} {st : Store} {i : Nat} {xs : List D} {y : D} : kOapp xs i (.ok y st) ρ = if xs.length < sizeLine then .ok (.next (ρ.set i (.own (xs ++ [y])))) st else .stuck := rfl
theorem yS_oext {Φ : Phi} {ρ : Slots} {st : Store} {i : Nat} {e : Ex} : evS Φ (.oext i e) ρ st = oextQ (getO ρ i) i e Φ ρ st := by
  simp only [evS]
  try rfl
theorem yS_oext1 {Φ : Phi} {ρ : Slots} {st : Store} {i : Nat} {e : Ex} {xs : List D} : oextQ (some xs) i e Φ ρ st = kOext xs i (evE Φ e ρ st) ρ := rfl
theorem yS_oext2 {ρ : Slots} {st : Store} {i : Nat} {xs : List D} {y : D} : kOext xs i (.ok y st) ρ = extQ xs i y ρ st := rfl
theorem yS_oext3 {ρ : Slots} {st : Store} {i : Nat} {xs ys : List D} : extQ xs i (.lst ys) ρ st = if xs.length + ys.length ≤ sizeLine then .ok (.next (ρ.set i (.own (xs ++ ys)))) st else .stuck := rfl
theorem yS_oset {Φ : Phi} {ρ : Slots} {st : Store} {i : Nat} {a e : Ex} : evS Φ (.oset i a e) ρ st = osetQ (getO ρ i) i a e Φ ρ st := by
  simp only [evS]
  try rfl
theorem yS_oset1 {Φ : Phi} {ρ : Slots} {st : Store} {i : Nat} {a e : Ex} {xs : List D} : osetQ (some xs) i a e Φ ρ st = kOset xs i a (evE Φ e ρ st) Φ ρ := rfl
theorem yS_oset2 {Φ : Phi} {ρ : Slots} {st : Store} {i : Nat} {a : Ex} {xs : List D} {y : D} : kOset xs i a (.ok y st) Φ ρ = kOset2 xs i y (evE Φ a ρ st) ρ := rfl
theorem yS_oset3 {ρ : Slots} {st : Store} {i : Nat} {xs : List D} {y k : D} : kOset2 xs i y (.ok k st) ρ = osetQ2 xs i y k ρ st := rfl
theorem yS_expr {Φ : Phi} {ρ : Slots} {st : Store} {e : Ex} : evS Φ (.expr e) ρ st = kExpr (evE Φ e ρ st) ρ := by
  simp only [evS]
  try rfl
theorem yS_expr1 {ρ : Slots} {st : Store} {x : D} : kExpr (.ok x st) ρ = .ok (.next ρ) st := rfl
theorem yS_ret {Φ : Phi} {ρ : Slots} {st : Store} {e : Ex} : evS Φ (.ret e) ρ st = kRet (evE Φ e ρ st) ρ := by
  simp only [evS]
  try rfl
theorem yS_ret1 {ρ : Slots} {st : Store} {x : D} : kRet (.ok x st) ρ = .ok (.ret x) st := rfl
theorem yS_retN {Φ : Phi} {ρ : Slots} {st : Store}  : evS Φ .retN ρ st = .ok (.ret .non) st := by
  simp only [evS]
  try rfl
theorem yS_ife {Φ : Phi} {ρ : Slots} {st : Store} {c : Ex} {a b : Ss} : evS Φ (.ife c a b) ρ st = kIf (evT Φ c ρ st) Φ a b ρ := by
  simp only [evS]
  try rfl
theorem yS_ife1 {Φ : Phi} {ρ : Slots} {st : Store} {a b : Ss} {k : Bool} : kIf (.ok k st) Φ a b ρ = if k then evSs Φ a ρ st else evSs Φ b ρ st := rfl
theorem yS_raise {Φ : Phi} {ρ : Slots} {st : Store} {c : Nat} {m : Str} : evS Φ (.raise c m) ρ st = .exc c ρ st := by
  simp only [evS]
  try rfl
theorem yS_cont {Φ : Phi} {ρ : Slots} {st : Store}  : evS Φ .cont ρ st = .ok (.cont ρ) st := by
  simp only [evS]
  try rfl
theorem yS_brk {Φ : Phi} {ρ : Slots} {st : Store}  : evS Φ .brk ρ st = .ok (.brk ρ) st := by
  simp only [evS]
  try rfl
theorem yS_whil {Φ : Phi} {ρ : Slots} {st : Store} {n : Nat} {c : Ex} {body : Ss} : evS Φ (.whil n c body) ρ st = whileL (fun ρ st => evT Φ c ρ st) (fun ρ st => evSs Φ body ρ st) n ρ st := by
  simp only [evS]
  try rfl
theorem yQ_nil {Φ : Phi} {ρ : Slots} {st : Store}  : evSs Φ .nil ρ st = .ok (.next ρ) st := by
  simp only [evSs]
  try rfl
theorem yQ_cons {Φ : Phi} {ρ : Slots} {st : Store} {s : Sm} {r : Ss} : evSs Φ (.cons s r) ρ st = kSeq (evS Φ s ρ st) Φ r := by
  simp only [evSs]
  try rfl
theorem yQ_next {Φ : Phi} {ρ : Slots} {st : Store} {r : Ss} : kSeq (.ok (.next ρ) st) Φ r = evSs Φ r ρ st := rfl
theorem yQ_ret {Φ : Phi} {st : Store} {r : Ss} {d : D} : kSeq (.ok (.ret d) st) Φ r = .ok (.ret d) st := rfl
theorem yQ_cont {Φ : Phi} {ρ : Slots} {st : Store} {r : Ss} : kSeq (.ok (.cont ρ) st) Φ r = .ok (.cont ρ) st := rfl
theorem yQ_brk {Φ : Phi} {ρ : Slots} {st : Store} {r : Ss} : kSeq (.ok (.brk ρ) st) Φ r = .ok (.brk ρ) st := rfl
theorem yQ_exc {Φ : Phi} {ρ : Slots} {st : Store} {r : Ss} {c : Nat} : kSeq (.exc c ρ st) Φ r = .exc c ρ st := rfl
theorem sizeLine_big : 1000000 ≤ sizeLine := by decide
/-! ### small facts for the walk -/
theorem view_tup {xs : List D} : view st (.tup xs) = .tup xs := rfl
theorem view_lst {xs : List D} : view st (.lst xs) = .lst xs := rfl
theorem view_int {i : Int} : view st (.int i) = .int i := rfl
theorem view_str {s : Str} : view st (.str s) = .str s := rfl
theorem view_bl {b : Bool} : view st (.bl b) = .bl b := rfl
theorem view_non : view st .non = .non := rfl
theorem view_scr {ns : List Int} : view st (.scr ns) = .scr ns := rfl
theorem idx_tup {xs : List D} {i : Int} : idxD st (.tup xs) (.int i) = L2.atI xs i := rfl
theorem idx_lst {xs : List D} {i : Int} : idxD st (.lst xs) (.int i) = L2.atI xs i := rfl
theorem idx_scr {ns : List Int} {i : Int} : idxD st (.scr ns) (.int i) = (L2.atI ns i).map .int := rfl
theorem a_4 {α : Type} (a b c d e : α) (xs : List α) : L2.atI (a :: b :: c :: d :: e :: xs) 4 = some e := at_nat _ 4
theorem a_5 {α : Type} (a b c d e f : α) (xs : List α) : L2.atI (a :: b :: c :: d :: e :: f :: xs) 5 = some f := at_nat _ 5
theorem a_6 {α : Type} (a b c d e f g : α) (xs : List α) : L2.atI (a :: b :: c :: d :: e :: f :: g :: xs) 6 = some g := at_nat _ 6
theorem a_7 {α : Type} (a b c d e f g h : α) (xs : List α) : L2.atI (a :: b :: c :: d :: e :: f :: g :: h :: xs) 7 = some h := at_nat _ 7
theorem a_8 {α : Type} (a b c d e f g h i : α) (xs : List α) : L2.atI (a :: b :: c :: d :: e :: f :: g :: h :: i :: xs) 8 = some i := at_nat _ 8
theorem a_9 {α : Type} (a b c d e f g h i j : α) (xs : List α) : L2.atI (a :: b :: c :: d :: e :: f :: g :: h :: i :: j :: xs) 9 = some j := at_nat _ 9
theorem c_lt {i j : Int} : cmpD .lt st (.int i) (.int j) = some (decide (i < j)) := rfl
theorem c_le {i j : Int} : cmpD .le st (.int i) (.int j) = some (decide (i ≤ j)) := rfl
theorem c_gt {i j : Int} : cmpD .gt st (.int i) (.int j) = some (decide (j < i)) := rfl
theorem c_ge {i j : Int} : cmpD .ge st (.int i) (.int j) = some (decide (j ≤ i)) := rfl
theorem c_eqI {i j : Int} : cmpD .eq st (.int i) (.int j) = some (decide (i = j)) := by rw [eq_int]; rfl
theorem c_neI {i j : Int} : cmpD .ne st (.int i) (.int j) = some (decide (i ≠ j)) := by
  rw [ne_int]
  by_cases h : i = j <;> simp [h]
theorem c_eqS {i j : Str} : cmpD .eq st (.str i) (.str j) = some (decide (i = j)) := eq_str
theorem c_neS {i j : Str} : cmpD .ne st (.str i) (.str j) = some (decide (i ≠ j)) := by
  rw [ne_str]
  by_cases h : i = j <;> simp [h]
theorem c_is {d : D} : cmpD .is st d .non = some (decide (d = .non)) := rfl
theorem c_isn {d : D} : cmpD .isn st d .non = some (!decide (d = .non)) := rfl
theorem non_int {i : Int} : (decide (D.int i = .non)) = false := by simp
theorem non_str {i : Str} : (decide (D.str i = .non)) = false := by simp
theorem non_tup {i : List D} : (decide (D.tup i = .non)) = false := by simp
theorem non_lst {i : List D} : (decide (D.lst i = .non)) = false := by simp
theorem non_bl {i : Bool} : (decide (D.bl i = .non)) = false := by simp
theorem non_non : (decide (D.non = .non)) = true := by simp
theorem tru_bl {b : Bool} : truD st (.bl b) = some b := rfl
theorem tru_int {b : Int} : truD st (.int b) = some (b != 0) := rfl
theorem tru_non : truD st .non = some false := rfl
theorem tru_tup {xs : List D} : truD st (.tup xs) = some (!xs.isEmpty) := rfl
theorem tru_lst {xs : List D} : truD st (.lst xs) = some (!xs.isEmpty) := rfl
theorem in_strs (a : Str) (l : List Str) : inD (.str a) (.tup (l.map .str)) = some (decide (a ∈ l)) := by
  have h1 : (l.map D.str).all flat = true := by simp [flat]
  have h2 : (l.map D.str).any (fun y => eqv y (.str a)) = decide (a ∈ l) := by
    rw [Bool.eq_iff_iff, List.any_eq_true, decide_eq_true_iff]
    constructor
    · rintro ⟨y, hy, e⟩
      obtain ⟨s, hs, rfl⟩ := List.mem_map.mp hy
      rw [eqv_str] at e
      rw [← beq_iff_eq.mp e]
      exact hs
    · intro h
      exact ⟨.str a, List.mem_map.mpr ⟨a, h, rfl⟩, by rw [eqv_str]; simp⟩
  simp only [inD, h1, h2, flat, Bool.and_self, if_true]
theorem c_in {a : Str} {l : List Str} : cmpD .inn st (.str a) (.tup (l.map .str)) = some (decide (a ∈ l)) := by
  simp only [cmpD, view_tup, in_strs]
theorem c_nin {a : Str} {l : List Str} : cmpD .nin st (.str a) (.tup (l.map .str)) = some (decide (a ∉ l)) := by
  simp only [cmpD, view_tup, in_strs, Option.map_some]
  by_cases h : a ∈ l <;> simp [h]
theorem bls_map {α : Type} (p : α → Bool) (l : List α) : blsOf (l.map fun n => .bl (p n)) = some (l.map p) := by
  induction l with
  | nil => rfl
  | cons n ns ih => simp [blsOf, ih]
theorem ints_map {α : Type} (p : α → Int) (l : List α) : intsOf (l.map fun n => .int (p n)) = some (l.map p) := by
  induction l with
  | nil => rfl
  | cons n ns ih => simp [intsOf, ih]
theorem b_all {α : Type} (p : α → Bool) (l : List α) : biD .all st [.lst (l.map fun n => .bl (p n))] = some (.bl (l.all p)) := by
  simp only [biD, listOf, view_lst, bls_map, Option.map_some, Option.some.injEq, D.bl.injEq]
  rw [List.all_map]
  rfl
theorem b_sum {α : Type} (p : α → Int) (l : List α) : biD .sum st [.lst (l.map fun n => .int (p n))] = some (.int (l.map p).sum) := by
  simp only [biD, listOf, view_lst, ints_map, Option.map_some]
theorem b_tupL {xs : List D} : biD .tuple st [.lst xs] = some (.tup xs) := rfl
theorem b_tupT {xs : List D} : biD .tuple st [.tup xs] = some (.tup xs) := rfl
theorem b_lenL {xs : List D} : biD .len st [.lst xs] = some (.int xs.length) := rfl
theorem b_lenT {xs : List D} : biD .len st [.tup xs] = some (.int xs.length) := rfl
theorem b_intB {b : Bool} : biD .int st [.bl b] = some (.int (if b then 1 else 0)) := rfl
theorem b_max {i j : Int} : biD .max2 st [.int i, .int j] = some (.int (if j > i then j else i)) := rfl
theorem b_min {i j : Int} : biD .min2 st [.int i, .int j] = some (.int (if j < i then j else i)) := rfl
theorem o_add {i j : Int} : binD .add (.int i) (.int j) = some (.int (i + j)) := rfl
theorem o_sub {i j : Int} : binD .sub (.int i) (.int j) = some (.int (i - j)) := rfl
theorem mulL {i j : Int} (h1 : -(2 ^ 64) < i := by omega) (h2 : i < 2 ^ 64 := by omega) : mulOk i j = true := by
  unfold mulOk
  simp only [Bool.or_eq_true, decide_eq_true_eq]
  exact .inl (by omega)
theorem mulR {i j : Int} (h1 : -(2 ^ 64) < j := by omega) (h2 : j < 2 ^ 64 := by omega) : mulOk i j = true := by
  unfold mulOk
  simp only [Bool.or_eq_true, decide_eq_true_eq]
  exact .inr (by omega)
theorem o_mul {i j : Int} (h : mulOk i j = true) : binD .mul (.int i) (.int j) = some (.int (i * j)) := by simp only [binD, h, if_true]
theorem o_mod {i j : Int} (h : 0 < j) : binD .mod (.int i) (.int j) = some (.int (i % j)) := by simp only [binD, h, if_true]
theorem o_addT {xs ys : List D} (h : xs.length + ys.length ≤ sizeLine) : binD .add (.tup xs) (.tup ys) = some (.tup (xs ++ ys)) := by simp only [binD, h, if_true]
theorem small {n : Nat} (h : n ≤ 1000000) : n ≤ sizeLine := Nat.le_trans h sizeLine_big
theorem smallL {n : Nat} (h : n < 1000000) : n < sizeLine := Nat.lt_of_lt_of_le h sizeLine_big
theorem it_tup {xs : List D} : itemsOf st (.tup xs) = some xs := rfl
theorem it_lst {xs : List D} : itemsOf st (.lst xs) = some xs := rfl
theorem src_tup {xs ys : List D} : srcOk st (.tup xs) ys = true := rfl
theorem src_lst {xs ys : List D} : srcOk st (.lst xs) ys = true := rfl
theorem it_rng2 {a b : Ex} {i j : Int} {n : Nat} {st1 st2 : Store} (ha : evE Φ a ρ st = .ok (.int i) st1) (hb : evE Φ b ρ st1 = .ok (.int j) st2) (hr : rngOk i j = true) (hn : (j - i).toNat = n) : evI Φ (.rng2 a b) ρ st = .ok ((List.range n).map fun m : Nat => D.int (i + (m : Nat)), fun _ => true) st2 := by
  subst hn
  simp only [evI, ha, hb, R.bind_ok, hr, if_true]
  rfl
theorem it_rng1 {a : Ex} {j : Int} {n : Nat} {st1 : Store} (ha : evE Φ a ρ st = .ok (.int j) st1) (hr : rngOk 0 j = true) (hn : j = n) : evI Φ (.rng1 a) ρ st = .ok ((List.range n).map fun m : Nat => D.int (m : Nat), fun _ => true) st1 := by
  have e : evI Φ (.rng1 a) ρ st = .ok (rngL 0 j.toNat, fun _ => true) st1 := by simp only [evI, ha, R.bind_ok, hr, if_true]
  rw [e, hn, Int.toNat_natCast]
  unfold rngL
  rw [List.map_congr_left fun m _ => by rw [Int.zero_add]]
theorem rng0_ok {n : Nat} (h : n ≤ 1000000) : rngOk 0 (n : Int) = true := by
  have : (n : Nat) ≤ sizeLine := small h
  unfold rngOk
  simp
  omega
/-- comprehensions -/
theorem comp_all {α : Type} (enc : α → D) {elt : Ex} {tg : Tg} {it : Wk} {own : List Nat} (xs : List α) {okf : Store → Bool} (g : α → D) (hi : evI Φ it ρ st = .ok (xs.map enc, okf) st) (hok : okf st = true)
    (hx : ∀ x ∈ xs, ((asT Φ tg (enc x) (wipeE ρ own) st).bind fun ρ' st => evE Φ elt ρ' st) = .ok (g x) st) :
    evC Φ (.comp elt tg it .none own) ρ st = .ok (xs.map g) st := by
  simp only [evC, hi, R.bind_ok]
  rw [compL_of enc (g := fun x => some (g x)) hok xs]
  · rw [List.filterMap_eq_map']
  · intro x h
    have q := hx x h
    cases e : asT Φ tg (enc x) (wipeE ρ own) st with
    | ok ρ' st1 =>
      simp only [e, R.bind_ok] at q
      simp only [R.bind_ok, evCo, if_true, q, w_noExc_ok]
    | exc c st1 => simp [e, R.bind] at q
    | stuck => simp [e, R.bind] at q
theorem comp_if {α : Type} (enc : α → D) {elt : Ex} {tg : Tg} {it : Wk} {c : Ex} {own : List Nat} (xs : List α) {okf : Store → Bool} (p : α → Bool) (g : α → D) (hi : evI Φ it ρ st = .ok (xs.map enc, okf) st) (hok : okf st = true)
    (hx : ∀ x ∈ xs, ((asT Φ tg (enc x) (wipeE ρ own) st).bind fun ρ' st => (evT Φ c ρ' st).bind fun k st => if k then (evE Φ elt ρ' st).bind fun y st => .ok (some y) st else .ok none st) = .ok (if p x then some (g x) else none) st) :
    evC Φ (.comp elt tg it (.some c) own) ρ st = .ok ((xs.filter p).map g) st := by
  simp only [evC, hi, R.bind_ok]
  rw [compL_of enc (g := fun x => if p x then some (g x) else none) hok xs]
  · congr 1
    clear hi hx
    induction xs with
    | nil => rfl
    | cons x xs ih =>
      rw [List.filterMap_cons, List.filter_cons]
      cases h : p x <;> simp [h, ih]
  · intro x h
    have q := hx x h
    simp only [evCo]
    rw [q]
    rfl
/-- a loop over data, all turns going on -/
theorem for_all {α : Type} (enc : α → D) {tg : Tg} {it : Wk} {body : Ss} (xs : List α) {okf : Store → Bool} {st1 : Store} (J : List α → Slots × Store → Prop) (hi : evI Φ it ρ st = .ok (xs.map enc, okf) st1) (hok : ∀ st, okf st = true) (h0 : J [] (ρ, st1))
    (hs : ∀ d x r ρ st, xs = d ++ x :: r → J d (ρ, st) → ∃ ρ' st', ((asT Φ tg (enc x) ρ st).s ρ fun ρ st => evSs Φ body ρ st) = .ok (.next ρ') st' ∧ J (d ++ [x]) (ρ', st')) :
    ∃ ρ' st', evS Φ (.for tg it body) ρ st = .ok (.next ρ') st' ∧ J xs (ρ', st') := by
  have e : evS Φ (.for tg it body) ρ st = (evI Φ it ρ st).s ρ fun p st => forL (fun x ρ st => (asT Φ tg x ρ st).s ρ fun ρ st => evSs Φ body ρ st) p.2 p.1 ρ st := by simp only [evS]
  rw [e, hi]
  obtain ⟨ρ', st', q1, q2⟩ := forL_inv enc (f := fun x ρ st => (asT Φ tg x ρ st).s ρ fun ρ st => evSs Φ body ρ st) (fun d ρ st => J d (ρ, st)) (fun _ _ st _ => hok st) xs [] ρ st1 h0 (fun d x r ρ st e hI => by
      obtain ⟨ρ1, st2, e1, h1⟩ := hs d x r ρ st (by simpa using e) hI
      exact ⟨ρ1, st2, .inl e1, h1⟩)
  exact ⟨ρ', st', q1, by simpa using q2⟩
/-- a loop over data, the source stands by the invariant -/
theorem for_allJ {α : Type} (enc : α → D) {tg : Tg} {it : Wk} {body : Ss} (xs : List α) {okf : Store → Bool} {st1 : Store} (J : List α → Slots × Store → Prop) (hi : evI Φ it ρ st = .ok (xs.map enc, okf) st1) (hok : ∀ d ρ st, J d (ρ, st) → okf st = true) (h0 : J [] (ρ, st1))
    (hs : ∀ d x r ρ st, xs = d ++ x :: r → J d (ρ, st) → ∃ ρ' st', ((asT Φ tg (enc x) ρ st).s ρ fun ρ st => evSs Φ body ρ st) = .ok (.next ρ') st' ∧ J (d ++ [x]) (ρ', st')) :
    ∃ ρ' st', evS Φ (.for tg it body) ρ st = .ok (.next ρ') st' ∧ J xs (ρ', st') := by
  have e : evS Φ (.for tg it body) ρ st = (evI Φ it ρ st).s ρ fun p st => forL (fun x ρ st => (asT Φ tg x ρ st).s ρ fun ρ st => evSs Φ body ρ st) p.2 p.1 ρ st := by simp only [evS]
  rw [e, hi]
  obtain ⟨ρ', st', q1, q2⟩ := forL_inv enc (f := fun x ρ st => (asT Φ tg x ρ st).s ρ fun ρ st => evSs Φ body ρ st) (fun d ρ st => J d (ρ, st)) hok xs [] ρ st1 h0 (fun d x r ρ st e hI => by
      obtain ⟨ρ1, st2, e1, h1⟩ := hs d x r ρ st (by simpa using e) hI
      exact ⟨ρ1, st2, .inl e1, h1⟩)
  exact ⟨ρ', st', q1, by simpa using q2⟩
/-! ### a cell at the end -/
theorem view_end {xs : List D} : view (st ++ [.lst xs]) (.ref st.length) = .lst xs := by simp [view]
theorem lst_end {xs : List D} : lstAt (st ++ [.lst xs]) (.ref st.length) = some xs := by simp [lstAt]
theorem put_end {xs ys : List D} : putL (st ++ [.lst xs]) (.ref st.length) ys = st ++ [.lst ys] := by simp [putL, putCell]
theorem it_end {xs : List D} : itemsOf (st ++ [.lst xs]) (.ref st.length) = some xs := by simp only [itemsOf, view_end]
theorem src_end {xs : List D} : srcOk (st ++ [.lst xs]) (.ref st.length) xs = true := by simp [srcOk]
theorem slc_end {xs : List D} {l h : Option Int} : slcD (.ref st.length) l h (st ++ [.lst xs]) = .ok (.lst (cutD xs l h)) (st ++ [.lst xs]) := by simp only [slcD, view_end]
theorem idx_end {xs : List D} {i : Int} : idxD (st ++ [.lst xs]) (.ref st.length) (.int i) = L2.atI xs i := by simp only [idxD, view_end, atD]
theorem app_end {xs : List D} {y : D} (h : xs.length < 100000) : appD (.ref st.length) y (st ++ [.lst xs]) = .ok .non (st ++ [.lst (xs ++ [y])]) := by
  simp only [appD, lst_end, if_pos (smallL (show xs.length < 1000000 by omega)), put_end]
/-- a def's run, read off its statements' -/
theorem run_retX {d : Def} {ds : List D} {v : D} {st' : Store} (ha : ds.length = d.ar) (hd : d.drop = false) (h : evSs Φ d.body (startE d.sz ds) st = .ok (.ret v) st') : runD Φ d ds st = .ok v st' := run_ret ha hd h
/-- all of them, for one name -/
theorem EV : type_of% (And.intro (And.intro (And.intro (And.intro (And.intro (And.intro (And.intro @yx_var (And.intro @yx_con @yx_glob)) (And.intro (And.intro @yx_bin @yx_bin1) (And.intro @yx_bin2 @yx_neg))) (And.intro (And.intro @yx_neg1 (And.intro @yx_liftB @yx_cmp)) (And.intro (And.intro @yx_cmp1 @yx_cmp2) (And.intro @yx_chn @yx_chn1)))) (And.intro (And.intro (And.intro @yx_chn2 (And.intro @yx_chn3 @yx_and)) (And.intro (And.intro @yx_and1 @yx_or) (And.intro @yx_or1 @yx_liftN))) (And.intro (And.intro (And.intro @yx_not @yx_not1) (And.intro @yx_ife @yx_ife1)) (And.intro (And.intro @yx_tup @yx_tup1) (And.intro @yx_frz @yx_frz1))))) (And.intro (And.intro (And.intro (And.intro @yx_cel (And.intro @yx_cel1 @yx_dic)) (And.intro (And.intro @yx_dic1 @yx_idx) (And.intro @yx_idx1 @yx_idx2))) (And.intro (And.intro (And.intro @yx_slc @yx_slc1) (And.intro @yx_slc2 @yx_slc3)) (And.intro (And.intro @yx_slcT @yx_slcL) (And.intro @yx_fld @yx_fld1)))) (And.intro (And.intro (And.intro @yx_call (And.intro @yx_call1 @yx_make)) (And.intro (And.intro @yx_make1 @yx_make2) (And.intro @yx_meth @yx_meth1))) (And.intro (And.intro (And.intro @yx_meth2 @yx_blt) (And.intro @yx_blt1 @yx_app)) (And.intro (And.intro @yx_app1 @yx_app2) (And.intro @yx_pop @yx_pop1)))))) (And.intro (And.intro (And.intro (And.intro (And.intro @yx_olen (And.intro @yx_olen1 @yx_oidx)) (And.intro (And.intro @yx_oidx1 @yx_oidx2) (And.intro @yx_lset @yx_lset1))) (And.intro (And.intro (And.intro @yt_ok @yt_and) (And.intro @yt_or @yt_not)) (And.intro (And.intro @yt_and1 @yt_or1) (And.intro @yt_not1 @yt_var)))) (And.intro (And.intro (And.intro @yt_con (And.intro @yt_glob @yt_bin)) (And.intro (And.intro @yt_neg @yt_cmp) (And.intro @yt_chn @yt_ife))) (And.intro (And.intro (And.intro @yt_tup @yt_frz) (And.intro @yt_idx @yt_slc)) (And.intro (And.intro @yt_fld @yt_call) (And.intro @yt_meth @yt_blt))))) (And.intro (And.intro (And.intro (And.intro @yt_olen (And.intro @yt_oidx @yt_lset)) (And.intro (And.intro @yt_pop @yx_eo0) (And.intro @yx_eo @yx_eo1))) (And.intro (And.intro (And.intro @yx_es0 @yx_es) (And.intro @yx_es1 @yx_es2)) (And.intro (And.intro @yc_disp0 @yc_copy0) (And.intro @yc_copy1 @yc_rev0)))) (And.intro (And.intro (And.intro @yc_rev1 (And.intro @yc_rev2 @yc_sort0)) (And.intro (And.intro @yc_sort1 @yc_sort2) (And.intro @yc_sort3 @yc_srev0))) (And.intro (And.intro (And.intro @yc_srev1 @yc_srev2) (And.intro @yc_sset0 @yc_sset1)) (And.intro (And.intro @yc_sset2 @yc_sset3) (And.intro @yc_cat0 @yc_cat1))))))) (And.intro (And.intro (And.intro (And.intro (And.intro (And.intro @yc_cat2 (And.intro @yc_rep0 @yc_rep1)) (And.intro (And.intro @yc_rep2 @yc_co0) (And.intro @yc_co @ys_nil0))) (And.intro (And.intro (And.intro @ys_cons0 @ys_cons1) (And.intro @ys_fl @ys_fl1)) (And.intro (And.intro @ys_sb @ys_sb1) (And.intro @ys_sb2 @yS_asg)))) (And.intro (And.intro (And.intro @yS_asg1 (And.intro @yS_asg2 @yS_par2)) (And.intro (And.intro @yS_par21 @yS_par22) (And.intro @yS_par3 @yS_par31))) (And.intro (And.intro (And.intro @yS_par32 @yS_par33) (And.intro @yS_own @yS_own1)) (And.intro (And.intro @yS_frz @yS_frz1) (And.intro @yS_frz2 @yS_oapp))))) (And.intro (And.intro (And.intro (And.intro @yS_oapp1 (And.intro @yS_oapp2 @yS_oext)) (And.intro (And.intro @yS_oext1 @yS_oext2) (And.intro @yS_oext3 @yS_oset))) (And.intro (And.intro (And.intro @yS_oset1 @yS_oset2) (And.intro @yS_oset3 @yS_expr)) (And.intro (And.intro @yS_expr1 @yS_ret) (And.intro @yS_ret1 @yS_retN)))) (And.intro (And.intro (And.intro @yS_ife (And.intro @yS_ife1 @yS_raise)) (And.intro (And.intro @yS_cont @yS_brk) (And.intro @yQ_nil @yQ_cons))) (And.intro (And.intro (And.intro @yQ_next @yQ_ret) (And.intro @yQ_cont @yQ_brk)) (And.intro (And.intro @yQ_exc @asT_nm) (And.intro @asT_tp @RS.bind_next)))))) (And.intro (And.intro (And.intro (And.intro (And.intro @RS.bind_ret (And.intro @RS.bind_cont @RS.bind_exc)) (And.intro (And.intro @view_tup @view_lst) (And.intro @view_int @view_str))) (And.intro (And.intro (And.intro @view_bl @view_non) (And.intro @view_scr @idx_tup)) (And.intro (And.intro @idx_lst @at_0) (And.intro @at_1 @at_2)))) (And.intro (And.intro (And.intro @at_3 (And.intro @a_4 @a_5)) (And.intro (And.intro @a_6 @a_7) (And.intro @a_8 @a_9))) (And.intro (And.intro (And.intro @c_lt @c_le) (And.intro @c_gt @c_ge)) (And.intro (And.intro @c_eqI @c_neI) (And.intro @c_eqS @c_neS))))) (And.intro (And.intro (And.intro (And.intro @c_is (And.intro @c_isn @non_int)) (And.intro (And.intro @non_str @non_tup) (And.intro @non_lst @non_bl))) (And.intro (And.intro (And.intro @non_non @tru_bl) (And.intro @tru_int @tru_non)) (And.intro (And.intro @c_in @c_nin) (And.intro @b_all @b_sum)))) (And.intro (And.intro (And.intro @b_tupL (And.intro @b_tupT @b_lenL)) (And.intro (And.intro @b_lenT @b_intB) (And.intro @b_max @b_min))) (And.intro (And.intro (And.intro @o_add @o_sub) (And.intro @it_tup @it_lst)) (And.intro (And.intro @seq_tup @seq_lst) (And.intro @yx_dof @yx_dof1)))))))) := (And.intro (And.intro (And.intro (And.intro (And.intro (And.intro (And.intro @yx_var (And.intro @yx_con @yx_glob)) (And.intro (And.intro @yx_bin @yx_bin1) (And.intro @yx_bin2 @yx_neg))) (And.intro (And.intro @yx_neg1 (And.intro @yx_liftB @yx_cmp)) (And.intro (And.intro @yx_cmp1 @yx_cmp2) (And.intro @yx_chn @yx_chn1)))) (And.intro (And.intro (And.intro @yx_chn2 (And.intro @yx_chn3 @yx_and)) (And.intro (And.intro @yx_and1 @yx_or) (And.intro @yx_or1 @yx_liftN))) (And.intro (And.intro (And.intro @yx_not @yx_not1) (And.intro @yx_ife @yx_ife1)) (And.intro (And.intro @yx_tup @yx_tup1) (And.intro @yx_frz @yx_frz1))))) (And.intro (And.intro (And.intro (And.intro @yx_cel (And.intro @yx_cel1 @yx_dic)) (And.intro (And.intro @yx_dic1 @yx_idx) (And.intro @yx_idx1 @yx_idx2))) (And.intro (And.intro (And.intro @yx_slc @yx_slc1) (And.intro @yx_slc2 @yx_slc3)) (And.intro (And.intro @yx_slcT @yx_slcL) (And.intro @yx_fld @yx_fld1)))) (And.intro (And.intro (And.intro @yx_call (And.intro @yx_call1 @yx_make)) (And.intro (And.intro @yx_make1 @yx_make2) (And.intro @yx_meth @yx_meth1))) (And.intro (And.intro (And.intro @yx_meth2 @yx_blt) (And.intro @yx_blt1 @yx_app)) (And.intro (And.intro @yx_app1 @yx_app2) (And.intro @yx_pop @yx_pop1)))))) (And.intro (And.intro (And.intro (And.intro (And.intro @yx_olen (And.intro @yx_olen1 @yx_oidx)) (And.intro (And.intro @yx_oidx1 @yx_oidx2) (And.intro @yx_lset @yx_lset1))) (And.intro (And.intro (And.intro @yt_ok @yt_and) (And.intro @yt_or @yt_not)) (And.intro (And.intro @yt_and1 @yt_or1) (And.intro @yt_not1 @yt_var)))) (And.intro (And.intro (And.intro @yt_con (And.intro @yt_glob @yt_bin)) (And.intro (And.intro @yt_neg @yt_cmp) (And.intro @yt_chn @yt_ife))) (And.intro (And.intro (And.intro @yt_tup @yt_frz) (And.intro @yt_idx @yt_slc)) (And.intro (And.intro @yt_fld @yt_call) (And.intro @yt_meth @yt_blt))))) (And.intro (And.intro (And.intro (And.intro @yt_olen (And.intro @yt_oidx @yt_lset)) (And.intro (And.intro @yt_pop @yx_eo0) (And.intro @yx_eo @yx_eo1))) (And.intro (And.intro (And.intro @yx_es0 @yx_es) (And.intro @yx_es1 @yx_es2)) (And.intro (And.intro @yc_disp0 @yc_copy0) (And.intro @yc_copy1 @yc_rev0)))) (And.intro (And.intro (And.intro @yc_rev1 (And.intro @yc_rev2 @yc_sort0)) (And.intro (And.intro @yc_sort1 @yc_sort2) (And.intro @yc_sort3 @yc_srev0))) (And.intro (And.intro (And.intro @yc_srev1 @yc_srev2) (And.intro @yc_sset0 @yc_sset1)) (And.intro (And.intro @yc_sset2 @yc_sset3) (And.intro @yc_cat0 @yc_cat1))))))) (And.intro (And.intro (And.intro (And.intro (And.intro (And.intro @yc_cat2 (And.intro @yc_rep0 @yc_rep1)) (And.intro (And.intro @yc_rep2 @yc_co0) (And.intro @yc_co @ys_nil0))) (And.intro (And.intro (And.intro @ys_cons0 @ys_cons1) (And.intro @ys_fl @ys_fl1)) (And.intro (And.intro @ys_sb @ys_sb1) (And.intro @ys_sb2 @yS_asg)))) (And.intro (And.intro (And.intro @yS_asg1 (And.intro @yS_asg2 @yS_par2)) (And.intro (And.intro @yS_par21 @yS_par22) (And.intro @yS_par3 @yS_par31))) (And.intro (And.intro (And.intro @yS_par32 @yS_par33) (And.intro @yS_own @yS_own1)) (And.intro (And.intro @yS_frz @yS_frz1) (And.intro @yS_frz2 @yS_oapp))))) (And.intro (And.intro (And.intro (And.intro @yS_oapp1 (And.intro @yS_oapp2 @yS_oext)) (And.intro (And.intro @yS_oext1 @yS_oext2) (And.intro @yS_oext3 @yS_oset))) (And.intro (And.intro (And.intro @yS_oset1 @yS_oset2) (And.intro @yS_oset3 @yS_expr)) (And.intro (And.intro @yS_expr1 @yS_ret) (And.intro @yS_ret1 @yS_retN)))) (And.intro (And.intro (And.intro @yS_ife (And.intro @yS_ife1 @yS_raise)) (And.intro (And.intro @yS_cont @yS_brk) (And.intro @yQ_nil @yQ_cons))) (And.intro (And.intro (And.intro @yQ_next @yQ_ret) (And.intro @yQ_cont @yQ_brk)) (And.intro (And.intro @yQ_exc @asT_nm) (And.intro @asT_tp @RS.bind_next)))))) (And.intro (And.intro (And.intro (And.intro (And.intro @RS.bind_ret (And.intro @RS.bind_cont @RS.bind_exc)) (And.intro (And.intro @view_tup @view_lst) (And.intro @view_int @view_str))) (And.intro (And.intro (And.intro @view_bl @view_non) (And.intro @view_scr @idx_tup)) (And.intro (And.intro @idx_lst @at_0) (And.intro @at_1 @at_2)))) (And.intro (And.intro (And.intro @at_3 (And.intro @a_4 @a_5)) (And.intro (And.intro @a_6 @a_7) (And.intro @a_8 @a_9))) (And.intro (And.intro (And.intro @c_lt @c_le) (And.intro @c_gt @c_ge)) (And.intro (And.intro @c_eqI @c_neI) (And.intro @c_eqS @c_neS))))) (And.intro (And.intro (And.intro (And.intro @c_is (And.intro @c_isn @non_int)) (And.intro (And.intro @non_str @non_tup) (And.intro @non_lst @non_bl))) (And.intro (And.intro (And.intro @non_non @tru_bl) (And.intro @tru_int @tru_non)) (And.intro (And.intro @c_in @c_nin) (And.intro @b_all @b_sum)))) (And.intro (And.intro (And.intro @b_tupL (And.intro @b_tupT @b_lenL)) (And.intro (And.intro @b_lenT @b_intB) (And.intro @b_max @b_min))) (And.intro (And.intro (And.intro @o_add @o_sub) (And.intro @it_tup @it_lst)) (And.intro (And.intro @seq_tup @seq_lst) (And.intro @yx_dof @yx_dof1))))))))
end B

set_option Elab.async false
set_option linter.all false
set_option maxRecDepth 100000
set_option maxHeartbeats 4000000
/-! What the program computes: books, balls, players, steps; and how they are told as data. -/
namespace Bt
set_option autoImplicit false
open PySem P
structure Tgt where
  nm : Str
  pt : Int
  bo : Int
  deriving DecidableEq, Inhabited
structure Bank where
  ns : List Str
  aw : Str
  deriving DecidableEq, Inhabited
structure Book where
  tg : List Tgt
  bk : List Bank
  lk : Option (Str × Int)
  jk : Str × Int
  sv : Int
  nu : Int
  ba : Int
  aim : Option Int
  deriving DecidableEq, Inhabited
structure Ball where
  many : Int
  lit : List Str
  bonus : Int
  factor : Int
  double : Int
  saves : Int
  warns : Int
  calm : Int
  tilted : Bool
  opn : Bool
  had : Bool
  deriving DecidableEq, Inhabited
structure Pl where
  pts : Int
  left : Int
  ext : Int
  lck : Int
  won : Bool
  deriving DecidableEq, Inhabited
abbrev Word := Str × Int
/-- who plays, the ball, and what happened -/
structure M where
  q : Pl
  b : Ball
  h : List Word
  deriving DecidableEq, Inhabited
inductive St where
  | on (t : Nat) (ps : List Pl) (b : Ball) | over (ps : List Pl)
  deriving DecidableEq
inductive Ev where
  | hit (n : Str) | drain | nudge | ticks (k : Int)
  deriving DecidableEq
/-! ### what is computed -/
def fresh (k : Book) : Ball := ⟨1, [], 0, 1, 0, k.sv, 0, 0, false, false, false⟩
def begun (k : Book) (n : Nat) : St := .on 0 ((List.range n).map fun i => ⟨0, k.ba - (if i = 0 then 1 else 0), 0, 0, false⟩) (fresh k)
def St.ps : St → List Pl
  | .on _ ps _ => ps
  | .over ps => ps
def St.isOver : St → Bool
  | .on .. => false
  | .over _ => true
def scores (s : St) : List Int := s.ps.map (·.pts)
def tell (m : M) (w : Str) (n : Int) : M := { m with q := { m.q with pts := m.q.pts + n }, h := m.h ++ [(w, n)] }
def doubled (b : Ball) (n : Int) : Int := if 0 < b.double then 2 * n else n
def aimed (k : Book) (m : M) : M :=
  match k.aim with
  | some a => if a ≤ m.q.pts ∧ m.q.won = false then tell { m with q := { m.q with won := true } } s_won 0 else m
  | none => m
def locks (k : Book) (m : M) (n : Str) : M :=
  match k.lk with
  | some (l, c) => if n = l ∧ m.b.opn = true ∧ m.b.many ≤ 1 then
      let m1 := tell { m with q := { m.q with lck := m.q.lck + 1 }, b := { m.b with opn := false, saves := k.sv } } s_lock 0
      if m1.q.lck = c then tell { m1 with q := { m1.q with lck := 0 }, b := { m1.b with many := c } } s_all 0 else m1
    else m
  | none => m
def award (k : Book) (m : M) (w : Str) : M :=
  if w = s_times then tell { m with b := { m.b with factor := if m.b.factor + 1 < 5 then m.b.factor + 1 else 5 } } s_bank 0
  else if w = s_double then tell { m with b := { m.b with double := 20 } } s_bank 0
  else if w = s_extra then tell { m with q := { m.q with ext := m.q.ext + (if m.b.had then 0 else 1) }, b := { m.b with had := true } } s_bank (500 * (if m.b.had then 1 else 0))
  else if k.lk = none then tell m s_bank 250
  else tell { m with b := { m.b with opn := true } } s_bank 0
def litUp (l : List Str) (n : Str) : List Str := (B.distinct (l ++ [n])).mergeSort B.strLe
def bank (k : Book) (m : M) (a : Bank) : M :=
  if (a.ns.all fun n => decide (n ∈ m.b.lit)) = true then award k { m with b := { m.b with lit := m.b.lit.filter fun l => decide (l ∉ a.ns) } } a.aw else m
def banks (k : Book) (m : M) (l : List Bank) : M := l.foldl (bank k) m
def jack (k : Book) (m : M) (n : Str) : M := if 1 < m.b.many ∧ n = k.jk.1 then tell m s_jack (doubled m.b k.jk.2) else m
def hit1 (m : M) (t : Tgt) : M :=
  let m1 := tell m s_hit (doubled m.b t.pt)
  { m1 with b := { m1.b with bonus := if m1.b.bonus + t.bo < 99 then m1.b.bonus + t.bo else 99 } }
def lights (m : M) (n : Str) : M := { m with b := { m.b with lit := litUp m.b.lit n } }
def hit (k : Book) (m : M) (t : Tgt) : M := aimed k (banks k (lights (locks k (jack k (hit1 m t) t.nm) t.nm) t.nm) k.bk)
def nudge (k : Book) (m : M) : M :=
  let m1 := tell { m with b := { m.b with warns := m.b.warns + 1, calm := 30 } } s_warn 0
  if k.nu < m1.b.warns then tell { m1 with b := { m1.b with tilted := true, opn := false, lit := [], bonus := 0, double := 0, saves := 0 } } s_tilt 0 else m1
def tick (b : Ball) : Ball :=
  let b1 := { b with double := if b.double - 1 > 0 then b.double - 1 else 0, saves := if b.saves - 1 > 0 then b.saves - 1 else 0 }
  if 0 < b1.calm then
    if b1.calm - 1 = 0 then { b1 with warns := b1.warns - 1, calm := 30 * (if 0 < b1.warns - 1 then 1 else 0) } else { b1 with calm := b1.calm - 1 }
  else b1
def still (b : Ball) : Bool := decide (b.double = 0) && decide (b.saves = 0) && decide (b.calm = 0)
def tickN : Nat → Ball → Ball
  | 0, b => b
  | n + 1, b => if still b then b else tickN n (tick b)
/-- a ball is lost; whether that ends it -/
def lost (k : Book) (m : M) : M × Bool :=
  if 0 < m.b.saves then (tell { m with b := { m.b with saves := 0 } } s_saved 0, false)
  else
    let m1 := { m with b := { m.b with many := m.b.many - 1 } }
    if m1.b.many = 0 then (tell (if m1.b.tilted then m1 else aimed k (tell m1 s_bonus (10 * m1.b.bonus * m1.b.factor))) s_end 0, true) else (m1, false)
/-- who of the others plays next -/
def nextOf (ps : List Pl) (t : Nat) : Option Nat := ((List.range ps.length).map fun j => (t + (j + 1)) % ps.length).find? fun o => decide (0 < (ps.getD o default).left)
def pass (k : Book) (t : Nat) (ps : List Pl) : St :=
  let q := ps.getD t default
  if 0 < q.ext then .on t (ps.set t { q with ext := q.ext - 1 }) (fresh k)
  else match nextOf ps t with
    | some o => .on o (ps.set o { ps.getD o default with left := (ps.getD o default).left - 1 }) (fresh k)
    | none => .over ps
abbrev Told := Nat × Str × Int
def told (t : Nat) (h : List Word) : List Told := h.map fun w => (t, w.1, w.2)
def fin (t : Nat) (ps : List Pl) (m : M) : St × List Told := (.on t (ps.set t m.q) m.b, told t m.h)
def ended (k : Book) (t : Nat) (ps : List Pl) (m : M) : St × List Told :=
  let s := pass k t (ps.set t m.q)
  (s, told t (m.h ++ (if s.isOver then [(s_over, 0)] else [])))
def Book.find (k : Book) (n : Str) : Option Tgt := k.tg.find? fun t => decide (t.nm = n)
/-- what an event does to who plays; whether it ends the ball -/
def act (k : Book) (m : M) (e : Ev) : M × Bool :=
  match e with
  | .hit n => (if m.b.tilted then m else match k.find n with
    | some t => hit k m t
    | none => m, false)
  | .drain => lost k m
  | .nudge => (if m.b.tilted then m else nudge k m, false)
  | .ticks n => ({ m with b := tickN n.toNat m.b }, false)
def step (k : Book) (s : St) (e : Ev) : St × List Told :=
  match s with
  | .over ps => (.over ps, [])
  | .on t ps b =>
    let r := act k ⟨ps.getD t default, b, []⟩ e
    if r.2 then ended k t ps r.1 else fin t ps r.1
def gone (k : Book) (s : St) (e : Ev) : St := (step k s e).1
def after (k : Book) (s : St) (es : List Ev) : St := es.foldl (gone k) s
/-! ### as data -/
open B
def eT (t : Tgt) : D := .tup [.str t.nm, .int t.pt, .int t.bo]
def eBank (a : Bank) : D := .tup [.tup (a.ns.map .str), .str a.aw]
def ePair (p : Str × Int) : D := .tup [.str p.1, .int p.2]
def eO {α : Type} (f : α → D) : Option α → D
  | some a => f a
  | none => .non
def eBook (k : Book) : D := .tup [.tup (k.tg.map eT), .tup (k.bk.map eBank), eO ePair k.lk, ePair k.jk, .int k.sv, .int k.nu, .int k.ba, eO .int k.aim]
def lBall (b : Ball) : List D := [.int b.many, .tup (b.lit.map .str), .int b.bonus, .int b.factor, .int b.double, .int b.saves, .int b.warns, .int b.calm, .bl b.tilted, .bl b.opn, .bl b.had]
def eBall (b : Ball) : D := .tup (lBall b)
def lPl (q : Pl) : List D := [.int q.pts, .int q.left, .int q.ext, .int q.lck, .bl q.won]
def ePl (q : Pl) : D := .tup (lPl q)
def eSt : St → D
  | .on t ps b => .tup [.int t, .tup (ps.map ePl), eBall b]
  | .over ps => .tup [.non, .tup (ps.map ePl), .non]
def eEv : Ev → D
  | .hit n => .tup [.str s_hit, .str n]
  | .drain => .tup [.str s_drain, .non]
  | .nudge => .tup [.str s_nudge, .non]
  | .ticks k => .tup [.str s_ticks, .int k]
def eTold (w : Told) : D := .tup [.int w.1, .str w.2.1, .int w.2.2]
end Bt

set_option Elab.async false
set_option linter.all false
set_option maxRecDepth 100000
set_option maxHeartbeats 4000000
/-! The cells of a Play. -/
namespace B
open PySem
set_option autoImplicit false
theorem getF_pos (f : Str) : ∀ (fs : List (Str × D)) (i : Nat), (fs.map (·.1)).findIdx? (fun g => decide (g = f)) = some i → getF fs f = (fs[i]?).map (·.2)
  | [], i, h => by simp at h
  | (g, v) :: fs, i, h => by
    rw [List.map_cons, List.findIdx?_cons] at h
    by_cases e : g = f
    · simp only [e, decide_true, if_true, Option.some.injEq] at h
      subst h
      subst e
      simp [getF, List.lookup]
    · simp only [e, decide_false] at h
      obtain ⟨j, hj, rfl⟩ : ∃ j, (fs.map (·.1)).findIdx? (fun g => decide (g = f)) = some j ∧ j + 1 = i := by
        cases q : (fs.map (·.1)).findIdx? (fun g => decide (g = f)) with
        | none => simp [q] at h
        | some j => exact ⟨j, rfl, by simpa [q] using h⟩
      have ih := getF_pos f fs j hj
      have e' : (f == g) = false := by simpa using fun z => e z.symm
      simpa [getF, List.lookup, e'] using ih
theorem getF_none (f : Str) : ∀ (fs : List (Str × D)), (fs.map (·.1)).findIdx? (fun g => decide (g = f)) = none → getF fs f = none
  | [], _ => rfl
  | (g, v) :: fs, h => by
    rw [List.map_cons, List.findIdx?_cons] at h
    by_cases e : g = f
    · simp [e] at h
    · have e' : (f == g) = false := by simpa using fun z => e z.symm
      have ih := getF_none f fs (by simpa [e] using h)
      simpa [getF, List.lookup, e'] using ih
theorem putF_pos (f : Str) (v : D) : ∀ (fs : List (Str × D)) (i : Nat), (fs.map (·.1)).findIdx? (fun g => decide (g = f)) = some i → putF f v fs = fs.set i (f, v)
  | [], i, h => by simp at h
  | (g, w) :: fs, i, h => by
    rw [List.map_cons, List.findIdx?_cons] at h
    by_cases e : g = f
    · simp only [e, decide_true, if_true, Option.some.injEq] at h
      subst h
      subst e
      simp [putF]
    · simp only [e, decide_false] at h
      obtain ⟨j, hj, rfl⟩ : ∃ j, (fs.map (·.1)).findIdx? (fun g => decide (g = f)) = some j ∧ j + 1 = i := by
        cases q : (fs.map (·.1)).findIdx? (fun g => decide (g = f)) with
        | none => simp [q] at h
        | some j => exact ⟨j, rfl, by simpa [q] using h⟩
      simp [putF, e, putF_pos f v fs j hj]
theorem putF_none (f : Str) (v : D) : ∀ (fs : List (Str × D)), (fs.map (·.1)).findIdx? (fun g => decide (g = f)) = none → putF f v fs = fs ++ [(f, v)]
  | [], _ => rfl
  | (g, w) :: fs, h => by
    rw [List.map_cons, List.findIdx?_cons] at h
    by_cases e : g = f
    · simp [e] at h
    · simp [putF, e, putF_none f v fs (by simpa [e] using h)]
end B
namespace Bt
open PySem P B
set_option autoImplicit false
def keys : List Str := [s_book, s_turn, s_players, s_happened, s_many, s_lit, s_bonus, s_factor, s_double, s_saves, s_warns, s_calm, s_is_tilted, s_is_open, s_had_extra]
def ballF (b : Ball) : List (Str × D) := [(s_many, .int b.many), (s_lit, .tup (b.lit.map .str)), (s_bonus, .int b.bonus), (s_factor, .int b.factor), (s_double, .int b.double), (s_saves, .int b.saves), (s_warns, .int b.warns), (s_calm, .int b.calm), (s_is_tilted, .bl b.tilted), (s_is_open, .bl b.opn), (s_had_extra, .bl b.had)]
def flds (bk tu pl hp : D) (b : Ball) : List (Str × D) := (s_book, bk) :: (s_turn, tu) :: (s_players, pl) :: (s_happened, hp) :: ballF b
theorem flds_keys (bk tu pl hp : D) (b : Ball) : (flds bk tu pl hp b).map (·.1) = keys := rfl
theorem flds_get {bk tu pl hp : D} {b : Ball} {f : Str} (i : Nat) (h : keys.findIdx? (fun g => decide (g = f)) = some i) : getF (flds bk tu pl hp b) f = ((flds bk tu pl hp b)[i]?).map (·.2) := getF_pos f _ i (by rw [flds_keys]; exact h)
theorem flds_no {bk tu pl hp : D} {b : Ball} {f : Str} (h : keys.findIdx? (fun g => decide (g = f)) = none) : getF (flds bk tu pl hp b) f = none := getF_none f _ (by rw [flds_keys]; exact h)
theorem flds_put {bk tu pl hp v : D} {b : Ball} {f : Str} (i : Nat) (h : keys.findIdx? (fun g => decide (g = f)) = some i) : putF f v (flds bk tu pl hp b) = (flds bk tu pl hp b).set i (f, v) := putF_pos f v _ i (by rw [flds_keys]; exact h)
def refs (n k : Nat) : List D := (List.range k).map fun i => .ref (n + i)
def cells (x : Ix) (n : Nat) (k : Book) (tu : D) (ps : List Pl) (b : Ball) (h : List D) : List Cell :=
  .ins x.i_Play_init (flds (eBook k) tu (.lst (refs (n + 1) ps.length)) (.ref (n + 1 + ps.length)) b) :: (ps.map (fun q => Cell.lst (lPl q)) ++ [.lst h])
def S (x : Ix) (st : Store) (k : Book) (tu : D) (ps : List Pl) (b : Ball) (h : List D) : Store := st ++ cells x st.length k tu ps b h
variable {x : Ix} {st : Store} {k : Book} {tu : D} {ps : List Pl} {b : Ball} {h : List D} {t : Nat} {ρ : Slots}
theorem S_ins : (S x st k tu ps b h)[st.length]? = some (.ins x.i_Play_init (flds (eBook k) tu (.lst (refs (st.length + 1) ps.length)) (.ref (st.length + 1 + ps.length)) b)) := by
  simp [S, cells]
theorem S_pl (ht : t < ps.length) : (S x st k tu ps b h)[st.length + 1 + t]? = some (.lst (lPl (ps.getD t default))) := by
  unfold S cells
  rw [List.getElem?_append_right (by omega), show st.length + 1 + t - st.length = t + 1 by omega, List.getElem?_cons_succ, List.getElem?_append_left (by simpa using ht), List.getElem?_map]
  simp [ht]
theorem S_hap : (S x st k tu ps b h)[st.length + 1 + ps.length]? = some (.lst h) := by
  unfold S cells
  rw [List.getElem?_append_right (by omega), show st.length + 1 + ps.length - st.length = ps.length + 1 by omega, List.getElem?_cons_succ, List.getElem?_append_right (by simp)]
  simp
theorem S_putI {tu' : D} {b' : Ball} : putCell (S x st k tu ps b h) st.length (.ins x.i_Play_init (flds (eBook k) tu' (.lst (refs (st.length + 1) ps.length)) (.ref (st.length + 1 + ps.length)) b')) = S x st k tu' ps b' h := by
  simp [S, cells, putCell]
theorem S_putP {q : Pl} (ht : t < ps.length) : putCell (S x st k tu ps b h) (st.length + 1 + t) (.lst (lPl q)) = S x st k tu (ps.set t q) b h := by
  unfold S cells putCell
  rw [List.set_append_right _ _ (by omega), show st.length + 1 + t - st.length = t + 1 by omega, List.set_cons_succ, List.set_append_left _ _ (by simpa using ht), List.map_set, List.length_set]
theorem S_putH {h' : List D} : putCell (S x st k tu ps b h) (st.length + 1 + ps.length) (.lst h') = S x st k tu ps b h' := by
  unfold S cells putCell
  rw [List.set_append_right _ _ (by omega), show st.length + 1 + ps.length - st.length = ps.length + 1 by omega, List.set_cons_succ, List.set_append_right _ _ (by simp)]
  simp
theorem S_fld {f : Str} (i : Nat) (hf : keys.findIdx? (fun g => decide (g = f)) = some i) : fldD (S x st k tu ps b h) (.ref st.length) f = ((flds (eBook k) tu (.lst (refs (st.length + 1) ps.length)) (.ref (st.length + 1 + ps.length)) b)[i]?).map (·.2) := by
  simp only [fldD, S_ins]
  exact flds_get i hf
theorem S_set {f : Str} {v : D} (i : Nat) (hf : keys.findIdx? (fun g => decide (g = f)) = some i) {tu' : D} {b' : Ball}
    (e : (flds (eBook k) tu (.lst (refs (st.length + 1) ps.length)) (.ref (st.length + 1 + ps.length)) b).set i (f, v) = flds (eBook k) tu' (.lst (refs (st.length + 1) ps.length)) (.ref (st.length + 1 + ps.length)) b') :
    setF (.ref st.length) f v ρ (S x st k tu ps b h) = .ok ρ (S x st k tu' ps b' h) := by
  simp only [setF, S_ins]
  rw [if_pos (show (flds _ _ _ _ _).length < 1000 from (by decide : 15 < 1000)), flds_put i hf, e, S_putI]
theorem S_meth {m : Str} (hm : keys.findIdx? (fun g => decide (g = m)) = none) : instOf (S x st k tu ps b h) (.ref st.length) x.i_Play_init m = true := by
  simp only [instOf, S_ins, flds_no hm, Option.isNone_none, decide_true, Bool.and_self]
theorem refs_at {n k t : Nat} (ht : t < k) : L2.atI (refs n k) (t : Int) = some (.ref (n + t)) := by
  rw [at_nat]
  simp [refs, ht]
/-! ### who plays -/
def SM (x : Ix) (st : Store) (k : Book) (t : Nat) (ps : List Pl) (m : M) : Store := S x st k (.int t) (ps.set t m.q) m.b (m.h.map fun w => eTold (t, w.1, w.2))
variable {m : M}
theorem M_book : fldD (SM x st k t ps m) (.ref st.length) s_book = some (eBook k) := S_fld 0 (by decide +kernel)
theorem M_turn : fldD (SM x st k t ps m) (.ref st.length) s_turn = some (.int t) := S_fld 1 (by decide +kernel)
theorem M_players : fldD (SM x st k t ps m) (.ref st.length) s_players = some (.lst (refs (st.length + 1) ps.length)) := by
  have := S_fld (x := x) (st := st) (k := k) (tu := .int t) (ps := ps.set t m.q) (b := m.b) (h := m.h.map fun w => eTold (t, w.1, w.2)) (f := s_players) 2 (by decide +kernel)
  rw [List.length_set] at this
  exact this
theorem M_happened : fldD (SM x st k t ps m) (.ref st.length) s_happened = some (.ref (st.length + 1 + ps.length)) := by
  have := S_fld (x := x) (st := st) (k := k) (tu := .int t) (ps := ps.set t m.q) (b := m.b) (h := m.h.map fun w => eTold (t, w.1, w.2)) (f := s_happened) 3 (by decide +kernel)
  rw [List.length_set] at this
  exact this
theorem M_many : fldD (SM x st k t ps m) (.ref st.length) s_many = some (.int m.b.many) := S_fld 4 (by decide +kernel)
theorem M_lit : fldD (SM x st k t ps m) (.ref st.length) s_lit = some (.tup (m.b.lit.map .str)) := S_fld 5 (by decide +kernel)
theorem M_bonus : fldD (SM x st k t ps m) (.ref st.length) s_bonus = some (.int m.b.bonus) := S_fld 6 (by decide +kernel)
theorem M_factor : fldD (SM x st k t ps m) (.ref st.length) s_factor = some (.int m.b.factor) := S_fld 7 (by decide +kernel)
theorem M_double : fldD (SM x st k t ps m) (.ref st.length) s_double = some (.int m.b.double) := S_fld 8 (by decide +kernel)
theorem M_saves : fldD (SM x st k t ps m) (.ref st.length) s_saves = some (.int m.b.saves) := S_fld 9 (by decide +kernel)
theorem M_warns : fldD (SM x st k t ps m) (.ref st.length) s_warns = some (.int m.b.warns) := S_fld 10 (by decide +kernel)
theorem M_calm : fldD (SM x st k t ps m) (.ref st.length) s_calm = some (.int m.b.calm) := S_fld 11 (by decide +kernel)
theorem M_tilted : fldD (SM x st k t ps m) (.ref st.length) s_is_tilted = some (.bl m.b.tilted) := S_fld 12 (by decide +kernel)
theorem M_open : fldD (SM x st k t ps m) (.ref st.length) s_is_open = some (.bl m.b.opn) := S_fld 13 (by decide +kernel)
theorem M_had : fldD (SM x st k t ps m) (.ref st.length) s_had_extra = some (.bl m.b.had) := S_fld 14 (by decide +kernel)
theorem N_many {v : Int} : setF (.ref st.length) s_many (.int v) ρ (SM x st k t ps m) = .ok ρ (SM x st k t ps { m with b := { m.b with many := v } }) := S_set 4 (by decide +kernel) rfl
theorem N_lit {v : List Str} : setF (.ref st.length) s_lit (.tup (v.map .str)) ρ (SM x st k t ps m) = .ok ρ (SM x st k t ps { m with b := { m.b with lit := v } }) := S_set 5 (by decide +kernel) rfl
theorem N_lit0 : setF (.ref st.length) s_lit (.tup []) ρ (SM x st k t ps m) = .ok ρ (SM x st k t ps { m with b := { m.b with lit := [] } }) := S_set 5 (by decide +kernel) rfl
theorem N_bonus {v : Int} : setF (.ref st.length) s_bonus (.int v) ρ (SM x st k t ps m) = .ok ρ (SM x st k t ps { m with b := { m.b with bonus := v } }) := S_set 6 (by decide +kernel) rfl
theorem N_factor {v : Int} : setF (.ref st.length) s_factor (.int v) ρ (SM x st k t ps m) = .ok ρ (SM x st k t ps { m with b := { m.b with factor := v } }) := S_set 7 (by decide +kernel) rfl
theorem N_double {v : Int} : setF (.ref st.length) s_double (.int v) ρ (SM x st k t ps m) = .ok ρ (SM x st k t ps { m with b := { m.b with double := v } }) := S_set 8 (by decide +kernel) rfl
theorem N_saves {v : Int} : setF (.ref st.length) s_saves (.int v) ρ (SM x st k t ps m) = .ok ρ (SM x st k t ps { m with b := { m.b with saves := v } }) := S_set 9 (by decide +kernel) rfl
theorem N_warns {v : Int} : setF (.ref st.length) s_warns (.int v) ρ (SM x st k t ps m) = .ok ρ (SM x st k t ps { m with b := { m.b with warns := v } }) := S_set 10 (by decide +kernel) rfl
theorem N_calm {v : Int} : setF (.ref st.length) s_calm (.int v) ρ (SM x st k t ps m) = .ok ρ (SM x st k t ps { m with b := { m.b with calm := v } }) := S_set 11 (by decide +kernel) rfl
theorem N_tilted {v : Bool} : setF (.ref st.length) s_is_tilted (.bl v) ρ (SM x st k t ps m) = .ok ρ (SM x st k t ps { m with b := { m.b with tilted := v } }) := S_set 12 (by decide +kernel) rfl
theorem N_open {v : Bool} : setF (.ref st.length) s_is_open (.bl v) ρ (SM x st k t ps m) = .ok ρ (SM x st k t ps { m with b := { m.b with opn := v } }) := S_set 13 (by decide +kernel) rfl
theorem N_had {v : Bool} : setF (.ref st.length) s_had_extra (.bl v) ρ (SM x st k t ps m) = .ok ρ (SM x st k t ps { m with b := { m.b with had := v } }) := S_set 14 (by decide +kernel) rfl
theorem M_meth {f : Str} (hm : keys.findIdx? (fun g => decide (g = f)) = none) : instOf (SM x st k t ps m) (.ref st.length) x.i_Play_init f = true := S_meth hm
theorem m_tell : instOf (SM x st k t ps m) (.ref st.length) x.i_Play_init s_tell = true := M_meth (by decide +kernel)
theorem m_doubled : instOf (SM x st k t ps m) (.ref st.length) x.i_Play_init s_doubled = true := M_meth (by decide +kernel)
theorem m_look_for_aim : instOf (SM x st k t ps m) (.ref st.length) x.i_Play_init s_look_for_aim = true := M_meth (by decide +kernel)
theorem m_hit : instOf (SM x st k t ps m) (.ref st.length) x.i_Play_init s_hit = true := M_meth (by decide +kernel)
theorem m_look_for_lock : instOf (SM x st k t ps m) (.ref st.length) x.i_Play_init s_look_for_lock = true := M_meth (by decide +kernel)
theorem m_award : instOf (SM x st k t ps m) (.ref st.length) x.i_Play_init s_award = true := M_meth (by decide +kernel)
theorem m_nudge : instOf (SM x st k t ps m) (.ref st.length) x.i_Play_init s_nudge = true := M_meth (by decide +kernel)
theorem m_tick : instOf (SM x st k t ps m) (.ref st.length) x.i_Play_init s_tick = true := M_meth (by decide +kernel)
theorem m_is_still : instOf (SM x st k t ps m) (.ref st.length) x.i_Play_init s_is_still = true := M_meth (by decide +kernel)
theorem m_set_ball : instOf (S x st k tu ps b h) (.ref st.length) x.i_Play_init s_set_ball = true := S_meth (by decide +kernel)
theorem m_ball : instOf (S x st k tu ps b h) (.ref st.length) x.i_Play_init s_ball = true := S_meth (by decide +kernel)
theorem m_state : instOf (S x st k tu ps b h) (.ref st.length) x.i_Play_init s_state = true := S_meth (by decide +kernel)
/-- self.players[self.turn] -/
theorem M_me (ht : t < ps.length) : idxD (SM x st k t ps m) (.lst (refs (st.length + 1) ps.length)) (.int t) = some (.ref (st.length + 1 + t)) := by
  simp only [idxD, view, atD, refs_at ht]
theorem set_len {α : Type} {l : List α} {i : Nat} {a : α} (h : i < l.length) : i < (l.set i a).length := by rw [List.length_set]; exact h
theorem set_get {l : List Pl} {i : Nat} {a : Pl} (h : i < l.length) : (l.set i a).getD i default = a := by
  simp [h]
theorem M_view (ht : t < ps.length) : view (SM x st k t ps m) (.ref (st.length + 1 + t)) = .lst (lPl m.q) := by
  have := S_pl (x := x) (st := st) (k := k) (tu := .int t) (b := m.b) (h := m.h.map fun w => eTold (t, w.1, w.2)) (set_len (a := m.q) ht)
  rw [set_get ht] at this
  simp only [view, SM, this]
theorem M_pts (ht : t < ps.length) : idxD (SM x st k t ps m) (.ref (st.length + 1 + t)) (.int 0) = some (.int m.q.pts) := by
  simp only [idxD, M_view ht, lPl, atD, at_0]
theorem M_left (ht : t < ps.length) : idxD (SM x st k t ps m) (.ref (st.length + 1 + t)) (.int 1) = some (.int m.q.left) := by
  simp only [idxD, M_view ht, lPl, atD, at_1]
theorem M_ext (ht : t < ps.length) : idxD (SM x st k t ps m) (.ref (st.length + 1 + t)) (.int 2) = some (.int m.q.ext) := by
  simp only [idxD, M_view ht, lPl, atD, at_2]
theorem M_lck (ht : t < ps.length) : idxD (SM x st k t ps m) (.ref (st.length + 1 + t)) (.int 3) = some (.int m.q.lck) := by
  simp only [idxD, M_view ht, lPl, atD, at_3]
theorem M_won (ht : t < ps.length) : idxD (SM x st k t ps m) (.ref (st.length + 1 + t)) (.int 4) = some (.bl m.q.won) := by
  simp only [idxD, M_view ht, lPl, atD]
  exact at_nat _ 4
theorem N_pl (ht : t < ps.length) (i : Nat) (hi : i < 5) {v : D} {q' : Pl} (e : (lPl m.q).set i v = lPl q') : setS (.ref (st.length + 1 + t)) (.int i) v ρ (SM x st k t ps m) = .ok ρ (SM x st k t ps { m with q := q' }) := by
  have := S_pl (x := x) (st := st) (k := k) (tu := .int t) (b := m.b) (h := m.h.map fun w => eTold (t, w.1, w.2)) (set_len (a := m.q) ht)
  rw [set_get ht] at this
  have hx : L2.ixN (lPl m.q).length (i : Int) = some i := by
    unfold L2.ixN
    simp [lPl]
    omega
  simp only [setS, SM, this, hx, e]
  rw [S_putP (set_len ht), List.set_set]
theorem N_pts (ht : t < ps.length) {v : Int} : setS (.ref (st.length + 1 + t)) (.int 0) (.int v) ρ (SM x st k t ps m) = .ok ρ (SM x st k t ps { m with q := { m.q with pts := v } }) := N_pl ht 0 (by decide) rfl
theorem N_left (ht : t < ps.length) {v : Int} : setS (.ref (st.length + 1 + t)) (.int 1) (.int v) ρ (SM x st k t ps m) = .ok ρ (SM x st k t ps { m with q := { m.q with left := v } }) := N_pl ht 1 (by decide) rfl
theorem N_ext (ht : t < ps.length) {v : Int} : setS (.ref (st.length + 1 + t)) (.int 2) (.int v) ρ (SM x st k t ps m) = .ok ρ (SM x st k t ps { m with q := { m.q with ext := v } }) := N_pl ht 2 (by decide) rfl
theorem N_lck (ht : t < ps.length) {v : Int} : setS (.ref (st.length + 1 + t)) (.int 3) (.int v) ρ (SM x st k t ps m) = .ok ρ (SM x st k t ps { m with q := { m.q with lck := v } }) := N_pl ht 3 (by decide) rfl
theorem N_won (ht : t < ps.length) {v : Bool} : setS (.ref (st.length + 1 + t)) (.int 4) (.bl v) ρ (SM x st k t ps m) = .ok ρ (SM x st k t ps { m with q := { m.q with won := v } }) := N_pl ht 4 (by decide) rfl
theorem M_hapL : lstAt (SM x st k t ps m) (.ref (st.length + 1 + ps.length)) = some (m.h.map fun w => eTold (t, w.1, w.2)) := by
  have := S_hap (x := x) (st := st) (k := k) (tu := .int t) (ps := ps.set t m.q) (b := m.b) (h := m.h.map fun w => eTold (t, w.1, w.2))
  rw [List.length_set] at this
  simp only [lstAt, SM, this]
theorem N_hap {w : Str} {n : Int} : putL (SM x st k t ps m) (.ref (st.length + 1 + ps.length)) ((m.h.map fun w => eTold (t, w.1, w.2)) ++ [.tup [.int t, .str w, .int n]]) = SM x st k t ps { m with h := m.h ++ [(w, n)] } := by
  have := S_putH (x := x) (st := st) (k := k) (tu := .int t) (ps := ps.set t m.q) (b := m.b) (h := m.h.map fun w => eTold (t, w.1, w.2)) (h' := (m.h ++ [(w, n)]).map fun w => eTold (t, w.1, w.2))
  rw [List.length_set] at this
  simp only [putL, SM]
  rw [← this]
  simp [eTold]
end Bt

set_option Elab.async false
set_option linter.all false
set_option maxRecDepth 100000
set_option maxHeartbeats 4000000
/-! The methods of Play, one by one. -/
namespace Bt
open PySem P B
set_option autoImplicit false
variable {x : Ix} {Φ : Phi} {st : Store} {k : Book} {tu : D} {ps : List Pl} {b : Ball} {h : List D} {t : Nat} {m : M}
def SpTell (x : Ix) (Φ : Phi) : Prop := ∀ (st : Store) (k : Book) (t : Nat) (ps : List Pl) (m : M) (w : Str) (n : Int), t < ps.length → m.h.length < 1000 →
  Φ x.i_Play_tell [.ref st.length, .str w, .int n] (SM x st k t ps m) = .ok .non (SM x st k t ps (tell m w n))
def SpDoubled (x : Ix) (Φ : Phi) : Prop := ∀ (st : Store) (k : Book) (t : Nat) (ps : List Pl) (m : M) (n : Int),
  Φ x.i_Play_doubled [.ref st.length, .int n] (SM x st k t ps m) = .ok (.int (doubled m.b n)) (SM x st k t ps m)
def SpAimed (x : Ix) (Φ : Phi) : Prop := ∀ (st : Store) (k : Book) (t : Nat) (ps : List Pl) (m : M), t < ps.length → m.h.length < 1000 →
  Φ x.i_Play_look_for_aim [.ref st.length] (SM x st k t ps m) = .ok .non (SM x st k t ps (aimed k m))
def SpLock (x : Ix) (Φ : Phi) : Prop := ∀ (st : Store) (k : Book) (t : Nat) (ps : List Pl) (m : M) (n : Str), t < ps.length → m.h.length < 900 →
  Φ x.i_Play_look_for_lock [.ref st.length, .str n] (SM x st k t ps m) = .ok .non (SM x st k t ps (locks k m n))
def SpAward (x : Ix) (Φ : Phi) : Prop := ∀ (st : Store) (k : Book) (t : Nat) (ps : List Pl) (m : M) (w : Str), t < ps.length → m.h.length < 1000 →
  Φ x.i_Play_award [.ref st.length, .str w] (SM x st k t ps m) = .ok .non (SM x st k t ps (award k m w))
def SpHit (x : Ix) (Φ : Phi) : Prop := ∀ (st : Store) (k : Book) (t : Nat) (ps : List Pl) (m : M) (g : Tgt), t < ps.length → m.h.length < 100 → m.b.lit.length < 1000 → k.bk.length < 100 →
  Φ x.i_Play_hit [.ref st.length, eT g] (SM x st k t ps m) = .ok .non (SM x st k t ps (hit k m g))
def SpNudge (x : Ix) (Φ : Phi) : Prop := ∀ (st : Store) (k : Book) (t : Nat) (ps : List Pl) (m : M), t < ps.length → m.h.length < 900 →
  Φ x.i_Play_nudge [.ref st.length] (SM x st k t ps m) = .ok .non (SM x st k t ps (nudge k m))
def SpTick (x : Ix) (Φ : Phi) : Prop := ∀ (st : Store) (k : Book) (t : Nat) (ps : List Pl) (m : M),
  Φ x.i_Play_tick [.ref st.length] (SM x st k t ps m) = .ok .non (SM x st k t ps { m with b := tick m.b })
def SpStill (x : Ix) (Φ : Phi) : Prop := ∀ (st : Store) (k : Book) (t : Nat) (ps : List Pl) (m : M),
  Φ x.i_Play_is_still [.ref st.length] (SM x st k t ps m) = .ok (.bl (still m.b)) (SM x st k t ps m)
theorem e_app {o e : Ex} {ρ : Slots} {st st1 st2 : Store} {a v : D} {xs : List D} (ho : evE Φ o ρ st = .ok a st1) (h1 : lstAt st1 a = some xs) (he : evE Φ e ρ st1 = .ok v st2) (h2 : lstAt st2 a = some xs) (hl : xs.length < sizeLine) :
    evE Φ (.app o e) ρ st = .ok .non (putL st2 a (xs ++ [v])) := by
  simp only [evE, ho, R.bind_ok, h1, Option.isSome_some, if_true, he, h2, if_pos hl]
theorem tell_run (ht : t < ps.length) (w : Str) (n : Int) (hh : m.h.length < 1000) : ∃ ρ, evSs Φ (d_Play_tell x) (startE 3 [.ref st.length, .str w, .int n]) (SM x st k t ps m) = .ok (.next ρ) (SM x st k t ps (tell m w n)) := by
  unfold d_Play_tell
  refine ⟨[.val (.ref st.length), .val (.str w), .val (.int n)], ss_step (ρ' := [.val (.ref st.length), .val (.str w), .val (.int n)]) (e_expr (e_app (a := .ref (st.length + 1 + ps.length)) (v := .tup [.int t, .str w, .int n]) (st1 := SM x st k t ps m) (st2 := SM x st k t ps m) ?_ M_hapL ?_ M_hapL ?_)) ?_⟩
  · simp only [EV, lift_some, R.bind_ok, R.s_ok, R.s_exc, w_noExc_ok, List.getElem?_cons_zero, List.getElem?_cons_succ, List.getElem?_nil, List.set_cons_zero, List.set_cons_succ, List.map_cons, List.map_nil, List.length_cons, List.length_nil, List.cons_append, List.nil_append, getV, getO, wipeE, startE, List.replicate, Nat.reduceAdd, Nat.reduceSub, Nat.reduceLT, Nat.reduceLeDiff, if_true, if_false, Bool.false_eq_true, Bool.true_eq_false, reduceIte, endOf_next, endOf_ret, endOf_exc, decide_true, decide_false, Bool.not_true, Bool.not_false, M_book, M_turn, M_players, M_happened, M_many, M_lit, M_bonus, M_factor, M_double, M_saves, M_warns, M_calm, M_tilted, M_open, M_had, N_many, N_lit, N_lit0, N_bonus, N_factor, N_double, N_saves, N_warns, N_calm, N_tilted, N_open, N_had, m_tell, m_doubled, m_look_for_aim, m_hit, m_look_for_lock, m_award, m_nudge, m_tick, m_is_still, m_set_ball, m_ball, m_state, M_hapL, N_hap, M_me ht, M_pts ht, M_left ht, M_ext ht, M_lck ht, M_won ht, N_pts ht, N_left ht, N_ext ht, N_lck ht, N_won ht]
  · simp only [EV, lift_some, R.bind_ok, R.s_ok, R.s_exc, w_noExc_ok, List.getElem?_cons_zero, List.getElem?_cons_succ, List.getElem?_nil, List.set_cons_zero, List.set_cons_succ, List.map_cons, List.map_nil, List.length_cons, List.length_nil, List.cons_append, List.nil_append, getV, getO, wipeE, startE, List.replicate, Nat.reduceAdd, Nat.reduceSub, Nat.reduceLT, Nat.reduceLeDiff, if_true, if_false, Bool.false_eq_true, Bool.true_eq_false, reduceIte, endOf_next, endOf_ret, endOf_exc, decide_true, decide_false, Bool.not_true, Bool.not_false, M_book, M_turn, M_players, M_happened, M_many, M_lit, M_bonus, M_factor, M_double, M_saves, M_warns, M_calm, M_tilted, M_open, M_had, N_many, N_lit, N_lit0, N_bonus, N_factor, N_double, N_saves, N_warns, N_calm, N_tilted, N_open, N_had, m_tell, m_doubled, m_look_for_aim, m_hit, m_look_for_lock, m_award, m_nudge, m_tick, m_is_still, m_set_ball, m_ball, m_state, M_hapL, N_hap, M_me ht, M_pts ht, M_left ht, M_ext ht, M_lck ht, M_won ht, N_pts ht, N_left ht, N_ext ht, N_lck ht, N_won ht]
  · rw [List.length_map]
    exact smallL (by omega)
  · simp only [EV, lift_some, R.bind_ok, R.s_ok, R.s_exc, w_noExc_ok, List.getElem?_cons_zero, List.getElem?_cons_succ, List.getElem?_nil, List.set_cons_zero, List.set_cons_succ, List.map_cons, List.map_nil, List.length_cons, List.length_nil, List.cons_append, List.nil_append, getV, getO, wipeE, startE, List.replicate, Nat.reduceAdd, Nat.reduceSub, Nat.reduceLT, Nat.reduceLeDiff, if_true, if_false, Bool.false_eq_true, Bool.true_eq_false, reduceIte, endOf_next, endOf_ret, endOf_exc, decide_true, decide_false, Bool.not_true, Bool.not_false, M_book, M_turn, M_players, M_happened, M_many, M_lit, M_bonus, M_factor, M_double, M_saves, M_warns, M_calm, M_tilted, M_open, M_had, N_many, N_lit, N_lit0, N_bonus, N_factor, N_double, N_saves, N_warns, N_calm, N_tilted, N_open, N_had, m_tell, m_doubled, m_look_for_aim, m_hit, m_look_for_lock, m_award, m_nudge, m_tick, m_is_still, m_set_ball, m_ball, m_state, M_hapL, N_hap, M_me ht, M_pts ht, M_left ht, M_ext ht, M_lck ht, M_won ht, N_pts ht, N_left ht, N_ext ht, N_lck ht, N_won ht]
    rfl
theorem doubled_run (n : Int) : evSs Φ (d_Play_doubled x) (startE 2 [.ref st.length, .int n]) (SM x st k t ps m) = .ok (.ret (.int (doubled m.b n))) (SM x st k t ps m) := by
  unfold d_Play_doubled doubled
  have e : mulOk 2 n = true := mulL
  by_cases c : 0 < m.b.double
  · simp only [EV, lift_some, R.bind_ok, R.s_ok, R.s_exc, w_noExc_ok, List.getElem?_cons_zero, List.getElem?_cons_succ, List.getElem?_nil, List.set_cons_zero, List.set_cons_succ, List.map_cons, List.map_nil, List.length_cons, List.length_nil, List.cons_append, List.nil_append, getV, getO, wipeE, startE, List.replicate, Nat.reduceAdd, Nat.reduceSub, Nat.reduceLT, Nat.reduceLeDiff, if_true, if_false, Bool.false_eq_true, Bool.true_eq_false, reduceIte, endOf_next, endOf_ret, endOf_exc, decide_true, decide_false, Bool.not_true, Bool.not_false, M_book, M_turn, M_players, M_happened, M_many, M_lit, M_bonus, M_factor, M_double, M_saves, M_warns, M_calm, M_tilted, M_open, M_had, N_many, N_lit, N_lit0, N_bonus, N_factor, N_double, N_saves, N_warns, N_calm, N_tilted, N_open, N_had, m_tell, m_doubled, m_look_for_aim, m_hit, m_look_for_lock, m_award, m_nudge, m_tick, m_is_still, m_set_ball, m_ball, m_state, M_hapL, N_hap, c, decide_true, o_mul e]
  · simp only [EV, lift_some, R.bind_ok, R.s_ok, R.s_exc, w_noExc_ok, List.getElem?_cons_zero, List.getElem?_cons_succ, List.getElem?_nil, List.set_cons_zero, List.set_cons_succ, List.map_cons, List.map_nil, List.length_cons, List.length_nil, List.cons_append, List.nil_append, getV, getO, wipeE, startE, List.replicate, Nat.reduceAdd, Nat.reduceSub, Nat.reduceLT, Nat.reduceLeDiff, if_true, if_false, Bool.false_eq_true, Bool.true_eq_false, reduceIte, endOf_next, endOf_ret, endOf_exc, decide_true, decide_false, Bool.not_true, Bool.not_false, M_book, M_turn, M_players, M_happened, M_many, M_lit, M_bonus, M_factor, M_double, M_saves, M_warns, M_calm, M_tilted, M_open, M_had, N_many, N_lit, N_lit0, N_bonus, N_factor, N_double, N_saves, N_warns, N_calm, N_tilted, N_open, N_had, m_tell, m_doubled, m_look_for_aim, m_hit, m_look_for_lock, m_award, m_nudge, m_tick, m_is_still, m_set_ball, m_ball, m_state, M_hapL, N_hap, c, decide_false]
theorem aimed_run (T : SpTell x Φ) (ht : t < ps.length) (hh : m.h.length < 1000) : ∃ ρ, evSs Φ (d_Play_look_for_aim x) (startE 2 [.ref st.length]) (SM x st k t ps m) = .ok (.next ρ) (SM x st k t ps (aimed k m)) := by
  unfold d_Play_look_for_aim aimed
  have T' := T st k t ps { m with q := { m.q with won := true } } s_won 0 ht hh
  cases ha : k.aim with
  | none => exact ⟨_, by simp only [EV, lift_some, R.bind_ok, R.s_ok, R.s_exc, w_noExc_ok, List.getElem?_cons_zero, List.getElem?_cons_succ, List.getElem?_nil, List.set_cons_zero, List.set_cons_succ, List.map_cons, List.map_nil, List.length_cons, List.length_nil, List.cons_append, List.nil_append, getV, getO, wipeE, startE, List.replicate, Nat.reduceAdd, Nat.reduceSub, Nat.reduceLT, Nat.reduceLeDiff, if_true, if_false, Bool.false_eq_true, Bool.true_eq_false, reduceIte, endOf_next, endOf_ret, endOf_exc, decide_true, decide_false, Bool.not_true, Bool.not_false, M_book, M_turn, M_players, M_happened, M_many, M_lit, M_bonus, M_factor, M_double, M_saves, M_warns, M_calm, M_tilted, M_open, M_had, N_many, N_lit, N_lit0, N_bonus, N_factor, N_double, N_saves, N_warns, N_calm, N_tilted, N_open, N_had, m_tell, m_doubled, m_look_for_aim, m_hit, m_look_for_lock, m_award, m_nudge, m_tick, m_is_still, m_set_ball, m_ball, m_state, M_hapL, N_hap, M_me ht, M_pts ht, M_left ht, M_ext ht, M_lck ht, M_won ht, N_pts ht, N_left ht, N_ext ht, N_lck ht, N_won ht, eBook, ha, eO, Bool.not_true]; rfl⟩
  | some a =>
    by_cases c1 : a ≤ m.q.pts
    · cases c2 : m.q.won with
      | true => exact ⟨_, by simp only [EV, lift_some, R.bind_ok, R.s_ok, R.s_exc, w_noExc_ok, List.getElem?_cons_zero, List.getElem?_cons_succ, List.getElem?_nil, List.set_cons_zero, List.set_cons_succ, List.map_cons, List.map_nil, List.length_cons, List.length_nil, List.cons_append, List.nil_append, getV, getO, wipeE, startE, List.replicate, Nat.reduceAdd, Nat.reduceSub, Nat.reduceLT, Nat.reduceLeDiff, if_true, if_false, Bool.false_eq_true, Bool.true_eq_false, reduceIte, endOf_next, endOf_ret, endOf_exc, decide_true, decide_false, Bool.not_true, Bool.not_false, M_book, M_turn, M_players, M_happened, M_many, M_lit, M_bonus, M_factor, M_double, M_saves, M_warns, M_calm, M_tilted, M_open, M_had, N_many, N_lit, N_lit0, N_bonus, N_factor, N_double, N_saves, N_warns, N_calm, N_tilted, N_open, N_had, m_tell, m_doubled, m_look_for_aim, m_hit, m_look_for_lock, m_award, m_nudge, m_tick, m_is_still, m_set_ball, m_ball, m_state, M_hapL, N_hap, M_me ht, M_pts ht, M_left ht, M_ext ht, M_lck ht, M_won ht, N_pts ht, N_left ht, N_ext ht, N_lck ht, N_won ht, eBook, ha, eO, c1, c2, decide_true, Bool.not_false, Bool.not_true, and_false, and_true]; rfl⟩
      | false => exact ⟨_, by simp only [EV, lift_some, R.bind_ok, R.s_ok, R.s_exc, w_noExc_ok, List.getElem?_cons_zero, List.getElem?_cons_succ, List.getElem?_nil, List.set_cons_zero, List.set_cons_succ, List.map_cons, List.map_nil, List.length_cons, List.length_nil, List.cons_append, List.nil_append, getV, getO, wipeE, startE, List.replicate, Nat.reduceAdd, Nat.reduceSub, Nat.reduceLT, Nat.reduceLeDiff, if_true, if_false, Bool.false_eq_true, Bool.true_eq_false, reduceIte, endOf_next, endOf_ret, endOf_exc, decide_true, decide_false, Bool.not_true, Bool.not_false, M_book, M_turn, M_players, M_happened, M_many, M_lit, M_bonus, M_factor, M_double, M_saves, M_warns, M_calm, M_tilted, M_open, M_had, N_many, N_lit, N_lit0, N_bonus, N_factor, N_double, N_saves, N_warns, N_calm, N_tilted, N_open, N_had, m_tell, m_doubled, m_look_for_aim, m_hit, m_look_for_lock, m_award, m_nudge, m_tick, m_is_still, m_set_ball, m_ball, m_state, M_hapL, N_hap, M_me ht, M_pts ht, M_left ht, M_ext ht, M_lck ht, M_won ht, N_pts ht, N_left ht, N_ext ht, N_lck ht, N_won ht, eBook, ha, eO, c1, c2, decide_true, Bool.not_false, Bool.not_true, and_self, and_true, T']; rfl⟩
    · exact ⟨_, by simp only [EV, lift_some, R.bind_ok, R.s_ok, R.s_exc, w_noExc_ok, List.getElem?_cons_zero, List.getElem?_cons_succ, List.getElem?_nil, List.set_cons_zero, List.set_cons_succ, List.map_cons, List.map_nil, List.length_cons, List.length_nil, List.cons_append, List.nil_append, getV, getO, wipeE, startE, List.replicate, Nat.reduceAdd, Nat.reduceSub, Nat.reduceLT, Nat.reduceLeDiff, if_true, if_false, Bool.false_eq_true, Bool.true_eq_false, reduceIte, endOf_next, endOf_ret, endOf_exc, decide_true, decide_false, Bool.not_true, Bool.not_false, M_book, M_turn, M_players, M_happened, M_many, M_lit, M_bonus, M_factor, M_double, M_saves, M_warns, M_calm, M_tilted, M_open, M_had, N_many, N_lit, N_lit0, N_bonus, N_factor, N_double, N_saves, N_warns, N_calm, N_tilted, N_open, N_had, m_tell, m_doubled, m_look_for_aim, m_hit, m_look_for_lock, m_award, m_nudge, m_tick, m_is_still, m_set_ball, m_ball, m_state, M_hapL, N_hap, M_me ht, M_pts ht, M_left ht, M_ext ht, M_lck ht, M_won ht, N_pts ht, N_left ht, N_ext ht, N_lck ht, N_won ht, eBook, ha, eO, c1, decide_false, Bool.not_false, false_and]; rfl⟩
theorem lock_run (T : SpTell x Φ) (ht : t < ps.length) (n : Str) (hh : m.h.length < 900) : evSs Φ (d_Play_look_for_lock x) (startE 4 [.ref st.length, .str n]) (SM x st k t ps m) = .ok (.ret .non) (SM x st k t ps (locks k m n)) := by
  unfold d_Play_look_for_lock locks
  cases hl : k.lk with
  | none => simp only [EV, lift_some, R.bind_ok, R.s_ok, R.s_exc, w_noExc_ok, List.getElem?_cons_zero, List.getElem?_cons_succ, List.getElem?_nil, List.set_cons_zero, List.set_cons_succ, List.map_cons, List.map_nil, List.length_cons, List.length_nil, List.cons_append, List.nil_append, getV, getO, wipeE, startE, List.replicate, Nat.reduceAdd, Nat.reduceSub, Nat.reduceLT, Nat.reduceLeDiff, if_true, if_false, Bool.false_eq_true, Bool.true_eq_false, reduceIte, endOf_next, endOf_ret, endOf_exc, decide_true, decide_false, Bool.not_true, Bool.not_false, M_book, M_turn, M_players, M_happened, M_many, M_lit, M_bonus, M_factor, M_double, M_saves, M_warns, M_calm, M_tilted, M_open, M_had, N_many, N_lit, N_lit0, N_bonus, N_factor, N_double, N_saves, N_warns, N_calm, N_tilted, N_open, N_had, m_tell, m_doubled, m_look_for_aim, m_hit, m_look_for_lock, m_award, m_nudge, m_tick, m_is_still, m_set_ball, m_ball, m_state, M_hapL, N_hap, M_me ht, M_pts ht, M_left ht, M_ext ht, M_lck ht, M_won ht, N_pts ht, N_left ht, N_ext ht, N_lck ht, N_won ht, eBook, hl, eO]
  | some lc =>
    obtain ⟨l, c⟩ := lc
    by_cases c1 : n = l
    · by_cases c2 : m.b.opn = true
      · by_cases c3 : m.b.many ≤ 1
        · have T1 := T st k t ps { m with q := { m.q with lck := m.q.lck + 1 }, b := { m.b with opn := false, saves := k.sv } } s_lock 0 ht (by show m.h.length < 1000; omega)
          have z : ¬ (1 < m.b.many) := by omega
          subst c1
          refine ss_step (e_asg (v := ePair (n, c)) (st' := SM x st k t ps m) ?_) ?_
          · simp only [EV, lift_some, R.bind_ok, R.s_ok, R.s_exc, w_noExc_ok, List.getElem?_cons_zero, List.getElem?_cons_succ, List.getElem?_nil, List.set_cons_zero, List.set_cons_succ, List.map_cons, List.map_nil, List.length_cons, List.length_nil, List.cons_append, List.nil_append, getV, getO, wipeE, startE, List.replicate, Nat.reduceAdd, Nat.reduceSub, Nat.reduceLT, Nat.reduceLeDiff, if_true, if_false, Bool.false_eq_true, Bool.true_eq_false, reduceIte, endOf_next, endOf_ret, endOf_exc, decide_true, decide_false, Bool.not_true, Bool.not_false, M_book, M_turn, M_players, M_happened, M_many, M_lit, M_bonus, M_factor, M_double, M_saves, M_warns, M_calm, M_tilted, M_open, M_had, N_many, N_lit, N_lit0, N_bonus, N_factor, N_double, N_saves, N_warns, N_calm, N_tilted, N_open, N_had, m_tell, m_doubled, m_look_for_aim, m_hit, m_look_for_lock, m_award, m_nudge, m_tick, m_is_still, m_set_ball, m_ball, m_state, M_hapL, N_hap, M_me ht, M_pts ht, M_left ht, M_ext ht, M_lck ht, M_won ht, N_pts ht, N_left ht, N_ext ht, N_lck ht, N_won ht, eBook, hl, eO]
          refine ss_step (e_if0 (st' := SM x st k t ps m) ?_) ?_
          · simp only [EV, lift_some, R.bind_ok, R.s_ok, R.s_exc, w_noExc_ok, List.getElem?_cons_zero, List.getElem?_cons_succ, List.getElem?_nil, List.set_cons_zero, List.set_cons_succ, List.map_cons, List.map_nil, List.length_cons, List.length_nil, List.cons_append, List.nil_append, getV, getO, wipeE, startE, List.replicate, Nat.reduceAdd, Nat.reduceSub, Nat.reduceLT, Nat.reduceLeDiff, if_true, if_false, Bool.false_eq_true, Bool.true_eq_false, reduceIte, endOf_next, endOf_ret, endOf_exc, decide_true, decide_false, Bool.not_true, Bool.not_false, M_book, M_turn, M_players, M_happened, M_many, M_lit, M_bonus, M_factor, M_double, M_saves, M_warns, M_calm, M_tilted, M_open, M_had, N_many, N_lit, N_lit0, N_bonus, N_factor, N_double, N_saves, N_warns, N_calm, N_tilted, N_open, N_had, m_tell, m_doubled, m_look_for_aim, m_hit, m_look_for_lock, m_award, m_nudge, m_tick, m_is_still, m_set_ball, m_ball, m_state, M_hapL, N_hap, M_me ht, M_pts ht, M_left ht, M_ext ht, M_lck ht, M_won ht, N_pts ht, N_left ht, N_ext ht, N_lck ht, N_won ht, ePair, c2, z, ne_eq, not_true_eq_false, decide_false, Bool.not_true]
          refine ss_step (e_asg (v := .ref (st.length + 1 + t)) (st' := SM x st k t ps m) ?_) ?_
          · simp only [EV, lift_some, R.bind_ok, R.s_ok, R.s_exc, w_noExc_ok, List.getElem?_cons_zero, List.getElem?_cons_succ, List.getElem?_nil, List.set_cons_zero, List.set_cons_succ, List.map_cons, List.map_nil, List.length_cons, List.length_nil, List.cons_append, List.nil_append, getV, getO, wipeE, startE, List.replicate, Nat.reduceAdd, Nat.reduceSub, Nat.reduceLT, Nat.reduceLeDiff, if_true, if_false, Bool.false_eq_true, Bool.true_eq_false, reduceIte, endOf_next, endOf_ret, endOf_exc, decide_true, decide_false, Bool.not_true, Bool.not_false, M_book, M_turn, M_players, M_happened, M_many, M_lit, M_bonus, M_factor, M_double, M_saves, M_warns, M_calm, M_tilted, M_open, M_had, N_many, N_lit, N_lit0, N_bonus, N_factor, N_double, N_saves, N_warns, N_calm, N_tilted, N_open, N_had, m_tell, m_doubled, m_look_for_aim, m_hit, m_look_for_lock, m_award, m_nudge, m_tick, m_is_still, m_set_ball, m_ball, m_state, M_hapL, N_hap, M_me ht, M_pts ht, M_left ht, M_ext ht, M_lck ht, M_won ht, N_pts ht, N_left ht, N_ext ht, N_lck ht, N_won ht]
          simp only [c2, c3, and_self, if_true]
          by_cases c4 : m.q.lck + 1 = c
          · subst c4
            have T2 := T st k t ps { tell { m with q := { m.q with lck := m.q.lck + 1 }, b := { m.b with opn := false, saves := k.sv } } s_lock 0 with q := { (tell { m with q := { m.q with lck := m.q.lck + 1 }, b := { m.b with opn := false, saves := k.sv } } s_lock 0).q with lck := 0 }, b := { (tell { m with q := { m.q with lck := m.q.lck + 1 }, b := { m.b with opn := false, saves := k.sv } } s_lock 0).b with many := m.q.lck + 1 } } s_all 0 ht (by simp [tell]; omega)
            simp only [tell] at T1 T2 ⊢
            simp only [EV, lift_some, R.bind_ok, R.s_ok, R.s_exc, w_noExc_ok, List.getElem?_cons_zero, List.getElem?_cons_succ, List.getElem?_nil, List.set_cons_zero, List.set_cons_succ, List.map_cons, List.map_nil, List.length_cons, List.length_nil, List.cons_append, List.nil_append, getV, getO, wipeE, startE, List.replicate, Nat.reduceAdd, Nat.reduceSub, Nat.reduceLT, Nat.reduceLeDiff, if_true, if_false, Bool.false_eq_true, Bool.true_eq_false, reduceIte, endOf_next, endOf_ret, endOf_exc, decide_true, decide_false, Bool.not_true, Bool.not_false, M_book, M_turn, M_players, M_happened, M_many, M_lit, M_bonus, M_factor, M_double, M_saves, M_warns, M_calm, M_tilted, M_open, M_had, N_many, N_lit, N_lit0, N_bonus, N_factor, N_double, N_saves, N_warns, N_calm, N_tilted, N_open, N_had, m_tell, m_doubled, m_look_for_aim, m_hit, m_look_for_lock, m_award, m_nudge, m_tick, m_is_still, m_set_ball, m_ball, m_state, M_hapL, N_hap, M_me ht, M_pts ht, M_left ht, M_ext ht, M_lck ht, M_won ht, N_pts ht, N_left ht, N_ext ht, N_lck ht, N_won ht, eBook, ePair, T1, T2]
          · simp only [tell] at T1 ⊢
            simp only [EV, lift_some, R.bind_ok, R.s_ok, R.s_exc, w_noExc_ok, List.getElem?_cons_zero, List.getElem?_cons_succ, List.getElem?_nil, List.set_cons_zero, List.set_cons_succ, List.map_cons, List.map_nil, List.length_cons, List.length_nil, List.cons_append, List.nil_append, getV, getO, wipeE, startE, List.replicate, Nat.reduceAdd, Nat.reduceSub, Nat.reduceLT, Nat.reduceLeDiff, if_true, if_false, Bool.false_eq_true, Bool.true_eq_false, reduceIte, endOf_next, endOf_ret, endOf_exc, decide_true, decide_false, Bool.not_true, Bool.not_false, M_book, M_turn, M_players, M_happened, M_many, M_lit, M_bonus, M_factor, M_double, M_saves, M_warns, M_calm, M_tilted, M_open, M_had, N_many, N_lit, N_lit0, N_bonus, N_factor, N_double, N_saves, N_warns, N_calm, N_tilted, N_open, N_had, m_tell, m_doubled, m_look_for_aim, m_hit, m_look_for_lock, m_award, m_nudge, m_tick, m_is_still, m_set_ball, m_ball, m_state, M_hapL, N_hap, M_me ht, M_pts ht, M_left ht, M_ext ht, M_lck ht, M_won ht, N_pts ht, N_left ht, N_ext ht, N_lck ht, N_won ht, eBook, ePair, T1, c4, decide_false]
        · have z : 1 < m.b.many := by omega
          simp only [EV, lift_some, R.bind_ok, R.s_ok, R.s_exc, w_noExc_ok, List.getElem?_cons_zero, List.getElem?_cons_succ, List.getElem?_nil, List.set_cons_zero, List.set_cons_succ, List.map_cons, List.map_nil, List.length_cons, List.length_nil, List.cons_append, List.nil_append, getV, getO, wipeE, startE, List.replicate, Nat.reduceAdd, Nat.reduceSub, Nat.reduceLT, Nat.reduceLeDiff, if_true, if_false, Bool.false_eq_true, Bool.true_eq_false, reduceIte, endOf_next, endOf_ret, endOf_exc, decide_true, decide_false, Bool.not_true, Bool.not_false, M_book, M_turn, M_players, M_happened, M_many, M_lit, M_bonus, M_factor, M_double, M_saves, M_warns, M_calm, M_tilted, M_open, M_had, N_many, N_lit, N_lit0, N_bonus, N_factor, N_double, N_saves, N_warns, N_calm, N_tilted, N_open, N_had, m_tell, m_doubled, m_look_for_aim, m_hit, m_look_for_lock, m_award, m_nudge, m_tick, m_is_still, m_set_ball, m_ball, m_state, M_hapL, N_hap, M_me ht, M_pts ht, M_left ht, M_ext ht, M_lck ht, M_won ht, N_pts ht, N_left ht, N_ext ht, N_lck ht, N_won ht, eBook, hl, eO, ePair, c1, c2, c3, z, ne_eq, not_true_eq_false, decide_false, decide_true, Bool.not_true, and_false]
      · simp only [EV, lift_some, R.bind_ok, R.s_ok, R.s_exc, w_noExc_ok, List.getElem?_cons_zero, List.getElem?_cons_succ, List.getElem?_nil, List.set_cons_zero, List.set_cons_succ, List.map_cons, List.map_nil, List.length_cons, List.length_nil, List.cons_append, List.nil_append, getV, getO, wipeE, startE, List.replicate, Nat.reduceAdd, Nat.reduceSub, Nat.reduceLT, Nat.reduceLeDiff, if_true, if_false, Bool.false_eq_true, Bool.true_eq_false, reduceIte, endOf_next, endOf_ret, endOf_exc, decide_true, decide_false, Bool.not_true, Bool.not_false, M_book, M_turn, M_players, M_happened, M_many, M_lit, M_bonus, M_factor, M_double, M_saves, M_warns, M_calm, M_tilted, M_open, M_had, N_many, N_lit, N_lit0, N_bonus, N_factor, N_double, N_saves, N_warns, N_calm, N_tilted, N_open, N_had, m_tell, m_doubled, m_look_for_aim, m_hit, m_look_for_lock, m_award, m_nudge, m_tick, m_is_still, m_set_ball, m_ball, m_state, M_hapL, N_hap, M_me ht, M_pts ht, M_left ht, M_ext ht, M_lck ht, M_won ht, N_pts ht, N_left ht, N_ext ht, N_lck ht, N_won ht, eBook, hl, eO, ePair, c1, c2, ne_eq, not_true_eq_false, decide_false, Bool.not_false, false_and, and_false]
    · simp only [EV, lift_some, R.bind_ok, R.s_ok, R.s_exc, w_noExc_ok, List.getElem?_cons_zero, List.getElem?_cons_succ, List.getElem?_nil, List.set_cons_zero, List.set_cons_succ, List.map_cons, List.map_nil, List.length_cons, List.length_nil, List.cons_append, List.nil_append, getV, getO, wipeE, startE, List.replicate, Nat.reduceAdd, Nat.reduceSub, Nat.reduceLT, Nat.reduceLeDiff, if_true, if_false, Bool.false_eq_true, Bool.true_eq_false, reduceIte, endOf_next, endOf_ret, endOf_exc, decide_true, decide_false, Bool.not_true, Bool.not_false, M_book, M_turn, M_players, M_happened, M_many, M_lit, M_bonus, M_factor, M_double, M_saves, M_warns, M_calm, M_tilted, M_open, M_had, N_many, N_lit, N_lit0, N_bonus, N_factor, N_double, N_saves, N_warns, N_calm, N_tilted, N_open, N_had, m_tell, m_doubled, m_look_for_aim, m_hit, m_look_for_lock, m_award, m_nudge, m_tick, m_is_still, m_set_ball, m_ball, m_state, M_hapL, N_hap, M_me ht, M_pts ht, M_left ht, M_ext ht, M_lck ht, M_won ht, N_pts ht, N_left ht, N_ext ht, N_lck ht, N_won ht, eBook, hl, eO, ePair, c1, ne_eq, not_false_eq_true, decide_true, false_and]
theorem award_run (T : SpTell x Φ) (ht : t < ps.length) (w : Str) (hh : m.h.length < 1000) : ∃ ρ, evSs Φ (d_Play_award x) (startE 3 [.ref st.length, .str w]) (SM x st k t ps m) = .ok (.next ρ) (SM x st k t ps (award k m w)) := by
  unfold d_Play_award award
  by_cases c1 : w = s_times
  · have T1 := T st k t ps { m with b := { m.b with factor := if m.b.factor + 1 < 5 then m.b.factor + 1 else 5 } } s_bank 0 ht hh
    exact ⟨_, by simp only [EV, lift_some, R.bind_ok, R.s_ok, R.s_exc, w_noExc_ok, List.getElem?_cons_zero, List.getElem?_cons_succ, List.getElem?_nil, List.set_cons_zero, List.set_cons_succ, List.map_cons, List.map_nil, List.length_cons, List.length_nil, List.cons_append, List.nil_append, getV, getO, wipeE, startE, List.replicate, Nat.reduceAdd, Nat.reduceSub, Nat.reduceLT, Nat.reduceLeDiff, if_true, if_false, Bool.false_eq_true, Bool.true_eq_false, reduceIte, endOf_next, endOf_ret, endOf_exc, decide_true, decide_false, Bool.not_true, Bool.not_false, M_book, M_turn, M_players, M_happened, M_many, M_lit, M_bonus, M_factor, M_double, M_saves, M_warns, M_calm, M_tilted, M_open, M_had, N_many, N_lit, N_lit0, N_bonus, N_factor, N_double, N_saves, N_warns, N_calm, N_tilted, N_open, N_had, m_tell, m_doubled, m_look_for_aim, m_hit, m_look_for_lock, m_award, m_nudge, m_tick, m_is_still, m_set_ball, m_ball, m_state, M_hapL, N_hap, M_me ht, M_pts ht, M_left ht, M_ext ht, M_lck ht, M_won ht, N_pts ht, N_left ht, N_ext ht, N_lck ht, N_won ht, c1, decide_true, T1]; rfl⟩
  by_cases c2 : w = s_double
  · subst c2
    have T1 := T st k t ps { m with b := { m.b with double := 20 } } s_bank 0 ht hh
    exact ⟨_, by simp only [EV, lift_some, R.bind_ok, R.s_ok, R.s_exc, w_noExc_ok, List.getElem?_cons_zero, List.getElem?_cons_succ, List.getElem?_nil, List.set_cons_zero, List.set_cons_succ, List.map_cons, List.map_nil, List.length_cons, List.length_nil, List.cons_append, List.nil_append, getV, getO, wipeE, startE, List.replicate, Nat.reduceAdd, Nat.reduceSub, Nat.reduceLT, Nat.reduceLeDiff, if_true, if_false, Bool.false_eq_true, Bool.true_eq_false, reduceIte, endOf_next, endOf_ret, endOf_exc, decide_true, decide_false, Bool.not_true, Bool.not_false, M_book, M_turn, M_players, M_happened, M_many, M_lit, M_bonus, M_factor, M_double, M_saves, M_warns, M_calm, M_tilted, M_open, M_had, N_many, N_lit, N_lit0, N_bonus, N_factor, N_double, N_saves, N_warns, N_calm, N_tilted, N_open, N_had, m_tell, m_doubled, m_look_for_aim, m_hit, m_look_for_lock, m_award, m_nudge, m_tick, m_is_still, m_set_ball, m_ball, m_state, M_hapL, N_hap, M_me ht, M_pts ht, M_left ht, M_ext ht, M_lck ht, M_won ht, N_pts ht, N_left ht, N_ext ht, N_lck ht, N_won ht, c1, decide_true, decide_false, T1]; rfl⟩
  by_cases c3 : w = s_extra
  · subst c3
    have T1 := T st k t ps { m with q := { m.q with ext := m.q.ext + (if m.b.had then 0 else 1) }, b := { m.b with had := true } } s_bank (500 * (if m.b.had then 1 else 0)) ht hh
    have e : ∀ j, mulOk 500 j = true := fun j => mulL
    cases hd : m.b.had <;> simp only [hd] at T1 <;> exact ⟨_, by simp only [EV, lift_some, R.bind_ok, R.s_ok, R.s_exc, w_noExc_ok, List.getElem?_cons_zero, List.getElem?_cons_succ, List.getElem?_nil, List.set_cons_zero, List.set_cons_succ, List.map_cons, List.map_nil, List.length_cons, List.length_nil, List.cons_append, List.nil_append, getV, getO, wipeE, startE, List.replicate, Nat.reduceAdd, Nat.reduceSub, Nat.reduceLT, Nat.reduceLeDiff, if_true, if_false, Bool.false_eq_true, Bool.true_eq_false, reduceIte, endOf_next, endOf_ret, endOf_exc, decide_true, decide_false, Bool.not_true, Bool.not_false, M_book, M_turn, M_players, M_happened, M_many, M_lit, M_bonus, M_factor, M_double, M_saves, M_warns, M_calm, M_tilted, M_open, M_had, N_many, N_lit, N_lit0, N_bonus, N_factor, N_double, N_saves, N_warns, N_calm, N_tilted, N_open, N_had, m_tell, m_doubled, m_look_for_aim, m_hit, m_look_for_lock, m_award, m_nudge, m_tick, m_is_still, m_set_ball, m_ball, m_state, M_hapL, N_hap, M_me ht, M_pts ht, M_left ht, M_ext ht, M_lck ht, M_won ht, N_pts ht, N_left ht, N_ext ht, N_lck ht, N_won ht, c1, c2, decide_true, decide_false, o_mul (e _), hd, Bool.not_true, Bool.not_false, T1] at T1 ⊢; simp only [T1, EV, lift_some, R.bind_ok, R.s_ok, R.s_exc, w_noExc_ok, List.getElem?_cons_zero, List.getElem?_cons_succ, List.getElem?_nil, List.set_cons_zero, List.set_cons_succ, List.map_cons, List.map_nil, List.length_cons, List.length_nil, List.cons_append, List.nil_append, getV, getO, wipeE, startE, List.replicate, Nat.reduceAdd, Nat.reduceSub, Nat.reduceLT, Nat.reduceLeDiff, if_true, if_false, Bool.false_eq_true, Bool.true_eq_false, reduceIte, endOf_next, endOf_ret, endOf_exc, decide_true, decide_false, Bool.not_true, Bool.not_false]; rfl⟩
  cases hl : k.lk with
  | none =>
    have T1 := T st k t ps m s_bank 250 ht hh
    exact ⟨_, by simp only [EV, lift_some, R.bind_ok, R.s_ok, R.s_exc, w_noExc_ok, List.getElem?_cons_zero, List.getElem?_cons_succ, List.getElem?_nil, List.set_cons_zero, List.set_cons_succ, List.map_cons, List.map_nil, List.length_cons, List.length_nil, List.cons_append, List.nil_append, getV, getO, wipeE, startE, List.replicate, Nat.reduceAdd, Nat.reduceSub, Nat.reduceLT, Nat.reduceLeDiff, if_true, if_false, Bool.false_eq_true, Bool.true_eq_false, reduceIte, endOf_next, endOf_ret, endOf_exc, decide_true, decide_false, Bool.not_true, Bool.not_false, M_book, M_turn, M_players, M_happened, M_many, M_lit, M_bonus, M_factor, M_double, M_saves, M_warns, M_calm, M_tilted, M_open, M_had, N_many, N_lit, N_lit0, N_bonus, N_factor, N_double, N_saves, N_warns, N_calm, N_tilted, N_open, N_had, m_tell, m_doubled, m_look_for_aim, m_hit, m_look_for_lock, m_award, m_nudge, m_tick, m_is_still, m_set_ball, m_ball, m_state, M_hapL, N_hap, M_me ht, M_pts ht, M_left ht, M_ext ht, M_lck ht, M_won ht, N_pts ht, N_left ht, N_ext ht, N_lck ht, N_won ht, c1, c2, c3, decide_true, decide_false, eBook, hl, eO, T1]; rfl⟩
  | some lc =>
    have T1 := T st k t ps { m with b := { m.b with opn := true } } s_bank 0 ht hh
    exact ⟨_, by simp only [EV, lift_some, R.bind_ok, R.s_ok, R.s_exc, w_noExc_ok, List.getElem?_cons_zero, List.getElem?_cons_succ, List.getElem?_nil, List.set_cons_zero, List.set_cons_succ, List.map_cons, List.map_nil, List.length_cons, List.length_nil, List.cons_append, List.nil_append, getV, getO, wipeE, startE, List.replicate, Nat.reduceAdd, Nat.reduceSub, Nat.reduceLT, Nat.reduceLeDiff, if_true, if_false, Bool.false_eq_true, Bool.true_eq_false, reduceIte, endOf_next, endOf_ret, endOf_exc, decide_true, decide_false, Bool.not_true, Bool.not_false, M_book, M_turn, M_players, M_happened, M_many, M_lit, M_bonus, M_factor, M_double, M_saves, M_warns, M_calm, M_tilted, M_open, M_had, N_many, N_lit, N_lit0, N_bonus, N_factor, N_double, N_saves, N_warns, N_calm, N_tilted, N_open, N_had, m_tell, m_doubled, m_look_for_aim, m_hit, m_look_for_lock, m_award, m_nudge, m_tick, m_is_still, m_set_ball, m_ball, m_state, M_hapL, N_hap, M_me ht, M_pts ht, M_left ht, M_ext ht, M_lck ht, M_won ht, N_pts ht, N_left ht, N_ext ht, N_lck ht, N_won ht, c1, c2, c3, decide_true, decide_false, eBook, hl, eO, ePair, T1, reduceCtorEq]; rfl⟩
theorem nudge_run (T : SpTell x Φ) (ht : t < ps.length) (hh : m.h.length < 900) : ∃ ρ, evSs Φ (d_Play_nudge x) (startE 1 [.ref st.length]) (SM x st k t ps m) = .ok (.next ρ) (SM x st k t ps (nudge k m)) := by
  unfold d_Play_nudge nudge
  have T1 := T st k t ps { m with b := { m.b with warns := m.b.warns + 1, calm := 30 } } s_warn 0 ht (by show m.h.length < 1000; omega)
  by_cases c : k.nu < m.b.warns + 1
  · have T2 := T st k t ps { tell { m with b := { m.b with warns := m.b.warns + 1, calm := 30 } } s_warn 0 with b := { (tell { m with b := { m.b with warns := m.b.warns + 1, calm := 30 } } s_warn 0).b with tilted := true, opn := false, lit := [], bonus := 0, double := 0, saves := 0 } } s_tilt 0 ht (by simp [tell]; omega)
    simp only [tell] at T1 T2 ⊢
    exact ⟨_, by simp only [EV, lift_some, R.bind_ok, R.s_ok, R.s_exc, w_noExc_ok, List.getElem?_cons_zero, List.getElem?_cons_succ, List.getElem?_nil, List.set_cons_zero, List.set_cons_succ, List.map_cons, List.map_nil, List.length_cons, List.length_nil, List.cons_append, List.nil_append, getV, getO, wipeE, startE, List.replicate, Nat.reduceAdd, Nat.reduceSub, Nat.reduceLT, Nat.reduceLeDiff, if_true, if_false, Bool.false_eq_true, Bool.true_eq_false, reduceIte, endOf_next, endOf_ret, endOf_exc, decide_true, decide_false, Bool.not_true, Bool.not_false, M_book, M_turn, M_players, M_happened, M_many, M_lit, M_bonus, M_factor, M_double, M_saves, M_warns, M_calm, M_tilted, M_open, M_had, N_many, N_lit, N_lit0, N_bonus, N_factor, N_double, N_saves, N_warns, N_calm, N_tilted, N_open, N_had, m_tell, m_doubled, m_look_for_aim, m_hit, m_look_for_lock, m_award, m_nudge, m_tick, m_is_still, m_set_ball, m_ball, m_state, M_hapL, N_hap, M_me ht, M_pts ht, M_left ht, M_ext ht, M_lck ht, M_won ht, N_pts ht, N_left ht, N_ext ht, N_lck ht, N_won ht, T1, eBook, c, decide_true, T2]; rfl⟩
  · simp only [tell] at T1 ⊢
    exact ⟨_, by simp only [EV, lift_some, R.bind_ok, R.s_ok, R.s_exc, w_noExc_ok, List.getElem?_cons_zero, List.getElem?_cons_succ, List.getElem?_nil, List.set_cons_zero, List.set_cons_succ, List.map_cons, List.map_nil, List.length_cons, List.length_nil, List.cons_append, List.nil_append, getV, getO, wipeE, startE, List.replicate, Nat.reduceAdd, Nat.reduceSub, Nat.reduceLT, Nat.reduceLeDiff, if_true, if_false, Bool.false_eq_true, Bool.true_eq_false, reduceIte, endOf_next, endOf_ret, endOf_exc, decide_true, decide_false, Bool.not_true, Bool.not_false, M_book, M_turn, M_players, M_happened, M_many, M_lit, M_bonus, M_factor, M_double, M_saves, M_warns, M_calm, M_tilted, M_open, M_had, N_many, N_lit, N_lit0, N_bonus, N_factor, N_double, N_saves, N_warns, N_calm, N_tilted, N_open, N_had, m_tell, m_doubled, m_look_for_aim, m_hit, m_look_for_lock, m_award, m_nudge, m_tick, m_is_still, m_set_ball, m_ball, m_state, M_hapL, N_hap, M_me ht, M_pts ht, M_left ht, M_ext ht, M_lck ht, M_won ht, N_pts ht, N_left ht, N_ext ht, N_lck ht, N_won ht, T1, eBook, c, decide_false]; rfl⟩
theorem tick_run : ∃ ρ, evSs Φ (d_Play_tick x) (startE 1 [.ref st.length]) (SM x st k t ps m) = .ok (.next ρ) (SM x st k t ps { m with b := tick m.b }) := by
  unfold d_Play_tick tick
  have e : ∀ j, mulOk 30 j = true := fun j => mulL
  by_cases c : 0 < m.b.calm
  · by_cases c2 : m.b.calm - 1 = 0
    · exact ⟨_, by simp only [EV, lift_some, R.bind_ok, R.s_ok, R.s_exc, w_noExc_ok, List.getElem?_cons_zero, List.getElem?_cons_succ, List.getElem?_nil, List.set_cons_zero, List.set_cons_succ, List.map_cons, List.map_nil, List.length_cons, List.length_nil, List.cons_append, List.nil_append, getV, getO, wipeE, startE, List.replicate, Nat.reduceAdd, Nat.reduceSub, Nat.reduceLT, Nat.reduceLeDiff, if_true, if_false, Bool.false_eq_true, Bool.true_eq_false, reduceIte, endOf_next, endOf_ret, endOf_exc, decide_true, decide_false, Bool.not_true, Bool.not_false, M_book, M_turn, M_players, M_happened, M_many, M_lit, M_bonus, M_factor, M_double, M_saves, M_warns, M_calm, M_tilted, M_open, M_had, N_many, N_lit, N_lit0, N_bonus, N_factor, N_double, N_saves, N_warns, N_calm, N_tilted, N_open, N_had, m_tell, m_doubled, m_look_for_aim, m_hit, m_look_for_lock, m_award, m_nudge, m_tick, m_is_still, m_set_ball, m_ball, m_state, M_hapL, N_hap, c, c2, decide_true, o_mul (e _)]; simp only [decide_eq_true_eq]; rfl⟩
    · exact ⟨_, by simp only [EV, lift_some, R.bind_ok, R.s_ok, R.s_exc, w_noExc_ok, List.getElem?_cons_zero, List.getElem?_cons_succ, List.getElem?_nil, List.set_cons_zero, List.set_cons_succ, List.map_cons, List.map_nil, List.length_cons, List.length_nil, List.cons_append, List.nil_append, getV, getO, wipeE, startE, List.replicate, Nat.reduceAdd, Nat.reduceSub, Nat.reduceLT, Nat.reduceLeDiff, if_true, if_false, Bool.false_eq_true, Bool.true_eq_false, reduceIte, endOf_next, endOf_ret, endOf_exc, decide_true, decide_false, Bool.not_true, Bool.not_false, M_book, M_turn, M_players, M_happened, M_many, M_lit, M_bonus, M_factor, M_double, M_saves, M_warns, M_calm, M_tilted, M_open, M_had, N_many, N_lit, N_lit0, N_bonus, N_factor, N_double, N_saves, N_warns, N_calm, N_tilted, N_open, N_had, m_tell, m_doubled, m_look_for_aim, m_hit, m_look_for_lock, m_award, m_nudge, m_tick, m_is_still, m_set_ball, m_ball, m_state, M_hapL, N_hap, c, c2, decide_true, decide_false]; rfl⟩
  · exact ⟨_, by simp only [EV, lift_some, R.bind_ok, R.s_ok, R.s_exc, w_noExc_ok, List.getElem?_cons_zero, List.getElem?_cons_succ, List.getElem?_nil, List.set_cons_zero, List.set_cons_succ, List.map_cons, List.map_nil, List.length_cons, List.length_nil, List.cons_append, List.nil_append, getV, getO, wipeE, startE, List.replicate, Nat.reduceAdd, Nat.reduceSub, Nat.reduceLT, Nat.reduceLeDiff, if_true, if_false, Bool.false_eq_true, Bool.true_eq_false, reduceIte, endOf_next, endOf_ret, endOf_exc, decide_true, decide_false, Bool.not_true, Bool.not_false, M_book, M_turn, M_players, M_happened, M_many, M_lit, M_bonus, M_factor, M_double, M_saves, M_warns, M_calm, M_tilted, M_open, M_had, N_many, N_lit, N_lit0, N_bonus, N_factor, N_double, N_saves, N_warns, N_calm, N_tilted, N_open, N_had, m_tell, m_doubled, m_look_for_aim, m_hit, m_look_for_lock, m_award, m_nudge, m_tick, m_is_still, m_set_ball, m_ball, m_state, M_hapL, N_hap, c, decide_false]; rfl⟩
theorem still_run : evSs Φ (d_Play_is_still x) (startE 1 [.ref st.length]) (SM x st k t ps m) = .ok (.ret (.bl (still m.b))) (SM x st k t ps m) := by
  unfold d_Play_is_still still
  have e : ∀ a b c a' b' c' : Int, cmpD .eq (SM x st k t ps m) (.tup [.int a, .int b, .int c]) (.tup [.int a', .int b', .int c']) = some (decide (a = a') && decide (b = b') && decide (c = c')) := fun a b c a' b' c' => by
    simp only [cmpD, view_tup]
    rw [eq_tup (by simp [eqOk]) (by simp [eqOk])]
    simp only [eqvL, eqv, Bool.and_true, Bool.and_assoc]
    rfl
  simp only [EV, lift_some, R.bind_ok, R.s_ok, R.s_exc, w_noExc_ok, List.getElem?_cons_zero, List.getElem?_cons_succ, List.getElem?_nil, List.set_cons_zero, List.set_cons_succ, List.map_cons, List.map_nil, List.length_cons, List.length_nil, List.cons_append, List.nil_append, getV, getO, wipeE, startE, List.replicate, Nat.reduceAdd, Nat.reduceSub, Nat.reduceLT, Nat.reduceLeDiff, if_true, if_false, Bool.false_eq_true, Bool.true_eq_false, reduceIte, endOf_next, endOf_ret, endOf_exc, decide_true, decide_false, Bool.not_true, Bool.not_false, M_book, M_turn, M_players, M_happened, M_many, M_lit, M_bonus, M_factor, M_double, M_saves, M_warns, M_calm, M_tilted, M_open, M_had, N_many, N_lit, N_lit0, N_bonus, N_factor, N_double, N_saves, N_warns, N_calm, N_tilted, N_open, N_had, m_tell, m_doubled, m_look_for_aim, m_hit, m_look_for_lock, m_award, m_nudge, m_tick, m_is_still, m_set_ball, m_ball, m_state, M_hapL, N_hap, e]
end Bt


set_option Elab.async false
set_option linter.all false
set_option maxRecDepth 100000
set_option maxHeartbeats 4000000
/-! Play: a hit; a Play is made, read, set. -/
namespace B
open PySem
set_option autoImplicit false
variable {Φ : Phi} {ρ : Slots} {st : Store}
theorem add_strs {l : List Str} {n : Str} (h : l.length < 1000) : binD .add (.tup (l.map .str)) (.tup [.str n]) = some (.tup ((l ++ [n]).map .str)) := by
  rw [o_addT (small (by simp; omega))]
  simp
theorem it_val {α : Type} (enc : α → D) {e : Ex} {xs : List α} {st1 : Store} (h : evE Φ e ρ st = .ok (.tup (xs.map enc)) st1) : evI Φ (.val e) ρ st = .ok (xs.map enc, fun st => srcOk st (.tup (xs.map enc)) (xs.map enc)) st1 := by
  simp only [evI, h, R.bind_ok, it_tup, lift_some]
theorem it_valL {α : Type} (enc : α → D) {e : Ex} {xs : List α} {st1 : Store} (h : evE Φ e ρ st = .ok (.lst (xs.map enc)) st1) : evI Φ (.val e) ρ st = .ok (xs.map enc, fun st => srcOk st (.lst (xs.map enc)) (xs.map enc)) st1 := by
  simp only [evI, h, R.bind_ok, it_lst, lift_some]
/-- a loop that ends at the first of some -/
theorem for_find {α : Type} (enc : α → D) {tg : Tg} {it : Wk} {body : Ss} (xs : List α) {okf : Store → Bool} {st1 : Store} (I : Slots → Prop) (p : α → Bool) (g : α → D) (s : α → Store) (hi : evI Φ it ρ st = .ok (xs.map enc, okf) st1) (hok : okf st1 = true) (h0 : I ρ)
    (hn : ∀ x ∈ xs, ∀ ρ, I ρ → p x = false → ∃ ρ', ((asT Φ tg (enc x) ρ st1).s ρ fun ρ st => evSs Φ body ρ st) = .ok (.next ρ') st1 ∧ I ρ')
    (hp : ∀ x ∈ xs, ∀ ρ, I ρ → p x = true → ((asT Φ tg (enc x) ρ st1).s ρ fun ρ st => evSs Φ body ρ st) = .ok (.ret (g x)) (s x)) :
    match xs.find? p with
    | some x => evS Φ (.for tg it body) ρ st = .ok (.ret (g x)) (s x)
    | none => ∃ ρ', evS Φ (.for tg it body) ρ st = .ok (.next ρ') st1 ∧ I ρ' := by
  have e : evS Φ (.for tg it body) ρ st = (evI Φ it ρ st).s ρ fun p st => forL (fun x ρ st => (asT Φ tg x ρ st).s ρ fun ρ st => evSs Φ body ρ st) p.2 p.1 ρ st := by simp only [evS]
  rw [e, hi]
  simp only [R.s_ok]
  clear e hi
  induction xs generalizing ρ with
  | nil => exact ⟨ρ, by simp [forL, hok], h0⟩
  | cons x xs ih =>
    rw [List.find?_cons]
    cases hx : p x with
    | true =>
      have q := hp x List.mem_cons_self ρ h0 hx
      simp only [List.map_cons, forL, hok, if_true, q]
    | false =>
      obtain ⟨ρ', q, h1⟩ := hn x List.mem_cons_self ρ h0 hx
      have := ih h1 (fun y hy => hn y (List.mem_cons_of_mem _ hy)) (fun y hy => hp y (List.mem_cons_of_mem _ hy))
      simp only [List.map_cons, forL, hok, if_true, q]
      exact this
/-- cells made one by one -/
theorem compL_cells {α : Type} (enc : α → D) (cell : α → Cell) {f : D → Store → R (Option D)} {ok : Store → Bool} (hok : ∀ st, ok st = true) (hf : ∀ x st, f (enc x) st = .ok (some (.ref st.length)) (st ++ [cell x])) :
    ∀ (xs : List α) (st : Store), compL f ok (xs.map enc) st = .ok ((List.range xs.length).map fun i => .ref (st.length + i)) (st ++ xs.map cell)
  | [], st => by simp [compL, hok]
  | x :: xs, st => by
    have ih := compL_cells enc cell hok hf xs (st ++ [cell x])
    simp only [List.map_cons, compL, hok, if_true, hf, R.bind_ok, ih]
    simp only [List.length_append, List.length_cons, List.length_nil, List.append_assoc, List.cons_append, List.nil_append, Option.toList]
    congr 1
    rw [List.range_succ_eq_map, List.map_cons, List.map_map]
    simp only [Nat.add_zero, List.cons.injEq, true_and]
    apply List.map_congr_left
    intro i _
    simp only [Function.comp, D.ref.injEq]
    omega
end B
namespace Bt
open PySem P B
set_option autoImplicit false
variable {x : Ix} {Φ : Phi} {st : Store} {k : Book} {tu : D} {ps : List Pl} {b : Ball} {h : List D} {t : Nat} {m : M} {ρ : Slots}
theorem sset_lit {l : List Str} {n : Str} (h : l.length < 1000) : ssetD ((l ++ [n]).map .str) = some ((litUp l n).map .str) := by
  have : (l ++ [n]).length < 4000 := by simp; omega
  simp only [ssetD, strsOf_map, if_pos this, litUp]
theorem tell_h (m : M) (w : Str) (n : Int) : (tell m w n).h.length = m.h.length + 1 := by simp [tell]
theorem award_h (k : Book) (m : M) (w : Str) : (award k m w).h.length = m.h.length + 1 := by
  unfold award
  split
  · exact tell_h _ _ _
  split
  · exact tell_h _ _ _
  split
  · exact tell_h _ _ _
  split <;> exact tell_h _ _ _
theorem bank_h (k : Book) (m : M) (a : Bank) : (bank k m a).h.length ≤ m.h.length + 1 := by
  unfold bank
  split
  · rw [award_h]
    exact Nat.le_refl _
  · omega
theorem banks_h (k : Book) : ∀ (l : List Bank) (m : M), (banks k m l).h.length ≤ m.h.length + l.length
  | [], m => Nat.le_refl _
  | a :: l, m => by
    have h1 := banks_h k l (bank k m a)
    have h2 := bank_h k m a
    simp only [banks, List.foldl_cons, List.length_cons] at *
    omega
theorem banks_snoc (k : Book) (m : M) (l : List Bank) (a : Bank) : banks k m (l ++ [a]) = bank k (banks k m l) a := by
  simp [banks, List.foldl_append]
theorem jack_h (k : Book) (m : M) (n : Str) : (jack k m n).h.length ≤ m.h.length + 1 := by
  unfold jack
  split
  · rw [tell_h]; exact Nat.le_refl _
  · omega
theorem locks_h (k : Book) (m : M) (n : Str) : (locks k m n).h.length ≤ m.h.length + 2 := by
  unfold locks
  split
  · split
    · dsimp only
      split <;> simp [tell]
    · omega
  · omega
theorem hit_run (T : SpTell x Φ) (Db : SpDoubled x Φ) (Lk : SpLock x Φ) (Aw : SpAward x Φ) (Am : SpAimed x Φ) (ht : t < ps.length) (g : Tgt) (hh : m.h.length < 100) (hl : m.b.lit.length < 1000) (hb : k.bk.length < 100) :
    endOf (evSs Φ (d_Play_hit x) (startE 8 [.ref st.length, eT g]) (SM x st k t ps m)) = .ok .non (SM x st k t ps (hit k m g)) := by
  unfold d_Play_hit hit
  -- the target is taken apart
  refine en_step (ρ' := [.val (.ref st.length), .val (eT g), .val (.str g.nm), .val (.int g.pt), .val (.int g.bo), .no, .no, .no]) (st' := SM x st k t ps m) (by simp only [EV, lift_some, R.bind_ok, R.s_ok, R.s_exc, w_noExc_ok, List.getElem?_cons_zero, List.getElem?_cons_succ, List.getElem?_nil, List.set_cons_zero, List.set_cons_succ, List.map_cons, List.map_nil, List.length_cons, List.length_nil, List.cons_append, List.nil_append, getV, getO, wipeE, startE, List.replicate, Nat.reduceAdd, Nat.reduceSub, Nat.reduceLT, Nat.reduceLeDiff, if_true, if_false, Bool.false_eq_true, Bool.true_eq_false, reduceIte, endOf_next, endOf_ret, endOf_exc, decide_true, decide_false, Bool.not_true, Bool.not_false, eT]) ?_
  have T1 := T st k t ps m s_hit (doubled m.b g.pt) ht (by omega)
  refine en_step (e_expr (v := .non) (st' := SM x st k t ps (tell m s_hit (doubled m.b g.pt))) (by simp only [EV, lift_some, R.bind_ok, R.s_ok, R.s_exc, w_noExc_ok, List.getElem?_cons_zero, List.getElem?_cons_succ, List.getElem?_nil, List.set_cons_zero, List.set_cons_succ, List.map_cons, List.map_nil, List.length_cons, List.length_nil, List.cons_append, List.nil_append, getV, getO, wipeE, startE, List.replicate, Nat.reduceAdd, Nat.reduceSub, Nat.reduceLT, Nat.reduceLeDiff, if_true, if_false, Bool.false_eq_true, Bool.true_eq_false, reduceIte, endOf_next, endOf_ret, endOf_exc, decide_true, decide_false, Bool.not_true, Bool.not_false, M_book, M_turn, M_players, M_happened, M_many, M_lit, M_bonus, M_factor, M_double, M_saves, M_warns, M_calm, M_tilted, M_open, M_had, N_many, N_lit, N_lit0, N_bonus, N_factor, N_double, N_saves, N_warns, N_calm, N_tilted, N_open, N_had, m_tell, m_doubled, m_look_for_aim, m_hit, m_look_for_lock, m_award, m_nudge, m_tick, m_is_still, m_set_ball, m_ball, m_state, M_hapL, N_hap, M_me ht, M_pts ht, M_left ht, M_ext ht, M_lck ht, M_won ht, N_pts ht, N_left ht, N_ext ht, N_lck ht, N_won ht, Db st k t ps m g.pt, T1])) ?_
  refine en_step (ρ' := [.val (.ref st.length), .val (eT g), .val (.str g.nm), .val (.int g.pt), .val (.int g.bo), .no, .no, .no]) (st' := SM x st k t ps (hit1 m g)) (by simp only [EV, lift_some, R.bind_ok, R.s_ok, R.s_exc, w_noExc_ok, List.getElem?_cons_zero, List.getElem?_cons_succ, List.getElem?_nil, List.set_cons_zero, List.set_cons_succ, List.map_cons, List.map_nil, List.length_cons, List.length_nil, List.cons_append, List.nil_append, getV, getO, wipeE, startE, List.replicate, Nat.reduceAdd, Nat.reduceSub, Nat.reduceLT, Nat.reduceLeDiff, if_true, if_false, Bool.false_eq_true, Bool.true_eq_false, reduceIte, endOf_next, endOf_ret, endOf_exc, decide_true, decide_false, Bool.not_true, Bool.not_false, M_book, M_turn, M_players, M_happened, M_many, M_lit, M_bonus, M_factor, M_double, M_saves, M_warns, M_calm, M_tilted, M_open, M_had, N_many, N_lit, N_lit0, N_bonus, N_factor, N_double, N_saves, N_warns, N_calm, N_tilted, N_open, N_had, m_tell, m_doubled, m_look_for_aim, m_hit, m_look_for_lock, m_award, m_nudge, m_tick, m_is_still, m_set_ball, m_ball, m_state, M_hapL, N_hap, M_me ht, M_pts ht, M_left ht, M_ext ht, M_lck ht, M_won ht, N_pts ht, N_left ht, N_ext ht, N_lck ht, N_won ht]; rfl) ?_
  have hh1 : (hit1 m g).h.length = m.h.length + 1 := by simp [hit1, tell]
  have hl1 : (hit1 m g).b.lit = m.b.lit := rfl
  generalize hit1 m g = m1 at hh1 hl1 ⊢
  -- the jack
  refine en_step (ρ' := [.val (.ref st.length), .val (eT g), .val (.str g.nm), .val (.int g.pt), .val (.int g.bo), .no, .no, .no]) (st' := SM x st k t ps (jack k m1 g.nm)) ?_ ?_
  · have T2 := T st k t ps m1 s_jack (doubled m1.b k.jk.2) ht (by omega)
    have Db2 := Db st k t ps m1 k.jk.2
    unfold jack
    by_cases c1 : 1 < m1.b.many
    · by_cases c2 : g.nm = k.jk.1
      · simp only [EV, lift_some, R.bind_ok, R.s_ok, R.s_exc, w_noExc_ok, List.getElem?_cons_zero, List.getElem?_cons_succ, List.getElem?_nil, List.set_cons_zero, List.set_cons_succ, List.map_cons, List.map_nil, List.length_cons, List.length_nil, List.cons_append, List.nil_append, getV, getO, wipeE, startE, List.replicate, Nat.reduceAdd, Nat.reduceSub, Nat.reduceLT, Nat.reduceLeDiff, if_true, if_false, Bool.false_eq_true, Bool.true_eq_false, reduceIte, endOf_next, endOf_ret, endOf_exc, decide_true, decide_false, Bool.not_true, Bool.not_false, M_book, M_turn, M_players, M_happened, M_many, M_lit, M_bonus, M_factor, M_double, M_saves, M_warns, M_calm, M_tilted, M_open, M_had, N_many, N_lit, N_lit0, N_bonus, N_factor, N_double, N_saves, N_warns, N_calm, N_tilted, N_open, N_had, m_tell, m_doubled, m_look_for_aim, m_hit, m_look_for_lock, m_award, m_nudge, m_tick, m_is_still, m_set_ball, m_ball, m_state, M_hapL, N_hap, M_me ht, M_pts ht, M_left ht, M_ext ht, M_lck ht, M_won ht, N_pts ht, N_left ht, N_ext ht, N_lck ht, N_won ht, eBook, ePair, c1, c2, decide_true, Db2, T2, and_self]
      · simp only [EV, lift_some, R.bind_ok, R.s_ok, R.s_exc, w_noExc_ok, List.getElem?_cons_zero, List.getElem?_cons_succ, List.getElem?_nil, List.set_cons_zero, List.set_cons_succ, List.map_cons, List.map_nil, List.length_cons, List.length_nil, List.cons_append, List.nil_append, getV, getO, wipeE, startE, List.replicate, Nat.reduceAdd, Nat.reduceSub, Nat.reduceLT, Nat.reduceLeDiff, if_true, if_false, Bool.false_eq_true, Bool.true_eq_false, reduceIte, endOf_next, endOf_ret, endOf_exc, decide_true, decide_false, Bool.not_true, Bool.not_false, M_book, M_turn, M_players, M_happened, M_many, M_lit, M_bonus, M_factor, M_double, M_saves, M_warns, M_calm, M_tilted, M_open, M_had, N_many, N_lit, N_lit0, N_bonus, N_factor, N_double, N_saves, N_warns, N_calm, N_tilted, N_open, N_had, m_tell, m_doubled, m_look_for_aim, m_hit, m_look_for_lock, m_award, m_nudge, m_tick, m_is_still, m_set_ball, m_ball, m_state, M_hapL, N_hap, M_me ht, M_pts ht, M_left ht, M_ext ht, M_lck ht, M_won ht, N_pts ht, N_left ht, N_ext ht, N_lck ht, N_won ht, eBook, ePair, c1, c2, decide_true, decide_false, and_false]
    · simp only [EV, lift_some, R.bind_ok, R.s_ok, R.s_exc, w_noExc_ok, List.getElem?_cons_zero, List.getElem?_cons_succ, List.getElem?_nil, List.set_cons_zero, List.set_cons_succ, List.map_cons, List.map_nil, List.length_cons, List.length_nil, List.cons_append, List.nil_append, getV, getO, wipeE, startE, List.replicate, Nat.reduceAdd, Nat.reduceSub, Nat.reduceLT, Nat.reduceLeDiff, if_true, if_false, Bool.false_eq_true, Bool.true_eq_false, reduceIte, endOf_next, endOf_ret, endOf_exc, decide_true, decide_false, Bool.not_true, Bool.not_false, M_book, M_turn, M_players, M_happened, M_many, M_lit, M_bonus, M_factor, M_double, M_saves, M_warns, M_calm, M_tilted, M_open, M_had, N_many, N_lit, N_lit0, N_bonus, N_factor, N_double, N_saves, N_warns, N_calm, N_tilted, N_open, N_had, m_tell, m_doubled, m_look_for_aim, m_hit, m_look_for_lock, m_award, m_nudge, m_tick, m_is_still, m_set_ball, m_ball, m_state, M_hapL, N_hap, M_me ht, M_pts ht, M_left ht, M_ext ht, M_lck ht, M_won ht, N_pts ht, N_left ht, N_ext ht, N_lck ht, N_won ht, eBook, ePair, c1, decide_false, false_and]
  have hh2 := jack_h k m1 g.nm
  have hl2 : (jack k m1 g.nm).b.lit = m1.b.lit := by unfold jack; split <;> rfl
  generalize jack k m1 g.nm = m2 at hh2 hl2 ⊢
  have L1 := Lk st k t ps m2 g.nm ht (by omega)
  refine en_step (e_expr (v := .non) (st' := SM x st k t ps (locks k m2 g.nm)) (by simp only [EV, lift_some, R.bind_ok, R.s_ok, R.s_exc, w_noExc_ok, List.getElem?_cons_zero, List.getElem?_cons_succ, List.getElem?_nil, List.set_cons_zero, List.set_cons_succ, List.map_cons, List.map_nil, List.length_cons, List.length_nil, List.cons_append, List.nil_append, getV, getO, wipeE, startE, List.replicate, Nat.reduceAdd, Nat.reduceSub, Nat.reduceLT, Nat.reduceLeDiff, if_true, if_false, Bool.false_eq_true, Bool.true_eq_false, reduceIte, endOf_next, endOf_ret, endOf_exc, decide_true, decide_false, Bool.not_true, Bool.not_false, M_book, M_turn, M_players, M_happened, M_many, M_lit, M_bonus, M_factor, M_double, M_saves, M_warns, M_calm, M_tilted, M_open, M_had, N_many, N_lit, N_lit0, N_bonus, N_factor, N_double, N_saves, N_warns, N_calm, N_tilted, N_open, N_had, m_tell, m_doubled, m_look_for_aim, m_hit, m_look_for_lock, m_award, m_nudge, m_tick, m_is_still, m_set_ball, m_ball, m_state, M_hapL, N_hap, M_me ht, M_pts ht, M_left ht, M_ext ht, M_lck ht, M_won ht, N_pts ht, N_left ht, N_ext ht, N_lck ht, N_won ht, L1])) ?_
  have hh3 := locks_h k m2 g.nm
  have hl3 : (locks k m2 g.nm).b.lit = m2.b.lit := by
    unfold locks
    split
    · split
      · dsimp only
        split <;> rfl
      · rfl
    · rfl
  generalize locks k m2 g.nm = m3 at hh3 hl3 ⊢
  have hl4 : m3.b.lit.length < 1000 := by rw [hl3, hl2, hl1]; exact hl
  refine en_step (ρ' := [.val (.ref st.length), .val (eT g), .val (.str g.nm), .val (.int g.pt), .val (.int g.bo), .no, .no, .no]) (st' := SM x st k t ps (lights m3 g.nm)) ?_ ?_
  · simp only [EV, lift_some, R.bind_ok, R.s_ok, R.s_exc, w_noExc_ok, List.getElem?_cons_zero, List.getElem?_cons_succ, List.getElem?_nil, List.set_cons_zero, List.set_cons_succ, List.map_cons, List.map_nil, List.length_cons, List.length_nil, List.cons_append, List.nil_append, getV, getO, wipeE, startE, List.replicate, Nat.reduceAdd, Nat.reduceSub, Nat.reduceLT, Nat.reduceLeDiff, if_true, if_false, Bool.false_eq_true, Bool.true_eq_false, reduceIte, endOf_next, endOf_ret, endOf_exc, decide_true, decide_false, Bool.not_true, Bool.not_false, M_book, M_turn, M_players, M_happened, M_many, M_lit, M_bonus, M_factor, M_double, M_saves, M_warns, M_calm, M_tilted, M_open, M_had, N_many, N_lit, N_lit0, N_bonus, N_factor, N_double, N_saves, N_warns, N_calm, N_tilted, N_open, N_had, m_tell, m_doubled, m_look_for_aim, m_hit, m_look_for_lock, m_award, m_nudge, m_tick, m_is_still, m_set_ball, m_ball, m_state, M_hapL, N_hap, M_me ht, M_pts ht, M_left ht, M_ext ht, M_lck ht, M_won ht, N_pts ht, N_left ht, N_ext ht, N_lck ht, N_won ht, add_strs hl4, seq_tup, sset_lit hl4]
    rfl
  have hh4 : (lights m3 g.nm).h.length = m3.h.length := rfl
  generalize lights m3 g.nm = m4 at hh4 ⊢
  -- the banks
  obtain ⟨ρ', st', e, ⟨a5, a6, a7, rfl, rfl⟩⟩ := for_all (Φ := Φ) (ρ := [.val (.ref st.length), .val (eT g), .val (.str g.nm), .val (.int g.pt), .val (.int g.bo), .no, .no, .no]) (st := SM x st k t ps m4) (st1 := SM x st k t ps m4) eBank (tg := .tp (.cons (.nm 5) (.cons (.nm 6) .nil)))
    (it := .val (.idx (.fld (.var 0) s_book) (.con (.int 1)))) (okf := fun st => srcOk st (.tup (k.bk.map eBank)) (k.bk.map eBank))
    (body := (.cons (.ife (.blt .all (.cons (.frz (.comp (.cmp .inn (.var 7) (.fld (.var 0) s_lit)) (.nm 7) (.val (.var 5)) .none [7])) .nil)) (.cons (.asg (.fl (.var 0) s_lit) (.blt .tuple (.cons (.frz (.comp (.var 7) (.nm 7) (.val (.fld (.var 0) s_lit)) (.some (.cmp .nin (.var 7) (.var 5))) [7])) .nil))) (.cons (.expr (.meth x.i_Play_award x.i_Play_init s_award (.var 0) (.cons (.var 6) .nil))) .nil)) .nil) .nil))
    k.bk (fun d s => ∃ a5 a6 a7, s.1 = [.val (.ref st.length), .val (eT g), .val (.str g.nm), .val (.int g.pt), .val (.int g.bo), a5, a6, a7] ∧ s.2 = SM x st k t ps (banks k m4 d))
    (it_val eBank (by simp only [EV, lift_some, R.bind_ok, R.s_ok, R.s_exc, w_noExc_ok, List.getElem?_cons_zero, List.getElem?_cons_succ, List.getElem?_nil, List.set_cons_zero, List.set_cons_succ, List.map_cons, List.map_nil, List.length_cons, List.length_nil, List.cons_append, List.nil_append, getV, getO, wipeE, startE, List.replicate, Nat.reduceAdd, Nat.reduceSub, Nat.reduceLT, Nat.reduceLeDiff, if_true, if_false, Bool.false_eq_true, Bool.true_eq_false, reduceIte, endOf_next, endOf_ret, endOf_exc, decide_true, decide_false, Bool.not_true, Bool.not_false, M_book, M_turn, M_players, M_happened, M_many, M_lit, M_bonus, M_factor, M_double, M_saves, M_warns, M_calm, M_tilted, M_open, M_had, N_many, N_lit, N_lit0, N_bonus, N_factor, N_double, N_saves, N_warns, N_calm, N_tilted, N_open, N_had, m_tell, m_doubled, m_look_for_aim, m_hit, m_look_for_lock, m_award, m_nudge, m_tick, m_is_still, m_set_ball, m_ball, m_state, M_hapL, N_hap, M_me ht, M_pts ht, M_left ht, M_ext ht, M_lck ht, M_won ht, N_pts ht, N_left ht, N_ext ht, N_lck ht, N_won ht, eBook])) (fun _ => rfl) ⟨.no, .no, .no, rfl, rfl⟩ (by
      rintro d a r ρ0 st0 hd ⟨a5, a6, a7, rfl, rfl⟩
      have hdl : d.length < 100 := by
        have := congrArg List.length hd
        simp at this
        omega
      have hbh := banks_h k d m4
      rw [banks_snoc]
      generalize banks k m4 d = m5 at hbh ⊢
      have hc : evC Φ (.comp (.cmp .inn (.var 7) (.fld (.var 0) s_lit)) (.nm 7) (.val (.var 5)) .none [7]) [.val (.ref st.length), .val (eT g), .val (.str g.nm), .val (.int g.pt), .val (.int g.bo), .val (.tup (a.ns.map .str)), .val (.str a.aw), a7] (SM x st k t ps m5)
          = .ok (a.ns.map fun n => .bl (decide (n ∈ m5.b.lit))) (SM x st k t ps m5) :=
        comp_all D.str a.ns _ (it_val D.str (by simp only [EV, lift_some, R.bind_ok, R.s_ok, R.s_exc, w_noExc_ok, List.getElem?_cons_zero, List.getElem?_cons_succ, List.getElem?_nil, List.set_cons_zero, List.set_cons_succ, List.map_cons, List.map_nil, List.length_cons, List.length_nil, List.cons_append, List.nil_append, getV, getO, wipeE, startE, List.replicate, Nat.reduceAdd, Nat.reduceSub, Nat.reduceLT, Nat.reduceLeDiff, if_true, if_false, Bool.false_eq_true, Bool.true_eq_false, reduceIte, endOf_next, endOf_ret, endOf_exc, decide_true, decide_false, Bool.not_true, Bool.not_false])) rfl fun n _ => by simp only [EV, lift_some, R.bind_ok, R.s_ok, R.s_exc, w_noExc_ok, List.getElem?_cons_zero, List.getElem?_cons_succ, List.getElem?_nil, List.set_cons_zero, List.set_cons_succ, List.map_cons, List.map_nil, List.length_cons, List.length_nil, List.cons_append, List.nil_append, getV, getO, wipeE, startE, List.replicate, Nat.reduceAdd, Nat.reduceSub, Nat.reduceLT, Nat.reduceLeDiff, if_true, if_false, Bool.false_eq_true, Bool.true_eq_false, reduceIte, endOf_next, endOf_ret, endOf_exc, decide_true, decide_false, Bool.not_true, Bool.not_false, M_book, M_turn, M_players, M_happened, M_many, M_lit, M_bonus, M_factor, M_double, M_saves, M_warns, M_calm, M_tilted, M_open, M_had, N_many, N_lit, N_lit0, N_bonus, N_factor, N_double, N_saves, N_warns, N_calm, N_tilted, N_open, N_had, m_tell, m_doubled, m_look_for_aim, m_hit, m_look_for_lock, m_award, m_nudge, m_tick, m_is_still, m_set_ball, m_ball, m_state, M_hapL, N_hap, M_me ht, M_pts ht, M_left ht, M_ext ht, M_lck ht, M_won ht, N_pts ht, N_left ht, N_ext ht, N_lck ht, N_won ht]
      have hc2 : evC Φ (.comp (.var 7) (.nm 7) (.val (.fld (.var 0) s_lit)) (.some (.cmp .nin (.var 7) (.var 5))) [7]) [.val (.ref st.length), .val (eT g), .val (.str g.nm), .val (.int g.pt), .val (.int g.bo), .val (.tup (a.ns.map .str)), .val (.str a.aw), a7] (SM x st k t ps m5)
          = .ok ((m5.b.lit.filter fun l => decide (l ∉ a.ns)).map .str) (SM x st k t ps m5) :=
        comp_if D.str m5.b.lit _ D.str (it_val D.str (by simp only [EV, lift_some, R.bind_ok, R.s_ok, R.s_exc, w_noExc_ok, List.getElem?_cons_zero, List.getElem?_cons_succ, List.getElem?_nil, List.set_cons_zero, List.set_cons_succ, List.map_cons, List.map_nil, List.length_cons, List.length_nil, List.cons_append, List.nil_append, getV, getO, wipeE, startE, List.replicate, Nat.reduceAdd, Nat.reduceSub, Nat.reduceLT, Nat.reduceLeDiff, if_true, if_false, Bool.false_eq_true, Bool.true_eq_false, reduceIte, endOf_next, endOf_ret, endOf_exc, decide_true, decide_false, Bool.not_true, Bool.not_false, M_book, M_turn, M_players, M_happened, M_many, M_lit, M_bonus, M_factor, M_double, M_saves, M_warns, M_calm, M_tilted, M_open, M_had, N_many, N_lit, N_lit0, N_bonus, N_factor, N_double, N_saves, N_warns, N_calm, N_tilted, N_open, N_had, m_tell, m_doubled, m_look_for_aim, m_hit, m_look_for_lock, m_award, m_nudge, m_tick, m_is_still, m_set_ball, m_ball, m_state, M_hapL, N_hap, M_me ht, M_pts ht, M_left ht, M_ext ht, M_lck ht, M_won ht, N_pts ht, N_left ht, N_ext ht, N_lck ht, N_won ht])) rfl fun n _ => by
          simp only [EV, lift_some, R.bind_ok, R.s_ok, R.s_exc, w_noExc_ok, List.getElem?_cons_zero, List.getElem?_cons_succ, List.getElem?_nil, List.set_cons_zero, List.set_cons_succ, List.map_cons, List.map_nil, List.length_cons, List.length_nil, List.cons_append, List.nil_append, getV, getO, wipeE, startE, List.replicate, Nat.reduceAdd, Nat.reduceSub, Nat.reduceLT, Nat.reduceLeDiff, if_true, if_false, Bool.false_eq_true, Bool.true_eq_false, reduceIte, endOf_next, endOf_ret, endOf_exc, decide_true, decide_false, Bool.not_true, Bool.not_false, M_book, M_turn, M_players, M_happened, M_many, M_lit, M_bonus, M_factor, M_double, M_saves, M_warns, M_calm, M_tilted, M_open, M_had, N_many, N_lit, N_lit0, N_bonus, N_factor, N_double, N_saves, N_warns, N_calm, N_tilted, N_open, N_had, m_tell, m_doubled, m_look_for_aim, m_hit, m_look_for_lock, m_award, m_nudge, m_tick, m_is_still, m_set_ball, m_ball, m_state, M_hapL, N_hap, M_me ht, M_pts ht, M_left ht, M_ext ht, M_lck ht, M_won ht, N_pts ht, N_left ht, N_ext ht, N_lck ht, N_won ht, ite_ok]
      simp only [EV, lift_some, R.bind_ok, R.s_ok, R.s_exc, w_noExc_ok, List.getElem?_cons_zero, List.getElem?_cons_succ, List.getElem?_nil, List.set_cons_zero, List.set_cons_succ, List.map_cons, List.map_nil, List.length_cons, List.length_nil, List.cons_append, List.nil_append, getV, getO, wipeE, startE, List.replicate, Nat.reduceAdd, Nat.reduceSub, Nat.reduceLT, Nat.reduceLeDiff, if_true, if_false, Bool.false_eq_true, Bool.true_eq_false, reduceIte, endOf_next, endOf_ret, endOf_exc, decide_true, decide_false, Bool.not_true, Bool.not_false, eBank]
      unfold bank
      by_cases c : (a.ns.all fun n => decide (n ∈ m5.b.lit)) = true
      · have A1 := Aw st k t ps { m5 with b := { m5.b with lit := m5.b.lit.filter fun l => decide (l ∉ a.ns) } } a.aw ht (by show m5.h.length < 1000; omega)
        refine ⟨[.val (.ref st.length), .val (eT g), .val (.str g.nm), .val (.int g.pt), .val (.int g.bo), .val (.tup (a.ns.map .str)), .val (.str a.aw), a7], _, ?_, _, _, _, rfl, rfl⟩
        simp only [EV, lift_some, R.bind_ok, R.s_ok, R.s_exc, w_noExc_ok, List.getElem?_cons_zero, List.getElem?_cons_succ, List.getElem?_nil, List.set_cons_zero, List.set_cons_succ, List.map_cons, List.map_nil, List.length_cons, List.length_nil, List.cons_append, List.nil_append, getV, getO, wipeE, startE, List.replicate, Nat.reduceAdd, Nat.reduceSub, Nat.reduceLT, Nat.reduceLeDiff, if_true, if_false, Bool.false_eq_true, Bool.true_eq_false, reduceIte, endOf_next, endOf_ret, endOf_exc, decide_true, decide_false, Bool.not_true, Bool.not_false, M_book, M_turn, M_players, M_happened, M_many, M_lit, M_bonus, M_factor, M_double, M_saves, M_warns, M_calm, M_tilted, M_open, M_had, N_many, N_lit, N_lit0, N_bonus, N_factor, N_double, N_saves, N_warns, N_calm, N_tilted, N_open, N_had, m_tell, m_doubled, m_look_for_aim, m_hit, m_look_for_lock, m_award, m_nudge, m_tick, m_is_still, m_set_ball, m_ball, m_state, M_hapL, N_hap, M_me ht, M_pts ht, M_left ht, M_ext ht, M_lck ht, M_won ht, N_pts ht, N_left ht, N_ext ht, N_lck ht, N_won ht, hc, c, hc2, A1]
      · refine ⟨[.val (.ref st.length), .val (eT g), .val (.str g.nm), .val (.int g.pt), .val (.int g.bo), .val (.tup (a.ns.map .str)), .val (.str a.aw), a7], _, ?_, _, _, _, rfl, rfl⟩
        simp only [EV, lift_some, R.bind_ok, R.s_ok, R.s_exc, w_noExc_ok, List.getElem?_cons_zero, List.getElem?_cons_succ, List.getElem?_nil, List.set_cons_zero, List.set_cons_succ, List.map_cons, List.map_nil, List.length_cons, List.length_nil, List.cons_append, List.nil_append, getV, getO, wipeE, startE, List.replicate, Nat.reduceAdd, Nat.reduceSub, Nat.reduceLT, Nat.reduceLeDiff, if_true, if_false, Bool.false_eq_true, Bool.true_eq_false, reduceIte, endOf_next, endOf_ret, endOf_exc, decide_true, decide_false, Bool.not_true, Bool.not_false, M_book, M_turn, M_players, M_happened, M_many, M_lit, M_bonus, M_factor, M_double, M_saves, M_warns, M_calm, M_tilted, M_open, M_had, N_many, N_lit, N_lit0, N_bonus, N_factor, N_double, N_saves, N_warns, N_calm, N_tilted, N_open, N_had, m_tell, m_doubled, m_look_for_aim, m_hit, m_look_for_lock, m_award, m_nudge, m_tick, m_is_still, m_set_ball, m_ball, m_state, M_hapL, N_hap, M_me ht, M_pts ht, M_left ht, M_ext ht, M_lck ht, M_won ht, N_pts ht, N_left ht, N_ext ht, N_lck ht, N_won ht, hc, c])
  refine en_step e ?_
  have hbh := banks_h k k.bk m4
  generalize banks k m4 k.bk = m5 at hbh ⊢
  have A2 := Am st k t ps m5 ht (by omega)
  exact en_step (e_expr (v := .non) (st' := SM x st k t ps (aimed k m5)) (by simp only [EV, lift_some, R.bind_ok, R.s_ok, R.s_exc, w_noExc_ok, List.getElem?_cons_zero, List.getElem?_cons_succ, List.getElem?_nil, List.set_cons_zero, List.set_cons_succ, List.map_cons, List.map_nil, List.length_cons, List.length_nil, List.cons_append, List.nil_append, getV, getO, wipeE, startE, List.replicate, Nat.reduceAdd, Nat.reduceSub, Nat.reduceLT, Nat.reduceLeDiff, if_true, if_false, Bool.false_eq_true, Bool.true_eq_false, reduceIte, endOf_next, endOf_ret, endOf_exc, decide_true, decide_false, Bool.not_true, Bool.not_false, M_book, M_turn, M_players, M_happened, M_many, M_lit, M_bonus, M_factor, M_double, M_saves, M_warns, M_calm, M_tilted, M_open, M_had, N_many, N_lit, N_lit0, N_bonus, N_factor, N_double, N_saves, N_warns, N_calm, N_tilted, N_open, N_had, m_tell, m_doubled, m_look_for_aim, m_hit, m_look_for_lock, m_award, m_nudge, m_tick, m_is_still, m_set_ball, m_ball, m_state, M_hapL, N_hap, M_me ht, M_pts ht, M_left ht, M_ext ht, M_lck ht, M_won ht, N_pts ht, N_left ht, N_ext ht, N_lck ht, N_won ht, A2])) en_nil
/-! ### set_ball, ball, state, __init__ -/
def S0 (st : Store) (c : Nat) (fs : List (Str × D)) (cs : List Cell) : Store := st ++ .ins c fs :: cs
theorem setF0 {c : Nat} {fs : List (Str × D)} {cs : List Cell} {f : Str} {v : D} (h : fs.length < 1000) : setF (.ref st.length) f v ρ (S0 st c fs cs) = .ok ρ (S0 st c (putF f v fs) cs) := by
  simp [setF, S0, h, putCell]
theorem putF_len (f : Str) (v : D) : ∀ fs : List (Str × D), (putF f v fs).length ≤ fs.length + 1
  | [] => by simp [putF]
  | (g, w) :: r => by
    have := putF_len f v r
    unfold putF
    split <;> simp <;> omega
def put5 (b : Ball) (fs : List (Str × D)) : List (Str × D) := putF s_double (.int b.double) (putF s_factor (.int b.factor) (putF s_bonus (.int b.bonus) (putF s_lit (.tup (b.lit.map .str)) (putF s_many (.int b.many) fs))))
def put6 (b : Ball) (fs : List (Str × D)) : List (Str × D) := putF s_had_extra (.bl b.had) (putF s_is_open (.bl b.opn) (putF s_is_tilted (.bl b.tilted) (putF s_calm (.int b.calm) (putF s_warns (.int b.warns) (putF s_saves (.int b.saves) fs)))))
theorem cut5 (b : Ball) : cutD (lBall b) none (some 5) = [.int b.many, .tup (b.lit.map .str), .int b.bonus, .int b.factor, .int b.double] := cut_to (lBall b) 5
theorem cut6 (b : Ball) : cutD (lBall b) (some 5) none = [.int b.saves, .int b.warns, .int b.calm, .bl b.tilted, .bl b.opn, .bl b.had] := cut_from (lBall b) 5
theorem set_ball_run {c : Nat} {fs : List (Str × D)} {cs : List Cell} (hf : fs.length < 900) : evSs Φ (d_Play_set_ball x) (startE 2 [.ref st.length, eBall b]) (S0 st c fs cs) = .ok (.next [.val (.ref st.length), .val (eBall b)]) (S0 st c (put6 b (put5 b fs)) cs) := by
  unfold d_Play_set_ball
  have l1 := putF_len s_many (.int b.many) fs
  have l2 := putF_len s_lit (.tup (b.lit.map .str)) (putF s_many (.int b.many) fs)
  have l3 := putF_len s_bonus (.int b.bonus) (putF s_lit (.tup (b.lit.map .str)) (putF s_many (.int b.many) fs))
  have l4 := putF_len s_factor (.int b.factor) (putF s_bonus (.int b.bonus) (putF s_lit (.tup (b.lit.map .str)) (putF s_many (.int b.many) fs)))
  have l5 : (put5 b fs).length ≤ _ := putF_len s_double (.int b.double) (putF s_factor (.int b.factor) (putF s_bonus (.int b.bonus) (putF s_lit (.tup (b.lit.map .str)) (putF s_many (.int b.many) fs))))
  refine ss_step (ρ' := [.val (.ref st.length), .val (eBall b)]) (st' := S0 st c (put5 b fs) cs) ?_ ?_
  · simp only [EV, lift_some, R.bind_ok, R.s_ok, R.s_exc, w_noExc_ok, List.getElem?_cons_zero, List.getElem?_cons_succ, List.getElem?_nil, List.set_cons_zero, List.set_cons_succ, List.map_cons, List.map_nil, List.length_cons, List.length_nil, List.cons_append, List.nil_append, getV, getO, wipeE, startE, List.replicate, Nat.reduceAdd, Nat.reduceSub, Nat.reduceLT, Nat.reduceLeDiff, if_true, if_false, Bool.false_eq_true, Bool.true_eq_false, reduceIte, endOf_next, endOf_ret, endOf_exc, decide_true, decide_false, Bool.not_true, Bool.not_false, eBall, cut5]
    rw [setF0 (by omega)]
    simp only [EV, lift_some, R.bind_ok, R.s_ok, R.s_exc, w_noExc_ok, List.getElem?_cons_zero, List.getElem?_cons_succ, List.getElem?_nil, List.set_cons_zero, List.set_cons_succ, List.map_cons, List.map_nil, List.length_cons, List.length_nil, List.cons_append, List.nil_append, getV, getO, wipeE, startE, List.replicate, Nat.reduceAdd, Nat.reduceSub, Nat.reduceLT, Nat.reduceLeDiff, if_true, if_false, Bool.false_eq_true, Bool.true_eq_false, reduceIte, endOf_next, endOf_ret, endOf_exc, decide_true, decide_false, Bool.not_true, Bool.not_false]
    rw [setF0 (by omega)]
    simp only [EV, lift_some, R.bind_ok, R.s_ok, R.s_exc, w_noExc_ok, List.getElem?_cons_zero, List.getElem?_cons_succ, List.getElem?_nil, List.set_cons_zero, List.set_cons_succ, List.map_cons, List.map_nil, List.length_cons, List.length_nil, List.cons_append, List.nil_append, getV, getO, wipeE, startE, List.replicate, Nat.reduceAdd, Nat.reduceSub, Nat.reduceLT, Nat.reduceLeDiff, if_true, if_false, Bool.false_eq_true, Bool.true_eq_false, reduceIte, endOf_next, endOf_ret, endOf_exc, decide_true, decide_false, Bool.not_true, Bool.not_false]
    rw [setF0 (by omega)]
    simp only [EV, lift_some, R.bind_ok, R.s_ok, R.s_exc, w_noExc_ok, List.getElem?_cons_zero, List.getElem?_cons_succ, List.getElem?_nil, List.set_cons_zero, List.set_cons_succ, List.map_cons, List.map_nil, List.length_cons, List.length_nil, List.cons_append, List.nil_append, getV, getO, wipeE, startE, List.replicate, Nat.reduceAdd, Nat.reduceSub, Nat.reduceLT, Nat.reduceLeDiff, if_true, if_false, Bool.false_eq_true, Bool.true_eq_false, reduceIte, endOf_next, endOf_ret, endOf_exc, decide_true, decide_false, Bool.not_true, Bool.not_false]
    rw [setF0 (by omega)]
    simp only [EV, lift_some, R.bind_ok, R.s_ok, R.s_exc, w_noExc_ok, List.getElem?_cons_zero, List.getElem?_cons_succ, List.getElem?_nil, List.set_cons_zero, List.set_cons_succ, List.map_cons, List.map_nil, List.length_cons, List.length_nil, List.cons_append, List.nil_append, getV, getO, wipeE, startE, List.replicate, Nat.reduceAdd, Nat.reduceSub, Nat.reduceLT, Nat.reduceLeDiff, if_true, if_false, Bool.false_eq_true, Bool.true_eq_false, reduceIte, endOf_next, endOf_ret, endOf_exc, decide_true, decide_false, Bool.not_true, Bool.not_false]
    rw [setF0 (by omega)]
    simp only [EV, lift_some, R.bind_ok, R.s_ok, R.s_exc, w_noExc_ok, List.getElem?_cons_zero, List.getElem?_cons_succ, List.getElem?_nil, List.set_cons_zero, List.set_cons_succ, List.map_cons, List.map_nil, List.length_cons, List.length_nil, List.cons_append, List.nil_append, getV, getO, wipeE, startE, List.replicate, Nat.reduceAdd, Nat.reduceSub, Nat.reduceLT, Nat.reduceLeDiff, if_true, if_false, Bool.false_eq_true, Bool.true_eq_false, reduceIte, endOf_next, endOf_ret, endOf_exc, decide_true, decide_false, Bool.not_true, Bool.not_false]
    rfl
  · generalize put5 b fs = gs at l5 ⊢
    have l1 := putF_len s_saves (.int b.saves) gs
    have l2 := putF_len s_warns (.int b.warns) (putF s_saves (.int b.saves) gs)
    have l3 := putF_len s_calm (.int b.calm) (putF s_warns (.int b.warns) (putF s_saves (.int b.saves) gs))
    have l4 := putF_len s_is_tilted (.bl b.tilted) (putF s_calm (.int b.calm) (putF s_warns (.int b.warns) (putF s_saves (.int b.saves) gs)))
    have l6 := putF_len s_is_open (.bl b.opn) (putF s_is_tilted (.bl b.tilted) (putF s_calm (.int b.calm) (putF s_warns (.int b.warns) (putF s_saves (.int b.saves) gs))))
    refine ss_step (ρ' := [.val (.ref st.length), .val (eBall b)]) (st' := S0 st c (put6 b gs) cs) ?_ s_next
    simp only [EV, lift_some, R.bind_ok, R.s_ok, R.s_exc, w_noExc_ok, List.getElem?_cons_zero, List.getElem?_cons_succ, List.getElem?_nil, List.set_cons_zero, List.set_cons_succ, List.map_cons, List.map_nil, List.length_cons, List.length_nil, List.cons_append, List.nil_append, getV, getO, wipeE, startE, List.replicate, Nat.reduceAdd, Nat.reduceSub, Nat.reduceLT, Nat.reduceLeDiff, if_true, if_false, Bool.false_eq_true, Bool.true_eq_false, reduceIte, endOf_next, endOf_ret, endOf_exc, decide_true, decide_false, Bool.not_true, Bool.not_false, eBall, cut6]
    rw [setF0 (by omega)]
    simp only [EV, lift_some, R.bind_ok, R.s_ok, R.s_exc, w_noExc_ok, List.getElem?_cons_zero, List.getElem?_cons_succ, List.getElem?_nil, List.set_cons_zero, List.set_cons_succ, List.map_cons, List.map_nil, List.length_cons, List.length_nil, List.cons_append, List.nil_append, getV, getO, wipeE, startE, List.replicate, Nat.reduceAdd, Nat.reduceSub, Nat.reduceLT, Nat.reduceLeDiff, if_true, if_false, Bool.false_eq_true, Bool.true_eq_false, reduceIte, endOf_next, endOf_ret, endOf_exc, decide_true, decide_false, Bool.not_true, Bool.not_false]
    rw [setF0 (by omega)]
    simp only [EV, lift_some, R.bind_ok, R.s_ok, R.s_exc, w_noExc_ok, List.getElem?_cons_zero, List.getElem?_cons_succ, List.getElem?_nil, List.set_cons_zero, List.set_cons_succ, List.map_cons, List.map_nil, List.length_cons, List.length_nil, List.cons_append, List.nil_append, getV, getO, wipeE, startE, List.replicate, Nat.reduceAdd, Nat.reduceSub, Nat.reduceLT, Nat.reduceLeDiff, if_true, if_false, Bool.false_eq_true, Bool.true_eq_false, reduceIte, endOf_next, endOf_ret, endOf_exc, decide_true, decide_false, Bool.not_true, Bool.not_false]
    rw [setF0 (by omega)]
    simp only [EV, lift_some, R.bind_ok, R.s_ok, R.s_exc, w_noExc_ok, List.getElem?_cons_zero, List.getElem?_cons_succ, List.getElem?_nil, List.set_cons_zero, List.set_cons_succ, List.map_cons, List.map_nil, List.length_cons, List.length_nil, List.cons_append, List.nil_append, getV, getO, wipeE, startE, List.replicate, Nat.reduceAdd, Nat.reduceSub, Nat.reduceLT, Nat.reduceLeDiff, if_true, if_false, Bool.false_eq_true, Bool.true_eq_false, reduceIte, endOf_next, endOf_ret, endOf_exc, decide_true, decide_false, Bool.not_true, Bool.not_false]
    rw [setF0 (by omega)]
    simp only [EV, lift_some, R.bind_ok, R.s_ok, R.s_exc, w_noExc_ok, List.getElem?_cons_zero, List.getElem?_cons_succ, List.getElem?_nil, List.set_cons_zero, List.set_cons_succ, List.map_cons, List.map_nil, List.length_cons, List.length_nil, List.cons_append, List.nil_append, getV, getO, wipeE, startE, List.replicate, Nat.reduceAdd, Nat.reduceSub, Nat.reduceLT, Nat.reduceLeDiff, if_true, if_false, Bool.false_eq_true, Bool.true_eq_false, reduceIte, endOf_next, endOf_ret, endOf_exc, decide_true, decide_false, Bool.not_true, Bool.not_false]
    rw [setF0 (by omega)]
    simp only [EV, lift_some, R.bind_ok, R.s_ok, R.s_exc, w_noExc_ok, List.getElem?_cons_zero, List.getElem?_cons_succ, List.getElem?_nil, List.set_cons_zero, List.set_cons_succ, List.map_cons, List.map_nil, List.length_cons, List.length_nil, List.cons_append, List.nil_append, getV, getO, wipeE, startE, List.replicate, Nat.reduceAdd, Nat.reduceSub, Nat.reduceLT, Nat.reduceLeDiff, if_true, if_false, Bool.false_eq_true, Bool.true_eq_false, reduceIte, endOf_next, endOf_ret, endOf_exc, decide_true, decide_false, Bool.not_true, Bool.not_false]
    rw [setF0 (by omega)]
    simp only [EV, lift_some, R.bind_ok, R.s_ok, R.s_exc, w_noExc_ok, List.getElem?_cons_zero, List.getElem?_cons_succ, List.getElem?_nil, List.set_cons_zero, List.set_cons_succ, List.map_cons, List.map_nil, List.length_cons, List.length_nil, List.cons_append, List.nil_append, getV, getO, wipeE, startE, List.replicate, Nat.reduceAdd, Nat.reduceSub, Nat.reduceLT, Nat.reduceLeDiff, if_true, if_false, Bool.false_eq_true, Bool.true_eq_false, reduceIte, endOf_next, endOf_ret, endOf_exc, decide_true, decide_false, Bool.not_true, Bool.not_false]
    rfl
theorem keys_nd : keys.Nodup := by decide +kernel
theorem put_full {bk tu pl hp : D} {b b' : Ball} : put6 b (put5 b (flds bk tu pl hp b')) = flds bk tu pl hp b := by
  have K := keys_nd
  simp only [keys, List.nodup_cons, List.mem_cons, not_or, List.not_mem_nil, not_false_eq_true, and_true] at K
  simp [put5, put6, flds, ballF, putF, K]
theorem put_new {bk tu pl hp : D} {b : Ball} : put6 b (put5 b [(s_book, bk), (s_turn, tu), (s_players, pl), (s_happened, hp)]) = flds bk tu pl hp b := by
  have K := keys_nd
  simp only [keys, List.nodup_cons, List.mem_cons, not_or, List.not_mem_nil, not_false_eq_true, and_true] at K
  simp [put5, put6, flds, ballF, putF, K]
def SpSetBall (x : Ix) (Φ : Phi) : Prop := ∀ (st : Store) (b : Ball) (c : Nat) (fs : List (Str × D)) (cs : List Cell), fs.length < 900 →
  Φ x.i_Play_set_ball [.ref st.length, eBall b] (S0 st c fs cs) = .ok .non (S0 st c (put6 b (put5 b fs)) cs)
theorem set_ball_S (H : SpSetBall x Φ) (b' : Ball) : Φ x.i_Play_set_ball [.ref st.length, eBall b'] (S x st k tu ps b h) = .ok .non (S x st k tu ps b' h) := by
  have q := H st b' x.i_Play_init (flds (eBook k) tu (.lst (refs (st.length + 1) ps.length)) (.ref (st.length + 1 + ps.length)) b) (ps.map (fun q => Cell.lst (lPl q)) ++ [.lst h]) (show 15 < 900 by decide)
  rw [put_full] at q
  exact q
theorem S_book : fldD (S x st k tu ps b h) (.ref st.length) s_book = some (eBook k) := S_fld 0 (by decide +kernel)
theorem S_turn : fldD (S x st k tu ps b h) (.ref st.length) s_turn = some tu := S_fld 1 (by decide +kernel)
theorem S_players : fldD (S x st k tu ps b h) (.ref st.length) s_players = some (.lst (refs (st.length + 1) ps.length)) := S_fld 2 (by decide +kernel)
theorem S_happened : fldD (S x st k tu ps b h) (.ref st.length) s_happened = some (.ref (st.length + 1 + ps.length)) := S_fld 3 (by decide +kernel)
theorem S_many : fldD (S x st k tu ps b h) (.ref st.length) s_many = some (.int b.many) := S_fld 4 (by decide +kernel)
theorem S_lit : fldD (S x st k tu ps b h) (.ref st.length) s_lit = some (.tup (b.lit.map .str)) := S_fld 5 (by decide +kernel)
theorem S_bonus : fldD (S x st k tu ps b h) (.ref st.length) s_bonus = some (.int b.bonus) := S_fld 6 (by decide +kernel)
theorem S_factor : fldD (S x st k tu ps b h) (.ref st.length) s_factor = some (.int b.factor) := S_fld 7 (by decide +kernel)
theorem S_double : fldD (S x st k tu ps b h) (.ref st.length) s_double = some (.int b.double) := S_fld 8 (by decide +kernel)
theorem S_saves : fldD (S x st k tu ps b h) (.ref st.length) s_saves = some (.int b.saves) := S_fld 9 (by decide +kernel)
theorem S_warns : fldD (S x st k tu ps b h) (.ref st.length) s_warns = some (.int b.warns) := S_fld 10 (by decide +kernel)
theorem S_calm : fldD (S x st k tu ps b h) (.ref st.length) s_calm = some (.int b.calm) := S_fld 11 (by decide +kernel)
theorem S_tilted : fldD (S x st k tu ps b h) (.ref st.length) s_is_tilted = some (.bl b.tilted) := S_fld 12 (by decide +kernel)
theorem S_open : fldD (S x st k tu ps b h) (.ref st.length) s_is_open = some (.bl b.opn) := S_fld 13 (by decide +kernel)
theorem S_had : fldD (S x st k tu ps b h) (.ref st.length) s_had_extra = some (.bl b.had) := S_fld 14 (by decide +kernel)
theorem W_turn {v : D} : setF (.ref st.length) s_turn v ρ (S x st k tu ps b h) = .ok ρ (S x st k v ps b h) := S_set 1 (by decide +kernel) rfl
theorem S_at {o : Nat} (ho : o < ps.length) : idxD (S x st k tu ps b h) (.lst (refs (st.length + 1) ps.length)) (.int o) = some (.ref (st.length + 1 + o)) := by
  simp only [idxD, view, atD, refs_at ho]
theorem S_view {o : Nat} (ho : o < ps.length) : view (S x st k tu ps b h) (.ref (st.length + 1 + o)) = .lst (lPl (ps.getD o default)) := by
  simp only [view, S_pl ho]
theorem S_left {o : Nat} (ho : o < ps.length) : idxD (S x st k tu ps b h) (.ref (st.length + 1 + o)) (.int 1) = some (.int (ps.getD o default).left) := by
  simp only [idxD, S_view ho, lPl, atD, at_1]
theorem S_ext {o : Nat} (ho : o < ps.length) : idxD (S x st k tu ps b h) (.ref (st.length + 1 + o)) (.int 2) = some (.int (ps.getD o default).ext) := by
  simp only [idxD, S_view ho, lPl, atD, at_2]
theorem W_left {o : Nat} (ho : o < ps.length) {v : Int} : setS (.ref (st.length + 1 + o)) (.int 1) (.int v) ρ (S x st k tu ps b h) = .ok ρ (S x st k tu (ps.set o { ps.getD o default with left := v }) b h) := by
  have hx : L2.ixN (lPl (ps.getD o default)).length (1 : Int) = some 1 := by
    unfold L2.ixN
    simp [lPl]
  simp only [setS, S_pl ho, hx]
  rw [← S_putP ho]
  rfl
theorem W_ext {o : Nat} (ho : o < ps.length) {v : Int} : setS (.ref (st.length + 1 + o)) (.int 2) (.int v) ρ (S x st k tu ps b h) = .ok ρ (S x st k tu (ps.set o { ps.getD o default with ext := v }) b h) := by
  have hx : L2.ixN (lPl (ps.getD o default)).length (2 : Int) = some 2 := by
    unfold L2.ixN
    simp [lPl]
  simp only [setS, S_pl ho, hx]
  rw [← S_putP ho]
  rfl
theorem ball_run : evSs Φ (d_Play_ball x) (startE 2 [.ref st.length]) (S x st k tu ps b h) = .ok (.ret (eBall b)) (S x st k tu ps b h) := by
  unfold d_Play_ball
  simp only [EV, lift_some, R.bind_ok, R.s_ok, R.s_exc, w_noExc_ok, List.getElem?_cons_zero, List.getElem?_cons_succ, List.getElem?_nil, List.set_cons_zero, List.set_cons_succ, List.map_cons, List.map_nil, List.length_cons, List.length_nil, List.cons_append, List.nil_append, getV, getO, wipeE, startE, List.replicate, Nat.reduceAdd, Nat.reduceSub, Nat.reduceLT, Nat.reduceLeDiff, if_true, if_false, Bool.false_eq_true, Bool.true_eq_false, reduceIte, endOf_next, endOf_ret, endOf_exc, decide_true, decide_false, Bool.not_true, Bool.not_false, S_book, S_turn, S_players, S_happened, S_many, S_lit, S_bonus, S_factor, S_double, S_saves, S_warns, S_calm, S_tilted, S_open, S_had]
  rw [o_addT (small (by simp only [List.length_cons, List.length_nil]; decide))]
  rfl
def SpBall (x : Ix) (Φ : Phi) : Prop := ∀ (st : Store) (k : Book) (tu : D) (ps : List Pl) (b : Ball) (h : List D), Φ x.i_Play_ball [.ref st.length] (S x st k tu ps b h) = .ok (eBall b) (S x st k tu ps b h)
theorem range_pl (ps : List Pl) {α : Type} (f : Pl → α) : ((List.range ps.length).map fun i => f (ps.getD i default)) = ps.map f := by
  apply List.ext_getElem (by simp)
  intro i h1 h2
  simp at h1 h2 ⊢
  simp [h1]
theorem players_comp {a0 a1 a2 : B.Slot} (h0 : a0 = .val (.ref st.length)) : evC Φ (.comp (.blt .tuple (.cons (.var 2) .nil)) (.nm 2) (.val (.fld (.var 0) s_players)) .none [2]) [a0, a1, a2] (S x st k tu ps b h) = .ok (ps.map ePl) (S x st k tu ps b h) := by
  subst h0
  rw [← range_pl ps ePl]
  refine comp_all (fun i => D.ref (st.length + 1 + i)) (List.range ps.length) (fun i => ePl (ps.getD i default)) (okf := fun st' => srcOk st' (.lst (refs (st.length + 1) ps.length)) (refs (st.length + 1) ps.length)) (by simp only [evI, EV, lift_some, R.bind_ok, R.s_ok, R.s_exc, w_noExc_ok, List.getElem?_cons_zero, List.getElem?_cons_succ, List.getElem?_nil, List.set_cons_zero, List.set_cons_succ, List.map_cons, List.map_nil, List.length_cons, List.length_nil, List.cons_append, List.nil_append, getV, getO, wipeE, startE, List.replicate, Nat.reduceAdd, Nat.reduceSub, Nat.reduceLT, Nat.reduceLeDiff, if_true, if_false, Bool.false_eq_true, Bool.true_eq_false, reduceIte, endOf_next, endOf_ret, endOf_exc, decide_true, decide_false, Bool.not_true, Bool.not_false, S_players, refs]) rfl fun i hi => ?_
  have hi' : i < ps.length := List.mem_range.mp hi
  simp only [EV, lift_some, R.bind_ok, R.s_ok, R.s_exc, w_noExc_ok, List.getElem?_cons_zero, List.getElem?_cons_succ, List.getElem?_nil, List.set_cons_zero, List.set_cons_succ, List.map_cons, List.map_nil, List.length_cons, List.length_nil, List.cons_append, List.nil_append, getV, getO, wipeE, startE, List.replicate, Nat.reduceAdd, Nat.reduceSub, Nat.reduceLT, Nat.reduceLeDiff, if_true, if_false, Bool.false_eq_true, Bool.true_eq_false, reduceIte, endOf_next, endOf_ret, endOf_exc, decide_true, decide_false, Bool.not_true, Bool.not_false, biD, seqOf, S_view hi', Option.map_some]
  rfl
theorem state_run (Bl : SpBall x Φ) : evSs Φ (d_Play_state x) (startE 3 [.ref st.length]) (S x st k (.int t) ps b h) = .ok (.ret (eSt (.on t ps b))) (S x st k (.int t) ps b h) := by
  unfold d_Play_state
  simp only [EV, lift_some, R.bind_ok, R.s_ok, R.s_exc, w_noExc_ok, List.getElem?_cons_zero, List.getElem?_cons_succ, List.getElem?_nil, List.set_cons_zero, List.set_cons_succ, List.map_cons, List.map_nil, List.length_cons, List.length_nil, List.cons_append, List.nil_append, getV, getO, wipeE, startE, List.replicate, Nat.reduceAdd, Nat.reduceSub, Nat.reduceLT, Nat.reduceLeDiff, if_true, if_false, Bool.false_eq_true, Bool.true_eq_false, reduceIte, endOf_next, endOf_ret, endOf_exc, decide_true, decide_false, Bool.not_true, Bool.not_false, players_comp rfl, S_turn, m_ball, Bl st k (.int t) ps b h]
  rfl
theorem state_runO (Bl : SpBall x Φ) : evSs Φ (d_Play_state x) (startE 3 [.ref st.length]) (S x st k .non ps b h) = .ok (.ret (eSt (.over ps))) (S x st k .non ps b h) := by
  unfold d_Play_state
  simp only [EV, lift_some, R.bind_ok, R.s_ok, R.s_exc, w_noExc_ok, List.getElem?_cons_zero, List.getElem?_cons_succ, List.getElem?_nil, List.set_cons_zero, List.set_cons_succ, List.map_cons, List.map_nil, List.length_cons, List.length_nil, List.cons_append, List.nil_append, getV, getO, wipeE, startE, List.replicate, Nat.reduceAdd, Nat.reduceSub, Nat.reduceLT, Nat.reduceLeDiff, if_true, if_false, Bool.false_eq_true, Bool.true_eq_false, reduceIte, endOf_next, endOf_ret, endOf_exc, decide_true, decide_false, Bool.not_true, Bool.not_false, players_comp rfl, S_turn]
  rfl
end Bt


set_option Elab.async false
set_option linter.all false
set_option maxRecDepth 100000
set_option maxHeartbeats 4000000
/-! A Play is made; the next player; a ball is lost; a step. -/
namespace Bt
open PySem P B
set_option autoImplicit false
variable {x : Ix} {Φ : Phi} {st : Store} {k : Book} {tu : D} {ps : List Pl} {b : Ball} {h : List D} {t : Nat} {m : M} {ρ : Slots}
theorem init_run (Sb : SpSetBall x Φ) : endOf (evSs Φ (d_Play_init x) (startE 4 [.ref st.length, eBook k, eSt (.on t ps b)]) (st ++ [.ins x.i_Play_init []])) = .ok .non (S x st k (.int t) ps b []) := by
  unfold d_Play_init
  have K := keys_nd
  simp only [keys, List.nodup_cons, List.mem_cons, not_or, List.not_mem_nil, not_false_eq_true, and_true] at K
  have e0 : st ++ [.ins x.i_Play_init []] = S0 st x.i_Play_init [] [] := rfl
  rw [e0]
  refine en_step (ρ' := [.val (.ref st.length), .val (eBook k), .val (eSt (.on t ps b)), .no]) (st' := S0 st x.i_Play_init [(s_book, eBook k)] []) ?_ ?_
  · simp only [EV, lift_some, R.bind_ok, R.s_ok, R.s_exc, w_noExc_ok, List.getElem?_cons_zero, List.getElem?_cons_succ, List.getElem?_nil, List.set_cons_zero, List.set_cons_succ, List.map_cons, List.map_nil, List.length_cons, List.length_nil, List.cons_append, List.nil_append, getV, getO, wipeE, startE, List.replicate, Nat.reduceAdd, Nat.reduceSub, Nat.reduceLT, Nat.reduceLeDiff, if_true, if_false, Bool.false_eq_true, Bool.true_eq_false, reduceIte, endOf_next, endOf_ret, endOf_exc, decide_true, decide_false, Bool.not_true, Bool.not_false]
    rw [setF0 (by simp)]
    simp only [EV, lift_some, R.bind_ok, R.s_ok, R.s_exc, w_noExc_ok, List.getElem?_cons_zero, List.getElem?_cons_succ, List.getElem?_nil, List.set_cons_zero, List.set_cons_succ, List.map_cons, List.map_nil, List.length_cons, List.length_nil, List.cons_append, List.nil_append, getV, getO, wipeE, startE, List.replicate, Nat.reduceAdd, Nat.reduceSub, Nat.reduceLT, Nat.reduceLeDiff, if_true, if_false, Bool.false_eq_true, Bool.true_eq_false, reduceIte, endOf_next, endOf_ret, endOf_exc, decide_true, decide_false, Bool.not_true, Bool.not_false, putF]
  refine en_step (ρ' := [.val (.ref st.length), .val (eBook k), .val (eSt (.on t ps b)), .no]) (st' := S0 st x.i_Play_init [(s_book, eBook k), (s_turn, .int t)] []) ?_ ?_
  · simp only [EV, lift_some, R.bind_ok, R.s_ok, R.s_exc, w_noExc_ok, List.getElem?_cons_zero, List.getElem?_cons_succ, List.getElem?_nil, List.set_cons_zero, List.set_cons_succ, List.map_cons, List.map_nil, List.length_cons, List.length_nil, List.cons_append, List.nil_append, getV, getO, wipeE, startE, List.replicate, Nat.reduceAdd, Nat.reduceSub, Nat.reduceLT, Nat.reduceLeDiff, if_true, if_false, Bool.false_eq_true, Bool.true_eq_false, reduceIte, endOf_next, endOf_ret, endOf_exc, decide_true, decide_false, Bool.not_true, Bool.not_false, eSt]
    rw [setF0 (by simp)]
    simp [EV, lift_some, R.bind_ok, R.s_ok, R.s_exc, w_noExc_ok, List.getElem?_cons_zero, List.getElem?_cons_succ, List.getElem?_nil, List.set_cons_zero, List.set_cons_succ, List.map_cons, List.map_nil, List.length_cons, List.length_nil, List.cons_append, List.nil_append, getV, getO, wipeE, startE, List.replicate, Nat.reduceAdd, Nat.reduceSub, Nat.reduceLT, Nat.reduceLeDiff, if_true, if_false, Bool.false_eq_true, Bool.true_eq_false, reduceIte, endOf_next, endOf_ret, endOf_exc, decide_true, decide_false, Bool.not_true, Bool.not_false, putF, K]
  have hc : evC Φ (.comp (.cel (.copy (.var 3))) (.nm 3) (.val (.idx (.var 2) (.con (.int 1)))) .none [3]) [.val (.ref st.length), .val (eBook k), .val (eSt (.on t ps b)), .no] (S0 st x.i_Play_init [(s_book, eBook k), (s_turn, .int t)] []) = .ok (refs (st.length + 1) ps.length) (S0 st x.i_Play_init [(s_book, eBook k), (s_turn, .int t)] (ps.map fun q => Cell.lst (lPl q))) := by
    have q := compL_cells ePl (fun q => Cell.lst (lPl q)) (f := fun d st1 => noExc ((asT Φ (.nm 3) d [.val (.ref st.length), .val (eBook k), .val (eSt (.on t ps b)), .no] st1).bind fun ρ' st => (evCo Φ .none ρ' st).bind fun k st => if k = true then (evE Φ (.cel (.copy (.var 3))) ρ' st).bind fun y st => .ok (some y) st else .ok none st))
      (ok := fun st' => srcOk st' (.tup (ps.map ePl)) (ps.map ePl)) (fun _ => rfl) (fun q st => by simp only [EV, lift_some, R.bind_ok, R.s_ok, R.s_exc, w_noExc_ok, List.getElem?_cons_zero, List.getElem?_cons_succ, List.getElem?_nil, List.set_cons_zero, List.set_cons_succ, List.map_cons, List.map_nil, List.length_cons, List.length_nil, List.cons_append, List.nil_append, getV, getO, wipeE, startE, List.replicate, Nat.reduceAdd, Nat.reduceSub, Nat.reduceLT, Nat.reduceLeDiff, if_true, if_false, Bool.false_eq_true, Bool.true_eq_false, reduceIte, endOf_next, endOf_ret, endOf_exc, decide_true, decide_false, Bool.not_true, Bool.not_false, ePl]) ps (S0 st x.i_Play_init [(s_book, eBook k), (s_turn, .int t)] [])
    simp only [evC, evI, EV, lift_some, R.bind_ok, R.s_ok, R.s_exc, w_noExc_ok, List.getElem?_cons_zero, List.getElem?_cons_succ, List.getElem?_nil, List.set_cons_zero, List.set_cons_succ, List.map_cons, List.map_nil, List.length_cons, List.length_nil, List.cons_append, List.nil_append, getV, getO, wipeE, startE, List.replicate, Nat.reduceAdd, Nat.reduceSub, Nat.reduceLT, Nat.reduceLeDiff, if_true, if_false, Bool.false_eq_true, Bool.true_eq_false, reduceIte, endOf_next, endOf_ret, endOf_exc, decide_true, decide_false, Bool.not_true, Bool.not_false, eSt] at q ⊢
    rw [q]
    simp [S0, refs]
  refine en_step (ρ' := [.val (.ref st.length), .val (eBook k), .val (eSt (.on t ps b)), .no]) (st' := S0 st x.i_Play_init [(s_book, eBook k), (s_turn, .int t), (s_players, .lst (refs (st.length + 1) ps.length))] (ps.map fun q => Cell.lst (lPl q))) ?_ ?_
  · simp only [EV, lift_some, R.bind_ok, R.s_ok, R.s_exc, w_noExc_ok, List.getElem?_cons_zero, List.getElem?_cons_succ, List.getElem?_nil, List.set_cons_zero, List.set_cons_succ, List.map_cons, List.map_nil, List.length_cons, List.length_nil, List.cons_append, List.nil_append, getV, getO, wipeE, startE, List.replicate, Nat.reduceAdd, Nat.reduceSub, Nat.reduceLT, Nat.reduceLeDiff, if_true, if_false, Bool.false_eq_true, Bool.true_eq_false, reduceIte, endOf_next, endOf_ret, endOf_exc, decide_true, decide_false, Bool.not_true, Bool.not_false, hc]
    rw [setF0 (by simp)]
    simp [EV, lift_some, R.bind_ok, R.s_ok, R.s_exc, w_noExc_ok, List.getElem?_cons_zero, List.getElem?_cons_succ, List.getElem?_nil, List.set_cons_zero, List.set_cons_succ, List.map_cons, List.map_nil, List.length_cons, List.length_nil, List.cons_append, List.nil_append, getV, getO, wipeE, startE, List.replicate, Nat.reduceAdd, Nat.reduceSub, Nat.reduceLT, Nat.reduceLeDiff, if_true, if_false, Bool.false_eq_true, Bool.true_eq_false, reduceIte, endOf_next, endOf_ret, endOf_exc, decide_true, decide_false, Bool.not_true, Bool.not_false, putF, K]
  have e1 : S0 st x.i_Play_init [(s_book, eBook k), (s_turn, .int t), (s_players, .lst (refs (st.length + 1) ps.length))] (ps.map fun q => Cell.lst (lPl q)) ++ [.lst []] = S0 st x.i_Play_init [(s_book, eBook k), (s_turn, .int t), (s_players, .lst (refs (st.length + 1) ps.length))] (ps.map (fun q => Cell.lst (lPl q)) ++ [.lst []]) := by simp [S0]
  have e2 : (S0 st x.i_Play_init [(s_book, eBook k), (s_turn, .int t), (s_players, .lst (refs (st.length + 1) ps.length))] (ps.map fun q => Cell.lst (lPl q))).length = st.length + 1 + ps.length := by simp [S0]; omega
  refine en_step (ρ' := [.val (.ref st.length), .val (eBook k), .val (eSt (.on t ps b)), .no]) (st' := S0 st x.i_Play_init [(s_book, eBook k), (s_turn, .int t), (s_players, .lst (refs (st.length + 1) ps.length)), (s_happened, .ref (st.length + 1 + ps.length))] (ps.map (fun q => Cell.lst (lPl q)) ++ [.lst []])) ?_ ?_
  · simp only [EV, lift_some, R.bind_ok, R.s_ok, R.s_exc, w_noExc_ok, List.getElem?_cons_zero, List.getElem?_cons_succ, List.getElem?_nil, List.set_cons_zero, List.set_cons_succ, List.map_cons, List.map_nil, List.length_cons, List.length_nil, List.cons_append, List.nil_append, getV, getO, wipeE, startE, List.replicate, Nat.reduceAdd, Nat.reduceSub, Nat.reduceLT, Nat.reduceLeDiff, if_true, if_false, Bool.false_eq_true, Bool.true_eq_false, reduceIte, endOf_next, endOf_ret, endOf_exc, decide_true, decide_false, Bool.not_true, Bool.not_false, e1, e2]
    rw [setF0 (by simp)]
    simp [EV, lift_some, R.bind_ok, R.s_ok, R.s_exc, w_noExc_ok, List.getElem?_cons_zero, List.getElem?_cons_succ, List.getElem?_nil, List.set_cons_zero, List.set_cons_succ, List.map_cons, List.map_nil, List.length_cons, List.length_nil, List.cons_append, List.nil_append, getV, getO, wipeE, startE, List.replicate, Nat.reduceAdd, Nat.reduceSub, Nat.reduceLT, Nat.reduceLeDiff, if_true, if_false, Bool.false_eq_true, Bool.true_eq_false, reduceIte, endOf_next, endOf_ret, endOf_exc, decide_true, decide_false, Bool.not_true, Bool.not_false, putF, K]
  have hi : instOf (S0 st x.i_Play_init [(s_book, eBook k), (s_turn, .int t), (s_players, .lst (refs (st.length + 1) ps.length)), (s_happened, .ref (st.length + 1 + ps.length))] (ps.map (fun q => Cell.lst (lPl q)) ++ [.lst []])) (.ref st.length) x.i_Play_init s_set_ball = true := by
    have : getF [(s_book, eBook k), (s_turn, .int t), (s_players, .lst (refs (st.length + 1) ps.length)), (s_happened, .ref (st.length + 1 + ps.length))] s_set_ball = none := getF_none _ _ (show (keys.take 4).findIdx? (fun g => decide (g = s_set_ball)) = none by decide +kernel)
    simp [instOf, S0, this]
  have q := Sb st b x.i_Play_init [(s_book, eBook k), (s_turn, .int t), (s_players, .lst (refs (st.length + 1) ps.length)), (s_happened, .ref (st.length + 1 + ps.length))] (ps.map (fun q => Cell.lst (lPl q)) ++ [.lst []]) (by simp)
  refine en_step (e_expr (v := .non) (st' := S x st k (.int t) ps b []) ?_) en_nil
  rw [put_new] at q
  simp only [EV, lift_some, R.bind_ok, R.s_ok, R.s_exc, w_noExc_ok, List.getElem?_cons_zero, List.getElem?_cons_succ, List.getElem?_nil, List.set_cons_zero, List.set_cons_succ, List.map_cons, List.map_nil, List.length_cons, List.length_nil, List.cons_append, List.nil_append, getV, getO, wipeE, startE, List.replicate, Nat.reduceAdd, Nat.reduceSub, Nat.reduceLT, Nat.reduceLeDiff, if_true, if_false, Bool.false_eq_true, Bool.true_eq_false, reduceIte, endOf_next, endOf_ret, endOf_exc, decide_true, decide_false, Bool.not_true, Bool.not_false, eSt, hi, q]
  rfl
/-! ### a target of a book, a new ball, the end -/
def SpTarget (x : Ix) (Φ : Phi) : Prop := ∀ (st : Store) (k : Book) (n : Str) (g : Tgt), k.find n = some g → Φ x.i_target_of [eBook k, .str n] st = .ok (eT g) st
def SpTarget0 (x : Ix) (Φ : Phi) : Prop := ∀ (st : Store) (k : Book) (n : Str), k.find n = none → Φ x.i_target_of [eBook k, .str n] st = .exc x.e_NoName st
def SpFresh (x : Ix) (Φ : Phi) : Prop := ∀ (st : Store) (k : Book), Φ x.i_fresh [eBook k] st = .ok (eBall (fresh k)) st
def SpOver (x : Ix) (Φ : Phi) : Prop := ∀ (st : Store) (s : St), Φ x.i_is_over [eSt s] st = .ok (.bl s.isOver) st
theorem target_loop (n : Str) : match k.tg.find? fun t => decide (t.nm = n) with
    | some g => endOf (evSs Φ (d_target_of x) (startE 3 [eBook k, .str n]) st) = .ok (eT g) st
    | none => endOf (evSs Φ (d_target_of x) (startE 3 [eBook k, .str n]) st) = .exc x.e_NoName st := by
  unfold d_target_of
  have q := for_find (Φ := Φ) (st := st) (st1 := st) (ρ := startE 3 [eBook k, .str n]) eT (tg := .nm 2) (it := .val (.idx (.var 0) (.con (.int 0)))) (body := .cons (.ife (.cmp .eq (.idx (.var 2) (.con (.int 0))) (.var 1)) (.cons (.ret (.var 2)) .nil) .nil) .nil)
    k.tg (okf := fun st => srcOk st (.tup (k.tg.map eT)) (k.tg.map eT)) (fun ρ => ∃ a, ρ = [.val (eBook k), .val (.str n), a]) (fun t => decide (t.nm = n)) eT (fun _ => st)
    (it_val eT (by simp only [EV, lift_some, R.bind_ok, R.s_ok, R.s_exc, w_noExc_ok, List.getElem?_cons_zero, List.getElem?_cons_succ, List.getElem?_nil, List.set_cons_zero, List.set_cons_succ, List.map_cons, List.map_nil, List.length_cons, List.length_nil, List.cons_append, List.nil_append, getV, getO, wipeE, startE, List.replicate, Nat.reduceAdd, Nat.reduceSub, Nat.reduceLT, Nat.reduceLeDiff, if_true, if_false, Bool.false_eq_true, Bool.true_eq_false, reduceIte, endOf_next, endOf_ret, endOf_exc, decide_true, decide_false, Bool.not_true, Bool.not_false, eBook])) rfl ⟨.no, rfl⟩
    (by
      rintro g _ ρ ⟨a, rfl⟩ h
      simp only [decide_eq_false_iff_not] at h
      exact ⟨_, by simp only [EV, lift_some, R.bind_ok, R.s_ok, R.s_exc, w_noExc_ok, List.getElem?_cons_zero, List.getElem?_cons_succ, List.getElem?_nil, List.set_cons_zero, List.set_cons_succ, List.map_cons, List.map_nil, List.length_cons, List.length_nil, List.cons_append, List.nil_append, getV, getO, wipeE, startE, List.replicate, Nat.reduceAdd, Nat.reduceSub, Nat.reduceLT, Nat.reduceLeDiff, if_true, if_false, Bool.false_eq_true, Bool.true_eq_false, reduceIte, endOf_next, endOf_ret, endOf_exc, decide_true, decide_false, Bool.not_true, Bool.not_false, eT, h]; rfl, _, rfl⟩)
    (by
      rintro g _ ρ ⟨a, rfl⟩ h
      simp only [decide_eq_true_eq] at h
      simp only [EV, lift_some, R.bind_ok, R.s_ok, R.s_exc, w_noExc_ok, List.getElem?_cons_zero, List.getElem?_cons_succ, List.getElem?_nil, List.set_cons_zero, List.set_cons_succ, List.map_cons, List.map_nil, List.length_cons, List.length_nil, List.cons_append, List.nil_append, getV, getO, wipeE, startE, List.replicate, Nat.reduceAdd, Nat.reduceSub, Nat.reduceLT, Nat.reduceLeDiff, if_true, if_false, Bool.false_eq_true, Bool.true_eq_false, reduceIte, endOf_next, endOf_ret, endOf_exc, decide_true, decide_false, Bool.not_true, Bool.not_false, eT, h])
  cases e : k.tg.find? fun t => decide (t.nm = n) with
  | some g =>
    simp only [e] at q ⊢
    exact en_ret q
  | none =>
    simp only [e] at q ⊢
    obtain ⟨ρ', q, a, rfl⟩ := q
    exact en_step q (en_exc (by simp only [evS]; rfl))
theorem target_run {n : Str} {g : Tgt} (hg : k.find n = some g) : endOf (evSs Φ (d_target_of x) (startE 3 [eBook k, .str n]) st) = .ok (eT g) st := by
  have q := target_loop (x := x) (Φ := Φ) (st := st) (k := k) n
  unfold Book.find at hg
  simp only [hg] at q
  exact q
theorem target_run0 {n : Str} (hg : k.find n = none) : endOf (evSs Φ (d_target_of x) (startE 3 [eBook k, .str n]) st) = .exc x.e_NoName st := by
  have q := target_loop (x := x) (Φ := Φ) (st := st) (k := k) n
  unfold Book.find at hg
  simp only [hg] at q
  exact q
theorem fresh_run : endOf (evSs Φ (d_fresh x) (startE 1 [eBook k]) st) = .ok (eBall (fresh k)) st := by
  unfold d_fresh
  simp only [EV, lift_some, R.bind_ok, R.s_ok, R.s_exc, w_noExc_ok, List.getElem?_cons_zero, List.getElem?_cons_succ, List.getElem?_nil, List.set_cons_zero, List.set_cons_succ, List.map_cons, List.map_nil, List.length_cons, List.length_nil, List.cons_append, List.nil_append, getV, getO, wipeE, startE, List.replicate, Nat.reduceAdd, Nat.reduceSub, Nat.reduceLT, Nat.reduceLeDiff, if_true, if_false, Bool.false_eq_true, Bool.true_eq_false, reduceIte, endOf_next, endOf_ret, endOf_exc, decide_true, decide_false, Bool.not_true, Bool.not_false, eBook]
  rfl
theorem over_run (s : St) : endOf (evSs Φ (d_is_over x) (startE 1 [eSt s]) st) = .ok (.bl s.isOver) st := by
  unfold d_is_over
  cases s with
  | on t ps b => simp only [EV, lift_some, R.bind_ok, R.s_ok, R.s_exc, w_noExc_ok, List.getElem?_cons_zero, List.getElem?_cons_succ, List.getElem?_nil, List.set_cons_zero, List.set_cons_succ, List.map_cons, List.map_nil, List.length_cons, List.length_nil, List.cons_append, List.nil_append, getV, getO, wipeE, startE, List.replicate, Nat.reduceAdd, Nat.reduceSub, Nat.reduceLT, Nat.reduceLeDiff, if_true, if_false, Bool.false_eq_true, Bool.true_eq_false, reduceIte, endOf_next, endOf_ret, endOf_exc, decide_true, decide_false, Bool.not_true, Bool.not_false, eSt, St.isOver]
  | over ps => simp only [EV, lift_some, R.bind_ok, R.s_ok, R.s_exc, w_noExc_ok, List.getElem?_cons_zero, List.getElem?_cons_succ, List.getElem?_nil, List.set_cons_zero, List.set_cons_succ, List.map_cons, List.map_nil, List.length_cons, List.length_nil, List.cons_append, List.nil_append, getV, getO, wipeE, startE, List.replicate, Nat.reduceAdd, Nat.reduceSub, Nat.reduceLT, Nat.reduceLeDiff, if_true, if_false, Bool.false_eq_true, Bool.true_eq_false, reduceIte, endOf_next, endOf_ret, endOf_exc, decide_true, decide_false, Bool.not_true, Bool.not_false, eSt, St.isOver]
/-! ### the next player -/
/-- the Play behind the end of a ball -/
def SE (x : Ix) (st : Store) (k : Book) (t : Nat) (ps : List Pl) (m : M) : Store :=
  match pass k t (ps.set t m.q) with
  | .on o ps' b' => S x st k (.int o) ps' b' (m.h.map fun w : Word => eTold (t, w.1, w.2))
  | .over ps' => S x st k .non ps' m.b ((m.h ++ [(s_over, 0)]).map fun w : Word => eTold (t, w.1, w.2))
def SpNext (x : Ix) (Φ : Phi) : Prop := ∀ (st : Store) (k : Book) (t : Nat) (ps : List Pl) (m : M), t < ps.length → ps.length < 1000 → m.h.length < 1000 →
  Φ x.i_next_player [.ref st.length] (SM x st k t ps m) = .ok .non (SE x st k t ps m)
theorem S_len : biD .len st [.lst (refs (st.length + 1) ps.length)] = some (.int ps.length) := by
  simp [biD, view_lst, refs]
theorem rng1_ok {n : Nat} (h : n < 1000) : rngOk 1 ((n : Int) + 1) = true := by
  have : (n : Nat) ≤ sizeLine := small (by omega)
  unfold rngOk
  simp
  omega
theorem next_run (T : SpTell x Φ) (Sb : SpSetBall x Φ) (Fr : SpFresh x Φ) (ht : t < ps.length) (hp : ps.length < 1000) (hh : m.h.length < 1000) :
    endOf (evSs Φ (d_next_player x) (startE 5 [.ref st.length]) (SM x st k t ps m)) = .ok .non (SE x st k t ps m) := by
  unfold d_next_player SE pass
  have hl : (ps.set t m.q).length = ps.length := List.length_set
  have hq : (ps.set t m.q).getD t default = m.q := set_get ht
  have Fr' := fun st => Fr st k
  simp only [hq]
  refine en_step (ρ' := [.val (.ref st.length), .val (.ref (st.length + 1 + t)), .no, .no, .no]) (st' := SM x st k t ps m) (by simp only [EV, lift_some, R.bind_ok, R.s_ok, R.s_exc, w_noExc_ok, List.getElem?_cons_zero, List.getElem?_cons_succ, List.getElem?_nil, List.set_cons_zero, List.set_cons_succ, List.map_cons, List.map_nil, List.length_cons, List.length_nil, List.cons_append, List.nil_append, getV, getO, wipeE, startE, List.replicate, Nat.reduceAdd, Nat.reduceSub, Nat.reduceLT, Nat.reduceLeDiff, if_true, if_false, Bool.false_eq_true, Bool.true_eq_false, reduceIte, endOf_next, endOf_ret, endOf_exc, decide_true, decide_false, Bool.not_true, Bool.not_false, M_book, M_turn, M_players, M_happened, M_many, M_lit, M_bonus, M_factor, M_double, M_saves, M_warns, M_calm, M_tilted, M_open, M_had, N_many, N_lit, N_lit0, N_bonus, N_factor, N_double, N_saves, N_warns, N_calm, N_tilted, N_open, N_had, m_tell, m_doubled, m_look_for_aim, m_hit, m_look_for_lock, m_award, m_nudge, m_tick, m_is_still, m_set_ball, m_ball, m_state, M_hapL, N_hap, M_me ht, M_pts ht, M_left ht, M_ext ht, M_lck ht, M_won ht, N_pts ht, N_left ht, N_ext ht, N_lck ht, N_won ht]) ?_
  by_cases c : 0 < m.q.ext
  · have q := set_ball_S (x := x) (st := st) (k := k) (tu := .int t) (ps := (ps.set t m.q).set t { m.q with ext := m.q.ext - 1 }) (b := m.b) (h := m.h.map fun w : Word => eTold (t, w.1, w.2)) Sb (fresh k)
    have e : SM x st k t ps { m with q := { m.q with ext := m.q.ext - 1 } } = S x st k (.int t) ((ps.set t m.q).set t { m.q with ext := m.q.ext - 1 }) m.b (m.h.map fun w : Word => eTold (t, w.1, w.2)) := by
      simp only [SM, List.set_set]
    simp only [EV, lift_some, R.bind_ok, R.s_ok, R.s_exc, w_noExc_ok, List.getElem?_cons_zero, List.getElem?_cons_succ, List.getElem?_nil, List.set_cons_zero, List.set_cons_succ, List.map_cons, List.map_nil, List.length_cons, List.length_nil, List.cons_append, List.nil_append, getV, getO, wipeE, startE, List.replicate, Nat.reduceAdd, Nat.reduceSub, Nat.reduceLT, Nat.reduceLeDiff, if_true, if_false, Bool.false_eq_true, Bool.true_eq_false, reduceIte, endOf_next, endOf_ret, endOf_exc, decide_true, decide_false, Bool.not_true, Bool.not_false, M_book, M_turn, M_players, M_happened, M_many, M_lit, M_bonus, M_factor, M_double, M_saves, M_warns, M_calm, M_tilted, M_open, M_had, N_many, N_lit, N_lit0, N_bonus, N_factor, N_double, N_saves, N_warns, N_calm, N_tilted, N_open, N_had, m_tell, m_doubled, m_look_for_aim, m_hit, m_look_for_lock, m_award, m_nudge, m_tick, m_is_still, m_set_ball, m_ball, m_state, M_hapL, N_hap, M_me ht, M_pts ht, M_left ht, M_ext ht, M_lck ht, M_won ht, N_pts ht, N_left ht, N_ext ht, N_lck ht, N_won ht, c, e, S_book, m_set_ball, Fr', q]
  · simp only [c, if_false]
    refine en_step (ρ' := [.val (.ref st.length), .val (.ref (st.length + 1 + t)), .no, .no, .no]) (st' := SM x st k t ps m) (by simp only [EV, lift_some, R.bind_ok, R.s_ok, R.s_exc, w_noExc_ok, List.getElem?_cons_zero, List.getElem?_cons_succ, List.getElem?_nil, List.set_cons_zero, List.set_cons_succ, List.map_cons, List.map_nil, List.length_cons, List.length_nil, List.cons_append, List.nil_append, getV, getO, wipeE, startE, List.replicate, Nat.reduceAdd, Nat.reduceSub, Nat.reduceLT, Nat.reduceLeDiff, if_true, if_false, Bool.false_eq_true, Bool.true_eq_false, reduceIte, endOf_next, endOf_ret, endOf_exc, decide_true, decide_false, Bool.not_true, Bool.not_false, M_book, M_turn, M_players, M_happened, M_many, M_lit, M_bonus, M_factor, M_double, M_saves, M_warns, M_calm, M_tilted, M_open, M_had, N_many, N_lit, N_lit0, N_bonus, N_factor, N_double, N_saves, N_warns, N_calm, N_tilted, N_open, N_had, m_tell, m_doubled, m_look_for_aim, m_hit, m_look_for_lock, m_award, m_nudge, m_tick, m_is_still, m_set_ball, m_ball, m_state, M_hapL, N_hap, M_me ht, M_pts ht, M_left ht, M_ext ht, M_lck ht, M_won ht, N_pts ht, N_left ht, N_ext ht, N_lck ht, N_won ht, c]) ?_
    refine en_step (ρ' := [.val (.ref st.length), .val (.ref (st.length + 1 + t)), .val (.int ps.length), .no, .no]) (st' := SM x st k t ps m) (by
      have : biD .len (SM x st k t ps m) [.lst (refs (st.length + 1) ps.length)] = some (.int ps.length) := by simp [biD, view_lst, refs]
      simp only [EV, lift_some, R.bind_ok, R.s_ok, R.s_exc, w_noExc_ok, List.getElem?_cons_zero, List.getElem?_cons_succ, List.getElem?_nil, List.set_cons_zero, List.set_cons_succ, List.map_cons, List.map_nil, List.length_cons, List.length_nil, List.cons_append, List.nil_append, getV, getO, wipeE, startE, List.replicate, Nat.reduceAdd, Nat.reduceSub, Nat.reduceLT, Nat.reduceLeDiff, if_true, if_false, Bool.false_eq_true, Bool.true_eq_false, reduceIte, endOf_next, endOf_ret, endOf_exc, decide_true, decide_false, Bool.not_true, Bool.not_false, M_book, M_turn, M_players, M_happened, M_many, M_lit, M_bonus, M_factor, M_double, M_saves, M_warns, M_calm, M_tilted, M_open, M_had, N_many, N_lit, N_lit0, N_bonus, N_factor, N_double, N_saves, N_warns, N_calm, N_tilted, N_open, N_had, m_tell, m_doubled, m_look_for_aim, m_hit, m_look_for_lock, m_award, m_nudge, m_tick, m_is_still, m_set_ball, m_ball, m_state, M_hapL, N_hap, M_me ht, M_pts ht, M_left ht, M_ext ht, M_lck ht, M_won ht, N_pts ht, N_left ht, N_ext ht, N_lck ht, N_won ht, this]) ?_
    unfold SM
    generalize ps.set t m.q = qs at hl hq ⊢
    have hi : evI Φ (.rng2 (.con (.int 1)) (.bin .add (.var 2) (.con (.int 1)))) [.val (.ref st.length), .val (.ref (st.length + 1 + t)), .val (.int ps.length), .no, .no] (S x st k (.int t) qs m.b (m.h.map fun w : Word => eTold (t, w.1, w.2)))
        = .ok ((List.range ps.length).map fun j : Nat => D.int (1 + (j : Nat)), fun _ => true) (S x st k (.int t) qs m.b (m.h.map fun w : Word => eTold (t, w.1, w.2))) := by
      exact it_rng2 (by simp only [EV, lift_some, R.bind_ok, R.s_ok, R.s_exc, w_noExc_ok, List.getElem?_cons_zero, List.getElem?_cons_succ, List.getElem?_nil, List.set_cons_zero, List.set_cons_succ, List.map_cons, List.map_nil, List.length_cons, List.length_nil, List.cons_append, List.nil_append, getV, getO, wipeE, startE, List.replicate, Nat.reduceAdd, Nat.reduceSub, Nat.reduceLT, Nat.reduceLeDiff, if_true, if_false, Bool.false_eq_true, Bool.true_eq_false, reduceIte, endOf_next, endOf_ret, endOf_exc, decide_true, decide_false, Bool.not_true, Bool.not_false]; rfl) (by simp only [EV, lift_some, R.bind_ok, R.s_ok, R.s_exc, w_noExc_ok, List.getElem?_cons_zero, List.getElem?_cons_succ, List.getElem?_nil, List.set_cons_zero, List.set_cons_succ, List.map_cons, List.map_nil, List.length_cons, List.length_nil, List.cons_append, List.nil_append, getV, getO, wipeE, startE, List.replicate, Nat.reduceAdd, Nat.reduceSub, Nat.reduceLT, Nat.reduceLeDiff, if_true, if_false, Bool.false_eq_true, Bool.true_eq_false, reduceIte, endOf_next, endOf_ret, endOf_exc, decide_true, decide_false, Bool.not_true, Bool.not_false]) (rng1_ok hp) (by omega)
    have Q := for_find (Φ := Φ) (ρ := [.val (.ref st.length), .val (.ref (st.length + 1 + t)), .val (.int ps.length), .no, .no]) (fun j : Nat => D.int (1 + (j : Nat))) (tg := .nm 3) (body := (.cons (.asg (.nm 4) (.bin .mod (.bin .add (.fld (.var 0) s_turn) (.var 3)) (.var 2))) (.cons (.ife (.cmp .gt (.idx (.idx (.fld (.var 0) s_players) (.var 4)) (.con (.int 1))) (.con (.int 0))) (.cons (.asg (.sb (.idx (.fld (.var 0) s_players) (.var 4)) (.con (.int 1))) (.bin .sub (.idx (.idx (.fld (.var 0) s_players) (.var 4)) (.con (.int 1))) (.con (.int 1)))) (.cons (.asg (.fl (.var 0) s_turn) (.var 4)) (.cons (.expr (.meth x.i_Play_set_ball x.i_Play_init s_set_ball (.var 0) (.cons (.call x.i_fresh (.cons (.fld (.var 0) s_book) .nil)) .nil))) (.cons (.ret (.con (.non))) .nil)))) .nil) .nil)))
      (List.range ps.length) (okf := fun _ => true) (fun ρ => ∃ a b, ρ = [.val (.ref st.length), .val (.ref (st.length + 1 + t)), .val (.int ps.length), a, b]) (fun j => decide (0 < (qs.getD ((t + (j + 1)) % ps.length) default).left)) (fun _ => .non)
      (fun j => S x st k (.int ((t + (j + 1)) % ps.length : Nat)) (qs.set ((t + (j + 1)) % ps.length) { qs.getD ((t + (j + 1)) % ps.length) default with left := (qs.getD ((t + (j + 1)) % ps.length) default).left - 1 }) (fresh k) (m.h.map fun w : Word => eTold (t, w.1, w.2)))
      hi rfl ⟨_, _, rfl⟩ (by
        rintro j hj ρ ⟨a, b, rfl⟩ h
        have hn : 0 < (ps.length : Int) := by omega
        have ho : (t + (j + 1)) % ps.length < qs.length := by rw [hl]; exact Nat.mod_lt _ (by omega)
        have e : ((t : Int) + (1 + (j : Int))) % (ps.length : Int) = (((t + (j + 1)) % ps.length : Nat) : Int) := by
          rw [show (t : Int) + (1 + (j : Int)) = ((t + (j + 1) : Nat) : Int) by omega]
          rfl
        simp only [decide_eq_false_iff_not] at h
        refine ⟨[.val (.ref st.length), .val (.ref (st.length + 1 + t)), .val (.int ps.length), .val (.int (1 + (j : Int))), .val (.int (((t + (j + 1)) % ps.length : Nat) : Int))], ?_, _, _, rfl⟩
        simp only [EV, lift_some, R.bind_ok, R.s_ok, R.s_exc, w_noExc_ok, List.getElem?_cons_zero, List.getElem?_cons_succ, List.getElem?_nil, List.set_cons_zero, List.set_cons_succ, List.map_cons, List.map_nil, List.length_cons, List.length_nil, List.cons_append, List.nil_append, getV, getO, wipeE, startE, List.replicate, Nat.reduceAdd, Nat.reduceSub, Nat.reduceLT, Nat.reduceLeDiff, if_true, if_false, Bool.false_eq_true, Bool.true_eq_false, reduceIte, endOf_next, endOf_ret, endOf_exc, decide_true, decide_false, Bool.not_true, Bool.not_false, S_turn, S_players, o_mod hn, e, S_at ho, S_left ho, h]) (by
        rintro j hj ρ ⟨a, b, rfl⟩ h
        have hn : 0 < (ps.length : Int) := by omega
        have ho : (t + (j + 1)) % ps.length < qs.length := by rw [hl]; exact Nat.mod_lt _ (by omega)
        have e : ((t : Int) + (1 + (j : Int))) % (ps.length : Int) = (((t + (j + 1)) % ps.length : Nat) : Int) := by
          rw [show (t : Int) + (1 + (j : Int)) = ((t + (j + 1) : Nat) : Int) by omega]
          rfl
        simp only [decide_eq_true_eq] at h
        generalize (t + (j + 1)) % ps.length = o at ho e h ⊢
        have q := set_ball_S (x := x) (st := st) (k := k) (tu := .int o) (ps := qs.set o { qs.getD o default with left := (qs.getD o default).left - 1 }) (b := m.b) (h := m.h.map fun w : Word => eTold (t, w.1, w.2)) Sb (fresh k)
        simp only [EV, lift_some, R.bind_ok, R.s_ok, R.s_exc, w_noExc_ok, List.getElem?_cons_zero, List.getElem?_cons_succ, List.getElem?_nil, List.set_cons_zero, List.set_cons_succ, List.map_cons, List.map_nil, List.length_cons, List.length_nil, List.cons_append, List.nil_append, getV, getO, wipeE, startE, List.replicate, Nat.reduceAdd, Nat.reduceSub, Nat.reduceLT, Nat.reduceLeDiff, if_true, if_false, Bool.false_eq_true, Bool.true_eq_false, reduceIte, endOf_next, endOf_ret, endOf_exc, decide_true, decide_false, Bool.not_true, Bool.not_false, S_turn, S_players, o_mod hn, e, S_at ho, S_left ho, h, W_left ho, W_turn, S_book, m_set_ball, Fr', q])
    have en : nextOf qs t = ((List.range ps.length).find? fun j => decide (0 < (qs.getD ((t + (j + 1)) % ps.length) default).left)).map fun j => (t + (j + 1)) % ps.length := by
      unfold nextOf
      rw [hl, List.find?_map]
      rfl
    rw [en]
    cases hf : (List.range ps.length).find? fun j => decide (0 < (qs.getD ((t + (j + 1)) % ps.length) default).left) with
    | some j =>
      simp only [hf] at Q
      simp only [Option.map_some]
      exact en_ret Q
    | none =>
      simp only [hf] at Q
      obtain ⟨ρ', Q, a, b, rfl⟩ := Q
      simp only [Option.map_none]
      refine en_step Q ?_
      have hqs : qs.set t m.q = qs := by
        rw [← hq]
        apply List.ext_getElem (by simp)
        intro i h1 h2
        rw [List.getElem_set]
        split
        · rename_i h
          subst h
          simp [h2]
        · rfl
      have eS : S x st k (.int t) qs m.b (m.h.map fun w : Word => eTold (t, w.1, w.2)) = SM x st k t qs m := by
        unfold SM
        rw [hqs]
      have T1 := T st k t qs m s_over 0 (by rw [hl]; exact ht) hh
      have eT1 : SM x st k t qs (tell m s_over 0) = S x st k (.int t) qs m.b ((m.h ++ [(s_over, 0)]).map fun w : Word => eTold (t, w.1, w.2)) := by
        simp only [SM, tell, Int.add_zero]
        rw [hqs]
      rw [eT1] at T1
      simp only [EV, lift_some, R.bind_ok, R.s_ok, R.s_exc, w_noExc_ok, List.getElem?_cons_zero, List.getElem?_cons_succ, List.getElem?_nil, List.set_cons_zero, List.set_cons_succ, List.map_cons, List.map_nil, List.length_cons, List.length_nil, List.cons_append, List.nil_append, getV, getO, wipeE, startE, List.replicate, Nat.reduceAdd, Nat.reduceSub, Nat.reduceLT, Nat.reduceLeDiff, if_true, if_false, Bool.false_eq_true, Bool.true_eq_false, reduceIte, endOf_next, endOf_ret, endOf_exc, decide_true, decide_false, Bool.not_true, Bool.not_false, eS, m_tell, T1, W_turn]
end Bt


set_option Elab.async false
set_option linter.all false
set_option maxRecDepth 100000
set_option maxHeartbeats 4000000
/-! A ball is lost; a step; rows of steps; and all put together. -/
namespace Bt
open PySem P B
set_option autoImplicit false
variable {x : Ix} {Φ : Phi} {st : Store} {k : Book} {tu : D} {ps : List Pl} {b : Ball} {h : List D} {t : Nat} {m : M} {ρ : Slots}
def SpDrain (x : Ix) (Φ : Phi) : Prop := ∀ (st : Store) (k : Book) (t : Nat) (ps : List Pl) (m : M), t < ps.length → ps.length < 1000 → m.h.length < 900 → -1000 < m.b.factor → m.b.factor < 1000 →
  Φ x.i_drain [.ref st.length] (SM x st k t ps m) = .ok .non (if (lost k m).2 then SE x st k t ps (lost k m).1 else SM x st k t ps (lost k m).1)
theorem aimed_h (k : Book) (m : M) : (aimed k m).h.length ≤ m.h.length + 1 := by
  unfold aimed
  split
  · split
    · rw [tell_h]; exact Nat.le_refl _
    · omega
  · omega
theorem drain_run (T : SpTell x Φ) (Am : SpAimed x Φ) (Nx : SpNext x Φ) (ht : t < ps.length) (hp : ps.length < 1000) (hh : m.h.length < 900) (f1 : -1000 < m.b.factor) (f2 : m.b.factor < 1000) :
    endOf (evSs Φ (d_drain x) (startE 1 [.ref st.length]) (SM x st k t ps m)) = .ok .non (if (lost k m).2 then SE x st k t ps (lost k m).1 else SM x st k t ps (lost k m).1) := by
  unfold d_drain lost
  by_cases c1 : 0 < m.b.saves
  · have T1 := T st k t ps { m with b := { m.b with saves := 0 } } s_saved 0 ht (by show m.h.length < 1000; omega)
    simp only [EV, lift_some, R.bind_ok, R.s_ok, R.s_exc, w_noExc_ok, List.getElem?_cons_zero, List.getElem?_cons_succ, List.getElem?_nil, List.set_cons_zero, List.set_cons_succ, List.map_cons, List.map_nil, List.length_cons, List.length_nil, List.cons_append, List.nil_append, getV, getO, wipeE, startE, List.replicate, Nat.reduceAdd, Nat.reduceSub, Nat.reduceLT, Nat.reduceLeDiff, if_true, if_false, Bool.false_eq_true, Bool.true_eq_false, reduceIte, endOf_next, endOf_ret, endOf_exc, decide_true, decide_false, Bool.not_true, Bool.not_false, M_book, M_turn, M_players, M_happened, M_many, M_lit, M_bonus, M_factor, M_double, M_saves, M_warns, M_calm, M_tilted, M_open, M_had, N_many, N_lit, N_lit0, N_bonus, N_factor, N_double, N_saves, N_warns, N_calm, N_tilted, N_open, N_had, m_tell, m_doubled, m_look_for_aim, m_hit, m_look_for_lock, m_award, m_nudge, m_tick, m_is_still, m_set_ball, m_ball, m_state, M_hapL, N_hap, M_me ht, M_pts ht, M_left ht, M_ext ht, M_lck ht, M_won ht, N_pts ht, N_left ht, N_ext ht, N_lck ht, N_won ht, c1, T1]
  · by_cases c2 : m.b.many - 1 = 0
    · simp only [c1, if_false]
      refine en_step (ρ' := [.val (.ref st.length)]) (st' := SM x st k t ps m) (by simp only [EV, lift_some, R.bind_ok, R.s_ok, R.s_exc, w_noExc_ok, List.getElem?_cons_zero, List.getElem?_cons_succ, List.getElem?_nil, List.set_cons_zero, List.set_cons_succ, List.map_cons, List.map_nil, List.length_cons, List.length_nil, List.cons_append, List.nil_append, getV, getO, wipeE, startE, List.replicate, Nat.reduceAdd, Nat.reduceSub, Nat.reduceLT, Nat.reduceLeDiff, if_true, if_false, Bool.false_eq_true, Bool.true_eq_false, reduceIte, endOf_next, endOf_ret, endOf_exc, decide_true, decide_false, Bool.not_true, Bool.not_false, M_book, M_turn, M_players, M_happened, M_many, M_lit, M_bonus, M_factor, M_double, M_saves, M_warns, M_calm, M_tilted, M_open, M_had, N_many, N_lit, N_lit0, N_bonus, N_factor, N_double, N_saves, N_warns, N_calm, N_tilted, N_open, N_had, m_tell, m_doubled, m_look_for_aim, m_hit, m_look_for_lock, m_award, m_nudge, m_tick, m_is_still, m_set_ball, m_ball, m_state, M_hapL, N_hap, M_me ht, M_pts ht, M_left ht, M_ext ht, M_lck ht, M_won ht, N_pts ht, N_left ht, N_ext ht, N_lck ht, N_won ht, c1]) ?_
      refine en_step (ρ' := [.val (.ref st.length)]) (st' := SM x st k t ps { m with b := { m.b with many := m.b.many - 1 } }) (by simp only [EV, lift_some, R.bind_ok, R.s_ok, R.s_exc, w_noExc_ok, List.getElem?_cons_zero, List.getElem?_cons_succ, List.getElem?_nil, List.set_cons_zero, List.set_cons_succ, List.map_cons, List.map_nil, List.length_cons, List.length_nil, List.cons_append, List.nil_append, getV, getO, wipeE, startE, List.replicate, Nat.reduceAdd, Nat.reduceSub, Nat.reduceLT, Nat.reduceLeDiff, if_true, if_false, Bool.false_eq_true, Bool.true_eq_false, reduceIte, endOf_next, endOf_ret, endOf_exc, decide_true, decide_false, Bool.not_true, Bool.not_false, M_book, M_turn, M_players, M_happened, M_many, M_lit, M_bonus, M_factor, M_double, M_saves, M_warns, M_calm, M_tilted, M_open, M_had, N_many, N_lit, N_lit0, N_bonus, N_factor, N_double, N_saves, N_warns, N_calm, N_tilted, N_open, N_had, m_tell, m_doubled, m_look_for_aim, m_hit, m_look_for_lock, m_award, m_nudge, m_tick, m_is_still, m_set_ball, m_ball, m_state, M_hapL, N_hap, M_me ht, M_pts ht, M_left ht, M_ext ht, M_lck ht, M_won ht, N_pts ht, N_left ht, N_ext ht, N_lck ht, N_won ht]) ?_
      simp only [c2, if_true]
      have hb : ({ m with b := { m.b with many := 0 } } : M).h.length < 900 := hh
      have hm : ({ m with b := { m.b with many := 0 } } : M).b.many = 0 := rfl
      have e0 : ({ m with b := { m.b with many := m.b.many - 1 } } : M) = { m with b := { m.b with many := 0 } } := by rw [c2]
      have hti : ({ m with b := { m.b with many := 0 } } : M).b.tilted = m.b.tilted := rfl
      have hbo : ({ m with b := { m.b with many := 0 } } : M).b.bonus = m.b.bonus := rfl
      have hfa : ({ m with b := { m.b with many := 0 } } : M).b.factor = m.b.factor := rfl
      generalize ({ m with b := { m.b with many := 0 } } : M) = m1 at hb hm hti hbo hfa ⊢
      have e1 : mulOk 10 m.b.bonus = true := mulL
      have e2 : mulOk (10 * m.b.bonus) m.b.factor = true := mulR
      cases c3 : m.b.tilted with
      | true =>
        have T1 := T st k t ps m1 s_end 0 ht (by omega)
        have N1 := Nx st k t ps (tell m1 s_end 0) ht hp (by rw [tell_h]; omega)
        simp only [EV, lift_some, R.bind_ok, R.s_ok, R.s_exc, w_noExc_ok, List.getElem?_cons_zero, List.getElem?_cons_succ, List.getElem?_nil, List.set_cons_zero, List.set_cons_succ, List.map_cons, List.map_nil, List.length_cons, List.length_nil, List.cons_append, List.nil_append, getV, getO, wipeE, startE, List.replicate, Nat.reduceAdd, Nat.reduceSub, Nat.reduceLT, Nat.reduceLeDiff, if_true, if_false, Bool.false_eq_true, Bool.true_eq_false, reduceIte, endOf_next, endOf_ret, endOf_exc, decide_true, decide_false, Bool.not_true, Bool.not_false, M_book, M_turn, M_players, M_happened, M_many, M_lit, M_bonus, M_factor, M_double, M_saves, M_warns, M_calm, M_tilted, M_open, M_had, N_many, N_lit, N_lit0, N_bonus, N_factor, N_double, N_saves, N_warns, N_calm, N_tilted, N_open, N_had, m_tell, m_doubled, m_look_for_aim, m_hit, m_look_for_lock, m_award, m_nudge, m_tick, m_is_still, m_set_ball, m_ball, m_state, M_hapL, N_hap, M_me ht, M_pts ht, M_left ht, M_ext ht, M_lck ht, M_won ht, N_pts ht, N_left ht, N_ext ht, N_lck ht, N_won ht, hm, hti, hbo, hfa, c3, T1, N1]
      | false =>
        have T0 := T st k t ps m1 s_bonus (10 * m.b.bonus * m.b.factor) ht (by omega)
        have A0 := Am st k t ps (tell m1 s_bonus (10 * m.b.bonus * m.b.factor)) ht (by rw [tell_h]; omega)
        have ah := aimed_h k (tell m1 s_bonus (10 * m.b.bonus * m.b.factor))
        rw [tell_h] at ah
        have T1 := T st k t ps (aimed k (tell m1 s_bonus (10 * m.b.bonus * m.b.factor))) s_end 0 ht (by omega)
        have N1 := Nx st k t ps (tell (aimed k (tell m1 s_bonus (10 * m.b.bonus * m.b.factor))) s_end 0) ht hp (by rw [tell_h]; omega)
        simp only [EV, lift_some, R.bind_ok, R.s_ok, R.s_exc, w_noExc_ok, List.getElem?_cons_zero, List.getElem?_cons_succ, List.getElem?_nil, List.set_cons_zero, List.set_cons_succ, List.map_cons, List.map_nil, List.length_cons, List.length_nil, List.cons_append, List.nil_append, getV, getO, wipeE, startE, List.replicate, Nat.reduceAdd, Nat.reduceSub, Nat.reduceLT, Nat.reduceLeDiff, if_true, if_false, Bool.false_eq_true, Bool.true_eq_false, reduceIte, endOf_next, endOf_ret, endOf_exc, decide_true, decide_false, Bool.not_true, Bool.not_false, M_book, M_turn, M_players, M_happened, M_many, M_lit, M_bonus, M_factor, M_double, M_saves, M_warns, M_calm, M_tilted, M_open, M_had, N_many, N_lit, N_lit0, N_bonus, N_factor, N_double, N_saves, N_warns, N_calm, N_tilted, N_open, N_had, m_tell, m_doubled, m_look_for_aim, m_hit, m_look_for_lock, m_award, m_nudge, m_tick, m_is_still, m_set_ball, m_ball, m_state, M_hapL, N_hap, M_me ht, M_pts ht, M_left ht, M_ext ht, M_lck ht, M_won ht, N_pts ht, N_left ht, N_ext ht, N_lck ht, N_won ht, hm, hti, hbo, hfa, c3, o_mul e1, o_mul e2, T0, A0, T1, N1]
    · simp only [EV, lift_some, R.bind_ok, R.s_ok, R.s_exc, w_noExc_ok, List.getElem?_cons_zero, List.getElem?_cons_succ, List.getElem?_nil, List.set_cons_zero, List.set_cons_succ, List.map_cons, List.map_nil, List.length_cons, List.length_nil, List.cons_append, List.nil_append, getV, getO, wipeE, startE, List.replicate, Nat.reduceAdd, Nat.reduceSub, Nat.reduceLT, Nat.reduceLeDiff, if_true, if_false, Bool.false_eq_true, Bool.true_eq_false, reduceIte, endOf_next, endOf_ret, endOf_exc, decide_true, decide_false, Bool.not_true, Bool.not_false, M_book, M_turn, M_players, M_happened, M_many, M_lit, M_bonus, M_factor, M_double, M_saves, M_warns, M_calm, M_tilted, M_open, M_had, N_many, N_lit, N_lit0, N_bonus, N_factor, N_double, N_saves, N_warns, N_calm, N_tilted, N_open, N_had, m_tell, m_doubled, m_look_for_aim, m_hit, m_look_for_lock, m_award, m_nudge, m_tick, m_is_still, m_set_ball, m_ball, m_state, M_hapL, N_hap, M_me ht, M_pts ht, M_left ht, M_ext ht, M_lck ht, M_won ht, N_pts ht, N_left ht, N_ext ht, N_lck ht, N_won ht, c1, c2]
/-! ### a step -/
def St.ok : St → Prop
  | .on t ps b => t < ps.length ∧ ps.length < 1000 ∧ b.lit.length < 1000 ∧ -1000 < b.factor ∧ b.factor < 1000
  | .over _ => True
def Ev.ok (k : Book) : Ev → Prop
  | .hit n => (k.find n).isSome = true
  | .ticks n => n ≤ 900
  | _ => True
def SpInit (x : Ix) (Φ : Phi) : Prop := ∀ (st : Store) (k : Book) (t : Nat) (ps : List Pl) (b : Ball), Φ x.i_Play_init [.ref st.length, eBook k, eSt (.on t ps b)] (st ++ [.ins x.i_Play_init []]) = .ok .non (S x st k (.int t) ps b [])
def SpState (x : Ix) (Φ : Phi) : Prop := ∀ (st : Store) (k : Book) (t : Nat) (ps : List Pl) (b : Ball) (h : List D), Φ x.i_Play_state [.ref st.length] (S x st k (.int t) ps b h) = .ok (eSt (.on t ps b)) (S x st k (.int t) ps b h)
def SpStateO (x : Ix) (Φ : Phi) : Prop := ∀ (st : Store) (k : Book) (ps : List Pl) (b : Ball) (h : List D), Φ x.i_Play_state [.ref st.length] (S x st k .non ps b h) = .ok (eSt (.over ps)) (S x st k .non ps b h)
def ePairS (r : St × List Told) : D := .tup [eSt r.1, .tup (r.2.map eTold)]
def SpStep (x : Ix) (Φ : Phi) : Prop := ∀ (st : Store) (k : Book) (s : St) (e : Ev), k.bk.length < 100 → s.ok → e.ok k → Φ x.i_step [eBook k, eSt s, eEv e] st = .ok (ePairS (step k s e)) st
theorem S_SM (ht : t < ps.length) : S x st k (.int t) ps b [] = SM x st k t ps ⟨ps.getD t default, b, []⟩ := by
  have : ps.set t (ps.getD t default) = ps := by
    apply List.ext_getElem (by simp)
    intro i h1 h2
    rw [List.getElem_set]
    split
    · rename_i h
      subst h
      simp [h2]
    · rfl
  simp only [SM, this, List.map_nil]
/-- the ticks -/
def tickC (x : Ix) : Ex := .and (.cmp .gt (.var 6) (.con (.int 0))) (.not (.meth x.i_Play_is_still x.i_Play_init s_is_still (.var 3) .nil))
def tickB (x : Ix) : Ss := .cons (.expr (.meth x.i_Play_tick x.i_Play_init s_tick (.var 3) .nil)) (.cons (.asg (.nm 6) (.bin .sub (.var 6) (.con (.int 1)))) .nil)
theorem ticks_loop (Tk : SpTick x Φ) (Sl : SpStill x Φ) {a0 a1 a2 a4 a5 : B.Slot} : ∀ (fuel : Nat) (n : Int) (m : M), n.toNat < fuel → ∃ n', 
    whileL (fun ρ st => evT Φ (tickC x) ρ st) (fun ρ st => evSs Φ (tickB x) ρ st) fuel [a0, a1, a2, .val (.ref st.length), a4, a5, .val (.int n)] (SM x st k t ps m)
      = .ok (.next [a0, a1, a2, .val (.ref st.length), a4, a5, .val (.int n')]) (SM x st k t ps { m with b := tickN n.toNat m.b })
  | 0, n, m, h => by omega
  | fuel + 1, n, m, h => by
    unfold whileL
    have S1 := Sl st k t ps m
    by_cases c : 0 < n
    · obtain ⟨j, hj⟩ : ∃ j, n.toNat = j + 1 := ⟨n.toNat - 1, by omega⟩
      cases c2 : still m.b with
      | true =>
        refine ⟨n, ?_⟩
        rw [hj]
        simp only [tickC, EV, lift_some, R.bind_ok, R.s_ok, R.s_exc, w_noExc_ok, List.getElem?_cons_zero, List.getElem?_cons_succ, List.getElem?_nil, List.set_cons_zero, List.set_cons_succ, List.map_cons, List.map_nil, List.length_cons, List.length_nil, List.cons_append, List.nil_append, getV, getO, wipeE, startE, List.replicate, Nat.reduceAdd, Nat.reduceSub, Nat.reduceLT, Nat.reduceLeDiff, if_true, if_false, Bool.false_eq_true, Bool.true_eq_false, reduceIte, endOf_next, endOf_ret, endOf_exc, decide_true, decide_false, Bool.not_true, Bool.not_false, M_book, M_turn, M_players, M_happened, M_many, M_lit, M_bonus, M_factor, M_double, M_saves, M_warns, M_calm, M_tilted, M_open, M_had, N_many, N_lit, N_lit0, N_bonus, N_factor, N_double, N_saves, N_warns, N_calm, N_tilted, N_open, N_had, m_tell, m_doubled, m_look_for_aim, m_hit, m_look_for_lock, m_award, m_nudge, m_tick, m_is_still, m_set_ball, m_ball, m_state, M_hapL, N_hap, c, S1, c2, tickN]
      | false =>
        obtain ⟨n', ih⟩ := ticks_loop Tk Sl (a0 := a0) (a1 := a1) (a2 := a2) (a4 := a4) (a5 := a5) fuel (n - 1) { m with b := tick m.b } (by omega)
        refine ⟨n', ?_⟩
        have T1 := Tk st k t ps m
        have ej : (n - 1).toNat = j := by omega
        rw [ej] at ih
        rw [hj]
        have eb : evSs Φ (tickB x) [a0, a1, a2, .val (.ref st.length), a4, a5, .val (.int n)] (SM x st k t ps m) = .ok (.next [a0, a1, a2, .val (.ref st.length), a4, a5, .val (.int (n - 1))]) (SM x st k t ps { m with b := tick m.b }) := by
          simp only [tickB, EV, lift_some, R.bind_ok, R.s_ok, R.s_exc, w_noExc_ok, List.getElem?_cons_zero, List.getElem?_cons_succ, List.getElem?_nil, List.set_cons_zero, List.set_cons_succ, List.map_cons, List.map_nil, List.length_cons, List.length_nil, List.cons_append, List.nil_append, getV, getO, wipeE, startE, List.replicate, Nat.reduceAdd, Nat.reduceSub, Nat.reduceLT, Nat.reduceLeDiff, if_true, if_false, Bool.false_eq_true, Bool.true_eq_false, reduceIte, endOf_next, endOf_ret, endOf_exc, decide_true, decide_false, Bool.not_true, Bool.not_false, M_book, M_turn, M_players, M_happened, M_many, M_lit, M_bonus, M_factor, M_double, M_saves, M_warns, M_calm, M_tilted, M_open, M_had, N_many, N_lit, N_lit0, N_bonus, N_factor, N_double, N_saves, N_warns, N_calm, N_tilted, N_open, N_had, m_tell, m_doubled, m_look_for_aim, m_hit, m_look_for_lock, m_award, m_nudge, m_tick, m_is_still, m_set_ball, m_ball, m_state, M_hapL, N_hap, T1]
        have ec : evT Φ (tickC x) [a0, a1, a2, .val (.ref st.length), a4, a5, .val (.int n)] (SM x st k t ps m) = .ok true (SM x st k t ps m) := by
          simp only [tickC, EV, lift_some, R.bind_ok, R.s_ok, R.s_exc, w_noExc_ok, List.getElem?_cons_zero, List.getElem?_cons_succ, List.getElem?_nil, List.set_cons_zero, List.set_cons_succ, List.map_cons, List.map_nil, List.length_cons, List.length_nil, List.cons_append, List.nil_append, getV, getO, wipeE, startE, List.replicate, Nat.reduceAdd, Nat.reduceSub, Nat.reduceLT, Nat.reduceLeDiff, if_true, if_false, Bool.false_eq_true, Bool.true_eq_false, reduceIte, endOf_next, endOf_ret, endOf_exc, decide_true, decide_false, Bool.not_true, Bool.not_false, M_book, M_turn, M_players, M_happened, M_many, M_lit, M_bonus, M_factor, M_double, M_saves, M_warns, M_calm, M_tilted, M_open, M_had, N_many, N_lit, N_lit0, N_bonus, N_factor, N_double, N_saves, N_warns, N_calm, N_tilted, N_open, N_had, m_tell, m_doubled, m_look_for_aim, m_hit, m_look_for_lock, m_award, m_nudge, m_tick, m_is_still, m_set_ball, m_ball, m_state, M_hapL, N_hap, c, S1, c2]
        simp only [ec, R.s_ok, if_true, eb, ih, tickN, c2, Bool.false_eq_true, if_false]
    · refine ⟨n, ?_⟩
      have : n.toNat = 0 := by omega
      rw [this]
      simp only [tickC, EV, lift_some, R.bind_ok, R.s_ok, R.s_exc, w_noExc_ok, List.getElem?_cons_zero, List.getElem?_cons_succ, List.getElem?_nil, List.set_cons_zero, List.set_cons_succ, List.map_cons, List.map_nil, List.length_cons, List.length_nil, List.cons_append, List.nil_append, getV, getO, wipeE, startE, List.replicate, Nat.reduceAdd, Nat.reduceSub, Nat.reduceLT, Nat.reduceLeDiff, if_true, if_false, Bool.false_eq_true, Bool.true_eq_false, reduceIte, endOf_next, endOf_ret, endOf_exc, decide_true, decide_false, Bool.not_true, Bool.not_false, M_book, M_turn, M_players, M_happened, M_many, M_lit, M_bonus, M_factor, M_double, M_saves, M_warns, M_calm, M_tilted, M_open, M_had, N_many, N_lit, N_lit0, N_bonus, N_factor, N_double, N_saves, N_warns, N_calm, N_tilted, N_open, N_had, m_tell, m_doubled, m_look_for_aim, m_hit, m_look_for_lock, m_award, m_nudge, m_tick, m_is_still, m_set_ball, m_ball, m_state, M_hapL, N_hap, c, tickN]
theorem nr_int (n : Nat) (i : Int) : noRef n (.int i) = true := by cases n <;> rfl
theorem nr_str (n : Nat) (i : Str) : noRef n (.str i) = true := by cases n <;> rfl
theorem nr_bl (n : Nat) (i : Bool) : noRef n (.bl i) = true := by cases n <;> rfl
theorem nr_non (n : Nat) : noRef n .non = true := by cases n <;> rfl
theorem nr_tup (n : Nat) (xs : List D) : noRef (n + 1) (.tup xs) = xs.all (noRef n) := rfl
theorem nr_pl (n : Nat) (q : Pl) : noRef (n + 1) (ePl q) = true := by
  simp [ePl, lPl, nr_tup, nr_int, nr_bl]
theorem nr_ball (n : Nat) (b : Ball) : noRef (n + 2) (eBall b) = true := by
  simp [eBall, lBall, nr_tup, nr_int, nr_bl, nr_str]
theorem nr_st (n : Nat) (s : St) : noRef (n + 3) (eSt s) = true := by
  cases s with
  | on t ps b => simp [eSt, nr_tup, nr_int, nr_ball, nr_pl]
  | over ps => simp [eSt, nr_tup, nr_non, nr_pl]
theorem nr_told (n : Nat) (w : Told) : noRef (n + 1) (eTold w) = true := by
  simp [eTold, nr_tup, nr_int, nr_str]
theorem nr_step (r : St × List Told) : noRef 60 (ePairS r) = true := by
  show noRef (59 + 1) (.tup [eSt r.1, .tup (r.2.map eTold)]) = true
  rw [nr_tup]
  simp only [List.all_cons, List.all_nil, Bool.and_true, Bool.and_eq_true]
  refine ⟨nr_st 56 _, ?_⟩
  rw [nr_tup 58]
  simp only [List.all_map, List.all_eq_true]
  intro w _
  exact nr_told 57 w
theorem S_take : (S x st k tu ps b h).take st.length = st := by simp [S]
theorem hap_tup : biD .tuple (S x st k tu ps b h) [.ref (st.length + 1 + ps.length)] = some (.tup h) := by
  simp only [biD, seqOf, view, S_hap, Option.map_some]
/-- behind the event -/
theorem step_end (Sa : SpState x Φ) (So : SpStateO x Φ) {a0 a1 a2 a4 a5 a6 : B.Slot} {r : M × Bool} (hr : True) :
    ∃ T : Store, T.take st.length = st ∧ endOf (evSs Φ (.cons (.ret (.tup (.cons (.meth x.i_Play_state x.i_Play_init s_state (.var 3) .nil) (.cons (.blt .tuple (.cons (.fld (.var 3) s_happened) .nil)) .nil)))) .nil) [a0, a1, a2, .val (.ref st.length), a4, a5, a6] (if r.2 then SE x st k t ps r.1 else SM x st k t ps r.1))
      = .ok (ePairS (if r.2 then ended k t ps r.1 else fin t ps r.1)) T := by
  cases h2 : r.2 with
  | false =>
    refine ⟨SM x st k t ps r.1, by unfold SM; exact S_take, ?_⟩
    simp only [SM, EV, lift_some, R.bind_ok, R.s_ok, R.s_exc, w_noExc_ok, List.getElem?_cons_zero, List.getElem?_cons_succ, List.getElem?_nil, List.set_cons_zero, List.set_cons_succ, List.map_cons, List.map_nil, List.length_cons, List.length_nil, List.cons_append, List.nil_append, getV, getO, wipeE, startE, List.replicate, Nat.reduceAdd, Nat.reduceSub, Nat.reduceLT, Nat.reduceLeDiff, if_true, if_false, Bool.false_eq_true, Bool.true_eq_false, reduceIte, endOf_next, endOf_ret, endOf_exc, decide_true, decide_false, Bool.not_true, Bool.not_false, m_state, Sa st k t (ps.set t r.1.q), S_happened, hap_tup, fin, ePairS, told, List.map_map]
    rfl
  | true =>
    refine ⟨SE x st k t ps r.1, ?_, ?_⟩
    · unfold SE
      split <;> exact S_take
    · simp only [if_true]
      unfold SE ended
      cases hp : pass k t (ps.set t r.1.q) with
      | on o ps' b' =>
        simp only [EV, lift_some, R.bind_ok, R.s_ok, R.s_exc, w_noExc_ok, List.getElem?_cons_zero, List.getElem?_cons_succ, List.getElem?_nil, List.set_cons_zero, List.set_cons_succ, List.map_cons, List.map_nil, List.length_cons, List.length_nil, List.cons_append, List.nil_append, getV, getO, wipeE, startE, List.replicate, Nat.reduceAdd, Nat.reduceSub, Nat.reduceLT, Nat.reduceLeDiff, if_true, if_false, Bool.false_eq_true, Bool.true_eq_false, reduceIte, endOf_next, endOf_ret, endOf_exc, decide_true, decide_false, Bool.not_true, Bool.not_false, m_state, Sa st k o ps', S_happened, hap_tup, ePairS, told, hp, St.isOver, List.append_nil, List.map_map]
        rfl
      | over ps' =>
        simp only [EV, lift_some, R.bind_ok, R.s_ok, R.s_exc, w_noExc_ok, List.getElem?_cons_zero, List.getElem?_cons_succ, List.getElem?_nil, List.set_cons_zero, List.set_cons_succ, List.map_cons, List.map_nil, List.length_cons, List.length_nil, List.cons_append, List.nil_append, getV, getO, wipeE, startE, List.replicate, Nat.reduceAdd, Nat.reduceSub, Nat.reduceLT, Nat.reduceLeDiff, if_true, if_false, Bool.false_eq_true, Bool.true_eq_false, reduceIte, endOf_next, endOf_ret, endOf_exc, decide_true, decide_false, Bool.not_true, Bool.not_false, m_state, So st k ps', S_happened, hap_tup, ePairS, told, hp, St.isOver, List.map_map]
        rfl
theorem step_over (Ov : SpOver x Φ) (ps : List Pl) (e : Ev) : endOf (evSs Φ (d_step x) (startE 7 [eBook k, eSt (.over ps), eEv e]) st) = .ok (ePairS (step k (.over ps) e)) st := by
  unfold d_step
  simp only [EV, lift_some, R.bind_ok, R.s_ok, R.s_exc, w_noExc_ok, List.getElem?_cons_zero, List.getElem?_cons_succ, List.getElem?_nil, List.set_cons_zero, List.set_cons_succ, List.map_cons, List.map_nil, List.length_cons, List.length_nil, List.cons_append, List.nil_append, getV, getO, wipeE, startE, List.replicate, Nat.reduceAdd, Nat.reduceSub, Nat.reduceLT, Nat.reduceLeDiff, if_true, if_false, Bool.false_eq_true, Bool.true_eq_false, reduceIte, endOf_next, endOf_ret, endOf_exc, decide_true, decide_false, Bool.not_true, Bool.not_false, Ov st, St.isOver]
  rfl
theorem step_on (Ov : SpOver x Φ) (In : SpInit x Φ) (Ht : SpHit x Φ) (Tg : SpTarget x Φ) (Dr : SpDrain x Φ) (Nu : SpNudge x Φ) (Tk : SpTick x Φ) (Sl : SpStill x Φ) (Sa : SpState x Φ) (So : SpStateO x Φ)
    (hb : k.bk.length < 100) (hs : (St.on t ps b).ok) (e : Ev) (he : e.ok k) :
    ∃ T : Store, T.take st.length = st ∧ endOf (evSs Φ (d_step x) (startE 7 [eBook k, eSt (.on t ps b), eEv e]) st) = .ok (ePairS (step k (.on t ps b) e)) T := by
  obtain ⟨ht, hp, hl, f1, f2⟩ := hs
  unfold d_step step
  have In' := In st k t ps b
  have e0 := S_SM (x := x) (st := st) (k := k) (b := b) ht
  rw [e0] at In'
  -- what the event does
  suffices hm : ∃ a4 a5 a6, evSs Φ (.cons (.ife (.call x.i_is_over (.cons (.var 1) .nil)) (.cons (.ret (.tup (.cons (.var 1) (.cons (.tup .nil) .nil)))) .nil) .nil) (.cons (.asg (.nm 3) (.make x.i_Play_init (.cons (.var 0) (.cons (.var 1) .nil)))) (.cons (.asg (.tp (.cons (.nm 4) (.cons (.nm 5) .nil))) (.var 2)) (.cons (.ife (.cmp .eq (.var 4) (.con (.str s_hit))) (.cons (.ife (.not (.fld (.var 3) s_is_tilted)) (.cons (.expr (.meth x.i_Play_hit x.i_Play_init s_hit (.var 3) (.cons (.call x.i_target_of (.cons (.var 0) (.cons (.var 5) .nil))) .nil))) .nil) .nil) .nil) (.cons (.ife (.cmp .eq (.var 4) (.con (.str s_drain))) (.cons (.expr (.call x.i_drain (.cons (.var 3) .nil))) .nil) (.cons (.ife (.cmp .eq (.var 4) (.con (.str s_nudge))) (.cons (.ife (.not (.fld (.var 3) s_is_tilted)) (.cons (.expr (.meth x.i_Play_nudge x.i_Play_init s_nudge (.var 3) .nil)) .nil) .nil) .nil) (.cons (.asg (.nm 6) (.var 5)) (.cons (.whil 1000 (tickC x) (tickB x)) .nil))) .nil)) .nil)) .nil)))) (startE 7 [eBook k, eSt (.on t ps b), eEv e]) st
      = .ok (.next [.val (eBook k), .val (eSt (.on t ps b)), .val (eEv e), .val (.ref st.length), a4, a5, a6]) (if (act k ⟨ps.getD t default, b, []⟩ e).2 then SE x st k t ps (act k ⟨ps.getD t default, b, []⟩ e).1 else SM x st k t ps (act k ⟨ps.getD t default, b, []⟩ e).1) by
    obtain ⟨a4, a5, a6, hm⟩ := hm
    obtain ⟨T, hT, hz⟩ := step_end (x := x) (st := st) (k := k) (t := t) (ps := ps) Sa So (a0 := .val (eBook k)) (a1 := .val (eSt (.on t ps b))) (a2 := .val (eEv e)) (a4 := a4) (a5 := a5) (a6 := a6) (r := act k ⟨ps.getD t default, b, []⟩ e) trivial
    refine ⟨T, hT, ?_⟩
    rw [← hz]
    have split : ∀ (s1 s2 s3 s4 s5 : Sm) (ρ ρ' : Slots) (st st' : Store), evSs Φ (.cons s1 (.cons s2 (.cons s3 (.cons s4 .nil)))) ρ st = .ok (.next ρ') st' → evSs Φ (.cons s1 (.cons s2 (.cons s3 (.cons s4 (.cons s5 .nil))))) ρ st = evSs Φ (.cons s5 .nil) ρ' st' := by
      intro s1 s2 s3 s4 s5 ρ ρ' st st' h
      have q : ∀ (X : RS) (f g : Slots → Store → RS) (Y : RS), X.bind f = .ok (.next ρ') st' → (∀ ρ1 st1, f ρ1 st1 = .ok (.next ρ') st' → g ρ1 st1 = Y) → X.bind g = Y := by
        intro X f g Y h1 h2
        match X, h1 with
        | .ok (.next ρ1) st1, h1 => exact h2 ρ1 st1 h1
      simp only [evSs] at h ⊢
      refine q _ _ _ _ h fun ρ1 st1 h => ?_
      refine q _ _ _ _ h fun ρ1 st1 h => ?_
      refine q _ _ _ _ h fun ρ1 st1 h => ?_
      refine q _ _ _ _ h fun ρ1 st1 h => ?_
      injection h with h1 h2
      injection h1 with h1
      rw [h1, h2]
    exact congrArg endOf (split _ _ _ _ _ _ _ _ _ hm)
  have hmk : ∀ a3 a4 a5 a6, evS Φ (.asg (.nm 3) (.make x.i_Play_init (.cons (.var 0) (.cons (.var 1) .nil)))) [.val (eBook k), .val (eSt (.on t ps b)), .val (eEv e), a3, a4, a5, a6] st = .ok (.next [.val (eBook k), .val (eSt (.on t ps b)), .val (eEv e), .val (.ref st.length), a4, a5, a6]) (SM x st k t ps ⟨ps.getD t default, b, []⟩) := by
    intro a3 a4 a5 a6
    simp only [EV, lift_some, R.bind_ok, R.s_ok, R.s_exc, w_noExc_ok, List.getElem?_cons_zero, List.getElem?_cons_succ, List.getElem?_nil, List.set_cons_zero, List.set_cons_succ, List.map_cons, List.map_nil, List.length_cons, List.length_nil, List.cons_append, List.nil_append, getV, getO, wipeE, startE, List.replicate, Nat.reduceAdd, Nat.reduceSub, Nat.reduceLT, Nat.reduceLeDiff, if_true, if_false, Bool.false_eq_true, Bool.true_eq_false, reduceIte, endOf_next, endOf_ret, endOf_exc, decide_true, decide_false, Bool.not_true, Bool.not_false, In']
  have hh : (⟨ps.getD t default, b, []⟩ : M).h.length = 0 := rfl
  have hbm : (⟨ps.getD t default, b, []⟩ : M).b = b := rfl
  generalize (⟨ps.getD t default, b, []⟩ : M) = m0 at hmk hh hbm ⊢
  have d1 : s_drain ≠ s_hit := by decide +kernel
  have d2 : s_nudge ≠ s_hit := by decide +kernel
  have d3 : s_ticks ≠ s_hit := by decide +kernel
  have d4 : s_nudge ≠ s_drain := by decide +kernel
  have d5 : s_ticks ≠ s_drain := by decide +kernel
  have d6 : s_ticks ≠ s_nudge := by decide +kernel
  have ov : evS Φ (.ife (.call x.i_is_over (.cons (.var 1) .nil)) (.cons (.ret (.tup (.cons (.var 1) (.cons (.tup .nil) .nil)))) .nil) .nil) (startE 7 [eBook k, eSt (.on t ps b), eEv e]) st = .ok (.next [.val (eBook k), .val (eSt (.on t ps b)), .val (eEv e), .no, .no, .no, .no]) st := by
    simp only [EV, lift_some, R.bind_ok, R.s_ok, R.s_exc, w_noExc_ok, List.getElem?_cons_zero, List.getElem?_cons_succ, List.getElem?_nil, List.set_cons_zero, List.set_cons_succ, List.map_cons, List.map_nil, List.length_cons, List.length_nil, List.cons_append, List.nil_append, getV, getO, wipeE, startE, List.replicate, Nat.reduceAdd, Nat.reduceSub, Nat.reduceLT, Nat.reduceLeDiff, if_true, if_false, Bool.false_eq_true, Bool.true_eq_false, reduceIte, endOf_next, endOf_ret, endOf_exc, decide_true, decide_false, Bool.not_true, Bool.not_false, Ov st, St.isOver]
  cases e with
  | hit n =>
    obtain ⟨g, hg⟩ := Option.isSome_iff_exists.mp he
    refine ⟨.val (.str s_hit), .val (.str n), .no, ss_step ov (ss_step (hmk _ _ _ _) ?_)⟩
    have T1 := fun st => Tg st k n g hg
    have H1 := Ht st k t ps m0 g ht (by omega) (by rw [hbm]; exact hl) hb
    cases c : m0.b.tilted with
    | true => simp only [EV, lift_some, R.bind_ok, R.s_ok, R.s_exc, w_noExc_ok, List.getElem?_cons_zero, List.getElem?_cons_succ, List.getElem?_nil, List.set_cons_zero, List.set_cons_succ, List.map_cons, List.map_nil, List.length_cons, List.length_nil, List.cons_append, List.nil_append, getV, getO, wipeE, startE, List.replicate, Nat.reduceAdd, Nat.reduceSub, Nat.reduceLT, Nat.reduceLeDiff, if_true, if_false, Bool.false_eq_true, Bool.true_eq_false, reduceIte, endOf_next, endOf_ret, endOf_exc, decide_true, decide_false, Bool.not_true, Bool.not_false, M_book, M_turn, M_players, M_happened, M_many, M_lit, M_bonus, M_factor, M_double, M_saves, M_warns, M_calm, M_tilted, M_open, M_had, N_many, N_lit, N_lit0, N_bonus, N_factor, N_double, N_saves, N_warns, N_calm, N_tilted, N_open, N_had, m_tell, m_doubled, m_look_for_aim, m_hit, m_look_for_lock, m_award, m_nudge, m_tick, m_is_still, m_set_ball, m_ball, m_state, M_hapL, N_hap, eEv, c, act]
    | false => simp only [EV, lift_some, R.bind_ok, R.s_ok, R.s_exc, w_noExc_ok, List.getElem?_cons_zero, List.getElem?_cons_succ, List.getElem?_nil, List.set_cons_zero, List.set_cons_succ, List.map_cons, List.map_nil, List.length_cons, List.length_nil, List.cons_append, List.nil_append, getV, getO, wipeE, startE, List.replicate, Nat.reduceAdd, Nat.reduceSub, Nat.reduceLT, Nat.reduceLeDiff, if_true, if_false, Bool.false_eq_true, Bool.true_eq_false, reduceIte, endOf_next, endOf_ret, endOf_exc, decide_true, decide_false, Bool.not_true, Bool.not_false, M_book, M_turn, M_players, M_happened, M_many, M_lit, M_bonus, M_factor, M_double, M_saves, M_warns, M_calm, M_tilted, M_open, M_had, N_many, N_lit, N_lit0, N_bonus, N_factor, N_double, N_saves, N_warns, N_calm, N_tilted, N_open, N_had, m_tell, m_doubled, m_look_for_aim, m_hit, m_look_for_lock, m_award, m_nudge, m_tick, m_is_still, m_set_ball, m_ball, m_state, M_hapL, N_hap, eEv, c, act, T1, H1, hg]
  | drain =>
    refine ⟨.val (.str s_drain), .val .non, .no, ss_step ov (ss_step (hmk _ _ _ _) ?_)⟩
    have D1 := Dr st k t ps m0 ht hp (by omega) (by rw [hbm]; exact f1) (by rw [hbm]; exact f2)
    simp only [EV, lift_some, R.bind_ok, R.s_ok, R.s_exc, w_noExc_ok, List.getElem?_cons_zero, List.getElem?_cons_succ, List.getElem?_nil, List.set_cons_zero, List.set_cons_succ, List.map_cons, List.map_nil, List.length_cons, List.length_nil, List.cons_append, List.nil_append, getV, getO, wipeE, startE, List.replicate, Nat.reduceAdd, Nat.reduceSub, Nat.reduceLT, Nat.reduceLeDiff, if_true, if_false, Bool.false_eq_true, Bool.true_eq_false, reduceIte, endOf_next, endOf_ret, endOf_exc, decide_true, decide_false, Bool.not_true, Bool.not_false, M_book, M_turn, M_players, M_happened, M_many, M_lit, M_bonus, M_factor, M_double, M_saves, M_warns, M_calm, M_tilted, M_open, M_had, N_many, N_lit, N_lit0, N_bonus, N_factor, N_double, N_saves, N_warns, N_calm, N_tilted, N_open, N_had, m_tell, m_doubled, m_look_for_aim, m_hit, m_look_for_lock, m_award, m_nudge, m_tick, m_is_still, m_set_ball, m_ball, m_state, M_hapL, N_hap, eEv, d1, act, D1]
    rfl
  | nudge =>
    refine ⟨.val (.str s_nudge), .val .non, .no, ss_step ov (ss_step (hmk _ _ _ _) ?_)⟩
    have N1 := Nu st k t ps m0 ht (by omega)
    cases c : m0.b.tilted with
    | true => simp only [EV, lift_some, R.bind_ok, R.s_ok, R.s_exc, w_noExc_ok, List.getElem?_cons_zero, List.getElem?_cons_succ, List.getElem?_nil, List.set_cons_zero, List.set_cons_succ, List.map_cons, List.map_nil, List.length_cons, List.length_nil, List.cons_append, List.nil_append, getV, getO, wipeE, startE, List.replicate, Nat.reduceAdd, Nat.reduceSub, Nat.reduceLT, Nat.reduceLeDiff, if_true, if_false, Bool.false_eq_true, Bool.true_eq_false, reduceIte, endOf_next, endOf_ret, endOf_exc, decide_true, decide_false, Bool.not_true, Bool.not_false, M_book, M_turn, M_players, M_happened, M_many, M_lit, M_bonus, M_factor, M_double, M_saves, M_warns, M_calm, M_tilted, M_open, M_had, N_many, N_lit, N_lit0, N_bonus, N_factor, N_double, N_saves, N_warns, N_calm, N_tilted, N_open, N_had, m_tell, m_doubled, m_look_for_aim, m_hit, m_look_for_lock, m_award, m_nudge, m_tick, m_is_still, m_set_ball, m_ball, m_state, M_hapL, N_hap, eEv, d2, d4, c, act]
    | false => simp only [EV, lift_some, R.bind_ok, R.s_ok, R.s_exc, w_noExc_ok, List.getElem?_cons_zero, List.getElem?_cons_succ, List.getElem?_nil, List.set_cons_zero, List.set_cons_succ, List.map_cons, List.map_nil, List.length_cons, List.length_nil, List.cons_append, List.nil_append, getV, getO, wipeE, startE, List.replicate, Nat.reduceAdd, Nat.reduceSub, Nat.reduceLT, Nat.reduceLeDiff, if_true, if_false, Bool.false_eq_true, Bool.true_eq_false, reduceIte, endOf_next, endOf_ret, endOf_exc, decide_true, decide_false, Bool.not_true, Bool.not_false, M_book, M_turn, M_players, M_happened, M_many, M_lit, M_bonus, M_factor, M_double, M_saves, M_warns, M_calm, M_tilted, M_open, M_had, N_many, N_lit, N_lit0, N_bonus, N_factor, N_double, N_saves, N_warns, N_calm, N_tilted, N_open, N_had, m_tell, m_doubled, m_look_for_aim, m_hit, m_look_for_lock, m_award, m_nudge, m_tick, m_is_still, m_set_ball, m_ball, m_state, M_hapL, N_hap, eEv, d2, d4, c, act, N1]
  | ticks n =>
    have hn : n ≤ 900 := he
    obtain ⟨n', L⟩ := ticks_loop (x := x) (st := st) (k := k) (t := t) (ps := ps) Tk Sl (a0 := .val (eBook k)) (a1 := .val (eSt (.on t ps b))) (a2 := .val (eEv (.ticks n))) (a4 := .val (.str s_ticks)) (a5 := .val (.int n)) 1000 n m0 (by omega)
    refine ⟨.val (.str s_ticks), .val (.int n), .val (.int n'), ss_step ov (ss_step (hmk _ _ _ _) ?_)⟩
    simp only [eEv] at L
    rw [← yS_whil] at L
    simp only [EV, lift_some, R.bind_ok, R.s_ok, R.s_exc, w_noExc_ok, List.getElem?_cons_zero, List.getElem?_cons_succ, List.getElem?_nil, List.set_cons_zero, List.set_cons_succ, List.map_cons, List.map_nil, List.length_cons, List.length_nil, List.cons_append, List.nil_append, getV, getO, wipeE, startE, List.replicate, Nat.reduceAdd, Nat.reduceSub, Nat.reduceLT, Nat.reduceLeDiff, if_true, if_false, Bool.false_eq_true, Bool.true_eq_false, reduceIte, endOf_next, endOf_ret, endOf_exc, decide_true, decide_false, Bool.not_true, Bool.not_false, M_book, M_turn, M_players, M_happened, M_many, M_lit, M_bonus, M_factor, M_double, M_saves, M_warns, M_calm, M_tilted, M_open, M_had, N_many, N_lit, N_lit0, N_bonus, N_factor, N_double, N_saves, N_warns, N_calm, N_tilted, N_open, N_had, m_tell, m_doubled, m_look_for_aim, m_hit, m_look_for_lock, m_award, m_nudge, m_tick, m_is_still, m_set_ball, m_ball, m_state, M_hapL, N_hap, eEv, d3, d5, d6, act, L]
end Bt


set_option Elab.async false
set_option linter.all false
set_option maxRecDepth 100000
set_option maxHeartbeats 4000000
/-! All put together, by depth. -/
namespace Bt
open PySem P B
set_option autoImplicit false
variable {x : Ix} {defs : List Def} {Φ : Phi} {st : Store} {k : Book} {ρ : Slots}
structure HasPlay (defs : List Def) (x : Ix) : Prop where
  init : defs[x.i_Play_init]? = some ⟨3, 4, d_Play_init x, false⟩
  set_ball : defs[x.i_Play_set_ball]? = some ⟨2, 2, d_Play_set_ball x, false⟩
  ball : defs[x.i_Play_ball]? = some ⟨1, 2, d_Play_ball x, false⟩
  state : defs[x.i_Play_state]? = some ⟨1, 3, d_Play_state x, false⟩
  tell : defs[x.i_Play_tell]? = some ⟨3, 3, d_Play_tell x, false⟩
  doubled : defs[x.i_Play_doubled]? = some ⟨2, 2, d_Play_doubled x, false⟩
  aimed : defs[x.i_Play_look_for_aim]? = some ⟨1, 2, d_Play_look_for_aim x, false⟩
  hit : defs[x.i_Play_hit]? = some ⟨2, 8, d_Play_hit x, false⟩
  lock : defs[x.i_Play_look_for_lock]? = some ⟨2, 4, d_Play_look_for_lock x, false⟩
  award : defs[x.i_Play_award]? = some ⟨2, 3, d_Play_award x, false⟩
  nudge : defs[x.i_Play_nudge]? = some ⟨1, 1, d_Play_nudge x, false⟩
  tick : defs[x.i_Play_tick]? = some ⟨1, 1, d_Play_tick x, false⟩
  still : defs[x.i_Play_is_still]? = some ⟨1, 1, d_Play_is_still x, false⟩
  target : defs[x.i_target_of]? = some ⟨2, 3, d_target_of x, false⟩
  fresh : defs[x.i_fresh]? = some ⟨1, 1, d_fresh x, false⟩
  over : defs[x.i_is_over]? = some ⟨1, 1, d_is_over x, false⟩
  next : defs[x.i_next_player]? = some ⟨1, 5, d_next_player x, false⟩
  drain : defs[x.i_drain]? = some ⟨1, 1, d_drain x, false⟩
  step : defs[x.i_step]? = some ⟨3, 7, d_step x, true⟩
section
variable (H : HasPlay defs x) (n : Nat)
include H
theorem sp_tell : SpTell x (sem defs (n + 1)) := fun st k t ps m w i ht hh => by
  rw [sem_at H.tell]
  exact run_end rfl rfl (en_of (tell_run ht w i hh))
theorem sp_doubled : SpDoubled x (sem defs (n + 1)) := fun st k t ps m i => by
  rw [sem_at H.doubled]
  exact run_ret rfl rfl (doubled_run i)
theorem sp_aimed : SpAimed x (sem defs (n + 2)) := fun st k t ps m ht hh => by
  rw [sem_at H.aimed]
  exact run_end rfl rfl (en_of (aimed_run (sp_tell H n) ht hh))
theorem sp_lock : SpLock x (sem defs (n + 2)) := fun st k t ps m w ht hh => by
  rw [sem_at H.lock]
  exact run_ret rfl rfl (lock_run (sp_tell H n) ht w hh)
theorem sp_award : SpAward x (sem defs (n + 2)) := fun st k t ps m w ht hh => by
  rw [sem_at H.award]
  exact run_end rfl rfl (en_of (award_run (sp_tell H n) ht w hh))
theorem sp_hit : SpHit x (sem defs (n + 3)) := fun st k t ps m g ht hh hl hb => by
  rw [sem_at H.hit]
  exact run_end rfl rfl (hit_run (sp_tell H (n + 1)) (sp_doubled H (n + 1)) (sp_lock H n) (sp_award H n) (sp_aimed H n) ht g hh hl hb)
theorem sp_nudge : SpNudge x (sem defs (n + 2)) := fun st k t ps m ht hh => by
  rw [sem_at H.nudge]
  exact run_end rfl rfl (en_of (nudge_run (sp_tell H n) ht hh))
theorem sp_tick : SpTick x (sem defs (n + 1)) := fun st k t ps m => by
  rw [sem_at H.tick]
  exact run_end rfl rfl (en_of tick_run)
theorem sp_still : SpStill x (sem defs (n + 1)) := fun st k t ps m => by
  rw [sem_at H.still]
  exact run_ret rfl rfl still_run
theorem sp_set_ball : SpSetBall x (sem defs (n + 1)) := fun st b c fs cs hf => by
  rw [sem_at H.set_ball]
  exact run_next rfl rfl (set_ball_run (x := x) hf)
theorem sp_ball : SpBall x (sem defs (n + 1)) := fun st k tu ps b h => by
  rw [sem_at H.ball]
  exact run_ret rfl rfl ball_run
theorem sp_init : SpInit x (sem defs (n + 2)) := fun st k t ps b => by
  rw [sem_at H.init]
  exact run_end rfl rfl (init_run (sp_set_ball H n))
theorem sp_state : SpState x (sem defs (n + 2)) := fun st k t ps b h => by
  rw [sem_at H.state]
  exact run_ret rfl rfl (state_run (sp_ball H n))
theorem sp_stateO : SpStateO x (sem defs (n + 2)) := fun st k ps b h => by
  rw [sem_at H.state]
  exact run_ret rfl rfl (state_runO (sp_ball H n))
theorem sp_target : SpTarget x (sem defs (n + 1)) := fun st k w g hg => by
  rw [sem_at H.target]
  exact run_end rfl rfl (target_run hg)
theorem sp_target0 : SpTarget0 x (sem defs (n + 1)) := fun st k w hg => by
  rw [sem_at H.target]
  exact run_end rfl rfl (target_run0 hg)
theorem sp_fresh : SpFresh x (sem defs (n + 1)) := fun st k => by
  rw [sem_at H.fresh]
  exact run_end rfl rfl (fresh_run (x := x))
theorem sp_over : SpOver x (sem defs (n + 1)) := fun st s => by
  rw [sem_at H.over]
  exact run_end rfl rfl (over_run (x := x) s)
theorem sp_next : SpNext x (sem defs (n + 2)) := fun st k t ps m ht hp hh => by
  rw [sem_at H.next]
  exact run_end rfl rfl (next_run (sp_tell H n) (sp_set_ball H n) (sp_fresh H n) ht hp hh)
theorem sp_drain : SpDrain x (sem defs (n + 3)) := fun st k t ps m ht hp hh f1 f2 => by
  rw [sem_at H.drain]
  exact run_end rfl rfl (drain_run (sp_tell H (n + 1)) (sp_aimed H n) (sp_next H n) ht hp hh f1 f2)
theorem sp_step : SpStep x (sem defs (n + 4)) := fun st k s e hb hs he => by
  rw [sem_at H.step]
  have drop : ∀ T : Store, T.take st.length = st → endOf (evSs (sem defs (n + 3)) (d_step x) (startE 7 [eBook k, eSt s, eEv e]) st) = .ok (ePairS (step k s e)) T → runD (sem defs (n + 3)) ⟨3, 7, d_step x, true⟩ [eBook k, eSt s, eEv e] st = .ok (ePairS (step k s e)) st := by
    intro T hT h
    unfold runD
    rw [if_pos (show [eBook k, eSt s, eEv e].length = 3 from rfl)]
    show dropped true st (endOf (evSs (sem defs (n + 3)) (d_step x) (startE 7 [eBook k, eSt s, eEv e]) st)) = _
    rw [h]
    simp only [dropped, nr_step, hT, decide_true, Bool.and_self, if_true]
  cases s with
  | over ps => exact drop st (List.take_length) (step_over (sp_over H (n + 2)) ps e)
  | on t ps b =>
    obtain ⟨T, hT, h⟩ := step_on (sp_over H (n + 2)) (sp_init H (n + 1)) (sp_hit H n) (sp_target H (n + 2)) (sp_drain H n) (sp_nudge H (n + 1)) (sp_tick H (n + 2)) (sp_still H (n + 2)) (sp_state H (n + 1)) (sp_stateO H (n + 1)) hb hs e he
    exact drop T hT h
end
/-! ### gone, after, begun, scores, story -/
def SpGone (x : Ix) (Φ : Phi) : Prop := ∀ (st : Store) (k : Book) (s : St) (e : Ev), k.bk.length < 100 → s.ok → e.ok k → Φ x.i_gone [eBook k, eSt s, eEv e] st = .ok (eSt (gone k s e)) st
theorem sp_gone (H : HasPlay defs x) (hg : defs[x.i_gone]? = some ⟨3, 3, d_gone x, false⟩) (n : Nat) : SpGone x (sem defs (n + 5)) := fun st k s e hb hs he => by
  rw [sem_at hg]
  refine run_end rfl rfl ?_
  have S1 := sp_step H n st k s e hb hs he
  unfold d_gone
  simp only [EV, lift_some, R.bind_ok, R.s_ok, R.s_exc, w_noExc_ok, List.getElem?_cons_zero, List.getElem?_cons_succ, List.getElem?_nil, List.set_cons_zero, List.set_cons_succ, List.map_cons, List.map_nil, List.length_cons, List.length_nil, List.cons_append, List.nil_append, getV, getO, wipeE, startE, List.replicate, Nat.reduceAdd, Nat.reduceSub, Nat.reduceLT, Nat.reduceLeDiff, if_true, if_false, Bool.false_eq_true, Bool.true_eq_false, reduceIte, endOf_next, endOf_ret, endOf_exc, decide_true, decide_false, Bool.not_true, Bool.not_false, S1, ePairS]
  rfl
/-- what keeps a row going -/
def Keeps (k : Book) (I : St → Prop) : Prop := k.bk.length < 100 ∧ (∀ s, I s → s.ok) ∧ ∀ s e, I s → e.ok k → I (gone k s e)
def SpAfter (x : Ix) (Φ : Phi) : Prop := ∀ (st : Store) (k : Book) (s : St) (es : List Ev) (I : St → Prop), Keeps k I → I s → (∀ e ∈ es, e.ok k) → Φ x.i_after [eBook k, eSt s, .tup (es.map eEv)] st = .ok (eSt (after k s es)) st
theorem sp_after (H : HasPlay defs x) (hg : defs[x.i_gone]? = some ⟨3, 3, d_gone x, false⟩) (ha : defs[x.i_after]? = some ⟨3, 4, d_after x, false⟩) (n : Nat) : SpAfter x (sem defs (n + 6)) := fun st k s es I hI hs he => by
  rw [sem_at ha]
  refine run_end rfl rfl ?_
  obtain ⟨hb, hok, hst⟩ := hI
  have G := sp_gone H hg n
  unfold d_after
  obtain ⟨ρ', st', q, s', a, h1, h2, h3, h4⟩ := for_all (Φ := sem defs (n + 5)) (ρ := startE 4 [eBook k, eSt s, .tup (es.map eEv)]) (st := st) (st1 := st) eEv (tg := .nm 3) (it := .val (.var 2)) (body := .cons (.asg (.nm 1) (.call x.i_gone (.cons (.var 0) (.cons (.var 1) (.cons (.var 3) .nil))))) .nil)
    es (okf := fun st => srcOk st (.tup (es.map eEv)) (es.map eEv)) (fun d p => ∃ s' a, p.1 = [.val (eBook k), .val (eSt s'), .val (.tup (es.map eEv)), a] ∧ p.2 = st ∧ s' = after k s d ∧ I s')
    (it_val eEv (by simp only [EV, lift_some, R.bind_ok, R.s_ok, R.s_exc, w_noExc_ok, List.getElem?_cons_zero, List.getElem?_cons_succ, List.getElem?_nil, List.set_cons_zero, List.set_cons_succ, List.map_cons, List.map_nil, List.length_cons, List.length_nil, List.cons_append, List.nil_append, getV, getO, wipeE, startE, List.replicate, Nat.reduceAdd, Nat.reduceSub, Nat.reduceLT, Nat.reduceLeDiff, if_true, if_false, Bool.false_eq_true, Bool.true_eq_false, reduceIte, endOf_next, endOf_ret, endOf_exc, decide_true, decide_false, Bool.not_true, Bool.not_false])) (fun _ => rfl) ⟨s, .no, rfl, rfl, rfl, hs⟩ (by
      rintro d e r ρ st' hd ⟨s', a, rfl, rfl, rfl, hi⟩
      have hee : e.ok k := he e (by rw [hd]; simp)
      have G1 := G st' k (after k s d) e hb (hok _ hi) hee
      refine ⟨[.val (eBook k), .val (eSt (gone k (after k s d) e)), .val (.tup (es.map eEv)), .val (eEv e)], st', ?_, gone k (after k s d) e, _, rfl, rfl, ?_, hst _ _ hi hee⟩
      · simp only [EV, lift_some, R.bind_ok, R.s_ok, R.s_exc, w_noExc_ok, List.getElem?_cons_zero, List.getElem?_cons_succ, List.getElem?_nil, List.set_cons_zero, List.set_cons_succ, List.map_cons, List.map_nil, List.length_cons, List.length_nil, List.cons_append, List.nil_append, getV, getO, wipeE, startE, List.replicate, Nat.reduceAdd, Nat.reduceSub, Nat.reduceLT, Nat.reduceLeDiff, if_true, if_false, Bool.false_eq_true, Bool.true_eq_false, reduceIte, endOf_next, endOf_ret, endOf_exc, decide_true, decide_false, Bool.not_true, Bool.not_false, G1]
      · simp [after, List.foldl_append])
  refine en_step q ?_
  simp only at h1 h2
  rw [h1, h2]
  refine en_ret (e_ret ?_)
  simp only [EV, lift_some, R.bind_ok, R.s_ok, R.s_exc, w_noExc_ok, List.getElem?_cons_zero, List.getElem?_cons_succ, List.getElem?_nil, List.set_cons_zero, List.set_cons_succ, List.map_cons, List.map_nil, List.length_cons, List.length_nil, List.cons_append, List.nil_append, getV, getO, wipeE, startE, List.replicate, Nat.reduceAdd, Nat.reduceSub, Nat.reduceLT, Nat.reduceLeDiff, if_true, if_false, Bool.false_eq_true, Bool.true_eq_false, reduceIte, endOf_next, endOf_ret, endOf_exc, decide_true, decide_false, Bool.not_true, Bool.not_false, h3]
def SpBegun (x : Ix) (Φ : Phi) : Prop := ∀ (st : Store) (k : Book) (n : Nat), n ≤ 1000 → Φ x.i_begun [eBook k, .int n] st = .ok (eSt (begun k n)) st
theorem sp_begun (H : HasPlay defs x) (hb : defs[x.i_begun]? = some ⟨2, 4, d_begun x, false⟩) (m : Nat) : SpBegun x (sem defs (m + 2)) := fun st k n hn => by
  rw [sem_at hb]
  refine run_end rfl rfl ?_
  have F := sp_fresh H m st k
  have hc : evC (sem defs (m + 1)) (.comp (.tup (.cons (.con (.int 0)) (.cons (.bin .sub (.idx (.var 0) (.con (.int 6))) (.blt .int (.cons (.cmp .eq (.var 3) (.con (.int 0))) .nil))) (.cons (.con (.int 0)) (.cons (.con (.int 0)) (.cons (.con (.bl false)) .nil)))))) (.nm 3) (.rng1 (.var 1)) .none [3]) (startE 4 [eBook k, .int n]) st
      = .ok ((List.range n).map fun i => ePl ⟨0, k.ba - (if i = 0 then 1 else 0), 0, 0, false⟩) st :=
    comp_all (fun i : Nat => D.int (i : Nat)) (List.range n) _ (it_rng1 (by simp only [EV, lift_some, R.bind_ok, R.s_ok, R.s_exc, w_noExc_ok, List.getElem?_cons_zero, List.getElem?_cons_succ, List.getElem?_nil, List.set_cons_zero, List.set_cons_succ, List.map_cons, List.map_nil, List.length_cons, List.length_nil, List.cons_append, List.nil_append, getV, getO, wipeE, startE, List.replicate, Nat.reduceAdd, Nat.reduceSub, Nat.reduceLT, Nat.reduceLeDiff, if_true, if_false, Bool.false_eq_true, Bool.true_eq_false, reduceIte, endOf_next, endOf_ret, endOf_exc, decide_true, decide_false, Bool.not_true, Bool.not_false]) (rng0_ok (by omega)) rfl) rfl fun i _ => by
      by_cases c : i = 0
      · subst c
        simp only [EV, lift_some, R.bind_ok, R.s_ok, R.s_exc, w_noExc_ok, List.getElem?_cons_zero, List.getElem?_cons_succ, List.getElem?_nil, List.set_cons_zero, List.set_cons_succ, List.map_cons, List.map_nil, List.length_cons, List.length_nil, List.cons_append, List.nil_append, getV, getO, wipeE, startE, List.replicate, Nat.reduceAdd, Nat.reduceSub, Nat.reduceLT, Nat.reduceLeDiff, if_true, if_false, Bool.false_eq_true, Bool.true_eq_false, reduceIte, endOf_next, endOf_ret, endOf_exc, decide_true, decide_false, Bool.not_true, Bool.not_false, eBook, ePl, lPl, Int.natCast_zero]
      · have c' : ¬ ((i : Int) = 0) := by omega
        simp only [EV, lift_some, R.bind_ok, R.s_ok, R.s_exc, w_noExc_ok, List.getElem?_cons_zero, List.getElem?_cons_succ, List.getElem?_nil, List.set_cons_zero, List.set_cons_succ, List.map_cons, List.map_nil, List.length_cons, List.length_nil, List.cons_append, List.nil_append, getV, getO, wipeE, startE, List.replicate, Nat.reduceAdd, Nat.reduceSub, Nat.reduceLT, Nat.reduceLeDiff, if_true, if_false, Bool.false_eq_true, Bool.true_eq_false, reduceIte, endOf_next, endOf_ret, endOf_exc, decide_true, decide_false, Bool.not_true, Bool.not_false, eBook, ePl, lPl, c, c']
  unfold d_begun
  simp only [EV, lift_some, R.bind_ok, R.s_ok, R.s_exc, w_noExc_ok, List.getElem?_cons_zero, List.getElem?_cons_succ, List.getElem?_nil, List.set_cons_zero, List.set_cons_succ, List.map_cons, List.map_nil, List.length_cons, List.length_nil, List.cons_append, List.nil_append, getV, getO, wipeE, startE, List.replicate, Nat.reduceAdd, Nat.reduceSub, Nat.reduceLT, Nat.reduceLeDiff, if_true, if_false, Bool.false_eq_true, Bool.true_eq_false, reduceIte, endOf_next, endOf_ret, endOf_exc, decide_true, decide_false, Bool.not_true, Bool.not_false] at hc
  simp only [EV, lift_some, R.bind_ok, R.s_ok, R.s_exc, w_noExc_ok, List.getElem?_cons_zero, List.getElem?_cons_succ, List.getElem?_nil, List.set_cons_zero, List.set_cons_succ, List.map_cons, List.map_nil, List.length_cons, List.length_nil, List.cons_append, List.nil_append, getV, getO, wipeE, startE, List.replicate, Nat.reduceAdd, Nat.reduceSub, Nat.reduceLT, Nat.reduceLeDiff, if_true, if_false, Bool.false_eq_true, Bool.true_eq_false, reduceIte, endOf_next, endOf_ret, endOf_exc, decide_true, decide_false, Bool.not_true, Bool.not_false, hc, F, begun, eSt, List.map_map]
  rfl
def SpScores (x : Ix) (Φ : Phi) : Prop := ∀ (st : Store) (s : St), Φ x.i_scores [eSt s] st = .ok (.tup ((scores s).map .int)) st
theorem sp_scores (hs : defs[x.i_scores]? = some ⟨1, 2, d_scores x, false⟩) (n : Nat) : SpScores x (sem defs (n + 1)) := fun st s => by
  rw [sem_at hs]
  refine run_end rfl rfl ?_
  unfold d_scores
  have hc : evC (sem defs n) (.comp (.idx (.var 1) (.con (.int 0))) (.nm 1) (.val (.idx (.var 0) (.con (.int 1)))) .none [1]) [.val (eSt s), .no] st = .ok (s.ps.map fun q => .int q.pts) st :=
    comp_all ePl s.ps _ (it_val ePl (by cases s <;> simp only [EV, lift_some, R.bind_ok, R.s_ok, R.s_exc, w_noExc_ok, List.getElem?_cons_zero, List.getElem?_cons_succ, List.getElem?_nil, List.set_cons_zero, List.set_cons_succ, List.map_cons, List.map_nil, List.length_cons, List.length_nil, List.cons_append, List.nil_append, getV, getO, wipeE, startE, List.replicate, Nat.reduceAdd, Nat.reduceSub, Nat.reduceLT, Nat.reduceLeDiff, if_true, if_false, Bool.false_eq_true, Bool.true_eq_false, reduceIte, endOf_next, endOf_ret, endOf_exc, decide_true, decide_false, Bool.not_true, Bool.not_false, eSt, St.ps])) rfl fun q _ => by simp only [EV, lift_some, R.bind_ok, R.s_ok, R.s_exc, w_noExc_ok, List.getElem?_cons_zero, List.getElem?_cons_succ, List.getElem?_nil, List.set_cons_zero, List.set_cons_succ, List.map_cons, List.map_nil, List.length_cons, List.length_nil, List.cons_append, List.nil_append, getV, getO, wipeE, startE, List.replicate, Nat.reduceAdd, Nat.reduceSub, Nat.reduceLT, Nat.reduceLeDiff, if_true, if_false, Bool.false_eq_true, Bool.true_eq_false, reduceIte, endOf_next, endOf_ret, endOf_exc, decide_true, decide_false, Bool.not_true, Bool.not_false, ePl, lPl]
  simp only [EV, lift_some, R.bind_ok, R.s_ok, R.s_exc, w_noExc_ok, List.getElem?_cons_zero, List.getElem?_cons_succ, List.getElem?_nil, List.set_cons_zero, List.set_cons_succ, List.map_cons, List.map_nil, List.length_cons, List.length_nil, List.cons_append, List.nil_append, getV, getO, wipeE, startE, List.replicate, Nat.reduceAdd, Nat.reduceSub, Nat.reduceLT, Nat.reduceLeDiff, if_true, if_false, Bool.false_eq_true, Bool.true_eq_false, reduceIte, endOf_next, endOf_ret, endOf_exc, decide_true, decide_false, Bool.not_true, Bool.not_false, hc, scores, List.map_map]
  rfl
end Bt


set_option Elab.async false
set_option linter.all false
set_option maxRecDepth 100000
set_option maxHeartbeats 4000000
/-! What the laws draw: cells, numbers, books, events. -/
namespace Bt
open PySem P B
set_option autoImplicit false
variable {x : Ix} {defs : List Def} {Φ : Phi} {st : Store} {k : Book} {ρ : Slots}
/-! ### cells and numbers -/
def cellP (ns : List Int) (k : Nat) : Int := ns.getD k 0
def mixN (c p m : Int) : Nat := ((c * 48271 % p) * (c * 48271 % p + 7) % p % m).toNat
theorem mixN_lt {c p m : Int} (hm : 0 < m) : (mixN c p m : Int) < m := by
  unfold mixN
  rw [Int.toNat_of_nonneg (Int.emod_nonneg _ (by omega))]
  exact Int.emod_lt_of_pos _ hm
def SpCell (x : Ix) (Φ : Phi) : Prop := ∀ (ns : List Int) (k : Nat) (st : Store), Φ x.i__law_cell [.scr ns, .int k] st = .ok (.int (cellP ns k)) st
def SpMix (x : Ix) (Φ : Phi) : Prop := ∀ (c p m : Int) (st : Store), 0 < p → p < 2 ^ 60 → 0 < m → Φ x.i__law_mix [.int c, .int p, .int m] st = .ok (.int (mixN c p m)) st
theorem sp_cell (h : defs[x.i__law_cell]? = some ⟨2, 2, d__law_cell x, false⟩) (n : Nat) : SpCell x (sem defs (n + 1)) := fun ns k st => by
  rw [sem_at h]
  refine run_end rfl rfl ?_
  unfold d__law_cell cellP
  have hlen : biD .len st [.scr ns] = some (.int ns.length) := rfl
  by_cases h : k < ns.length
  · have h' : ((k : Int) < (ns.length : Int)) := by omega
    simp only [EV, lift_some, R.bind_ok, R.s_ok, R.s_exc, w_noExc_ok, List.getElem?_cons_zero, List.getElem?_cons_succ, List.getElem?_nil, List.set_cons_zero, List.set_cons_succ, List.map_cons, List.map_nil, List.length_cons, List.length_nil, List.cons_append, List.nil_append, getV, getO, wipeE, startE, List.replicate, Nat.reduceAdd, Nat.reduceSub, Nat.reduceLT, Nat.reduceLeDiff, if_true, if_false, Bool.false_eq_true, Bool.true_eq_false, reduceIte, endOf_next, endOf_ret, endOf_exc, decide_true, decide_false, Bool.not_true, Bool.not_false, hlen, h', idx_scr, at_nat, List.getElem?_eq_getElem h, Option.map_some, List.getD_eq_getElem?_getD, Option.getD_some]
  · have h' : ¬ ((k : Int) < (ns.length : Int)) := by omega
    rw [List.getD_eq_getElem?_getD, List.getElem?_eq_none (by omega)]
    simp only [EV, lift_some, R.bind_ok, R.s_ok, R.s_exc, w_noExc_ok, List.getElem?_cons_zero, List.getElem?_cons_succ, List.getElem?_nil, List.set_cons_zero, List.set_cons_succ, List.map_cons, List.map_nil, List.length_cons, List.length_nil, List.cons_append, List.nil_append, getV, getO, wipeE, startE, List.replicate, Nat.reduceAdd, Nat.reduceSub, Nat.reduceLT, Nat.reduceLeDiff, if_true, if_false, Bool.false_eq_true, Bool.true_eq_false, reduceIte, endOf_next, endOf_ret, endOf_exc, decide_true, decide_false, Bool.not_true, Bool.not_false, hlen, h', Option.getD_none]
theorem sp_mix (h : defs[x.i__law_mix]? = some ⟨3, 4, d__law_mix x, false⟩) (n : Nat) : SpMix x (sem defs (n + 1)) := fun c p m st h1 h2 h3 => by
  rw [sem_at h]
  refine run_end rfl rfl ?_
  unfold d__law_mix
  have q1 := Int.emod_nonneg (c * 48271) (by omega : p ≠ 0)
  have q2 := Int.emod_lt_of_pos (c * 48271) h1
  have hm1 : mulOk c 48271 = true := mulR
  have hm2 : mulOk (c * 48271 % p) (c * 48271 % p + 7) = true := mulL
  have e : ((mixN c p m : Nat) : Int) = (c * 48271 % p) * (c * 48271 % p + 7) % p % m := by
    unfold mixN
    rw [Int.toNat_of_nonneg (Int.emod_nonneg _ (by omega))]
  rw [e]
  simp only [EV, lift_some, R.bind_ok, R.s_ok, R.s_exc, w_noExc_ok, List.getElem?_cons_zero, List.getElem?_cons_succ, List.getElem?_nil, List.set_cons_zero, List.set_cons_succ, List.map_cons, List.map_nil, List.length_cons, List.length_nil, List.cons_append, List.nil_append, getV, getO, wipeE, startE, List.replicate, Nat.reduceAdd, Nat.reduceSub, Nat.reduceLT, Nat.reduceLeDiff, if_true, if_false, Bool.false_eq_true, Bool.true_eq_false, reduceIte, endOf_next, endOf_ret, endOf_exc, decide_true, decide_false, Bool.not_true, Bool.not_false, o_mul hm1, o_mod h1, o_mul hm2, o_mod h3]
/-! ### letters -/
def letr (i : Nat) : Str := ⟨#[97 + i]⟩
theorem abc8 {i : Nat} (h : i < 8) : idxD st (.str s_abcdefgh) (.int i) = some (.str (letr i)) := by
  have e : s_abcdefgh.cps.toList = (List.range 8).map (97 + ·) := by decide +kernel
  have l : s_abcdefgh.length ≤ sizeLine := small (by decide +kernel)
  simp only [idxD, view_str, if_pos l, e, at_nat]
  simp [h, letr]
theorem abc5 {i : Nat} (h : i < 5) : idxD st (.str s_abcde) (.int i) = some (.str (letr i)) := by
  have e : s_abcde.cps.toList = (List.range 5).map (97 + ·) := by decide +kernel
  have l : s_abcde.length ≤ sizeLine := small (by decide +kernel)
  simp only [idxD, view_str, if_pos l, e, at_nat]
  simp [h, letr]
theorem letr_inj {i j : Nat} (h : letr i = letr j) : i = j := by
  have := congrArg (fun s : Str => s.cps.toList) h
  simp [letr] at this
  exact this
/-! ### books -/
def awardP (i : Nat) : Str := [s_times, s_double, s_extra, s_open].getD i s_open
theorem awards4 {i : Nat} (h : i < 4) : L2.atI [D.str s_times, .str s_double, .str s_extra, .str s_open] (i : Int) = some (.str (awardP i)) := by
  rw [at_nat]
  match i, h with
  | 0, _ => rfl
  | 1, _ => rfl
  | 2, _ => rfl
  | 3, _ => rfl
def namesP (c : Int) (n : Nat) : List Str := (List.range (1 + mixN c 9949 4)).map fun i => letr ((mixN c 9973 n + i * (1 + mixN c 9967 2)) % n)
def bankP (c : Int) (n : Nat) : Bank := ⟨(distinct (namesP c n)).mergeSort strLe, awardP (mixN c 9941 4)⟩
def SpBank (x : Ix) (Φ : Phi) : Prop := ∀ (c : Int) (n : Nat) (st : Store), 0 < n → n ≤ 8 → Φ x.i__law_bank [.int c, .int n] st = .ok (eBank (bankP c n)) st
theorem sset_strs (l : List Str) (h : l.length < 4000) : ssetD (l.map .str) = some (((distinct l).mergeSort strLe).map .str) := by
  simp only [ssetD, strsOf_map, if_pos h]
theorem sp_bank (h : defs[x.i__law_bank]? = some ⟨2, 6, d__law_bank x, false⟩) (hm : defs[x.i__law_mix]? = some ⟨3, 4, d__law_mix x, false⟩) (m : Nat) : SpBank x (sem defs (m + 2)) := fun c n st h0 h8 => by
  rw [sem_at h]
  refine run_end rfl rfl ?_
  have Mx := sp_mix hm m
  have M1 := Mx c 9973 n st (by decide) (by decide) (by omega)
  have M2 := Mx c 9967 2 st (by decide) (by decide) (by decide)
  have M3 := Mx c 9949 4 st (by decide) (by decide) (by decide)
  have M4 := Mx c 9941 4 st (by decide) (by decide) (by decide)
  have l3 : (mixN c 9949 4 : Int) < 4 := mixN_lt (by decide)
  have l2 : (mixN c 9967 2 : Int) < 2 := mixN_lt (by decide)
  have l4 : (mixN c 9941 4 : Int) < 4 := mixN_lt (by decide)
  have hn : 0 < (n : Int) := by omega
  have e1 : (1 : Int) + (mixN c 9949 4 : Int) = ((1 + mixN c 9949 4 : Nat) : Int) := by omega
  have hc : evC (sem defs (m + 1)) (.comp (.idx (.con (.str s_abcdefgh)) (.bin .mod (.bin .add (.var 2) (.bin .mul (.var 5) (.var 3))) (.var 1))) (.nm 5) (.rng1 (.bin .add (.con (.int 1)) (.call x.i__law_mix (.cons (.var 0) (.cons (.con (.int 9949)) (.cons (.con (.int 4)) .nil)))))) .none [5])
      [.val (.int c), .val (.int n), .val (.int (mixN c 9973 n)), .val (.int (1 + mixN c 9967 2)), .no, .no] st = .ok ((List.range (1 + mixN c 9949 4)).map fun i => .str (letr ((mixN c 9973 n + i * (1 + mixN c 9967 2)) % n))) st :=
    comp_all (fun i : Nat => D.int (i : Nat)) (List.range (1 + mixN c 9949 4)) _ (it_rng1 (by simp only [EV, lift_some, R.bind_ok, R.s_ok, R.s_exc, w_noExc_ok, List.getElem?_cons_zero, List.getElem?_cons_succ, List.getElem?_nil, List.set_cons_zero, List.set_cons_succ, List.map_cons, List.map_nil, List.length_cons, List.length_nil, List.cons_append, List.nil_append, getV, getO, wipeE, startE, List.replicate, Nat.reduceAdd, Nat.reduceSub, Nat.reduceLT, Nat.reduceLeDiff, if_true, if_false, Bool.false_eq_true, Bool.true_eq_false, reduceIte, endOf_next, endOf_ret, endOf_exc, decide_true, decide_false, Bool.not_true, Bool.not_false, M3, e1]) (rng0_ok (by omega)) rfl) rfl fun i hi => by
      have e : ((mixN c 9973 n : Int) + (i : Int) * (1 + (mixN c 9967 2 : Int))) % (n : Int) = (((mixN c 9973 n + i * (1 + mixN c 9967 2)) % n : Nat) : Int) := by
        rw [Int.natCast_emod]
        simp
      have hk : mulOk (i : Int) (1 + (mixN c 9967 2 : Int)) = true := mulR
      have ha := abc8 (st := st) (show (mixN c 9973 n + i * (1 + mixN c 9967 2)) % n < 8 from Nat.lt_of_lt_of_le (Nat.mod_lt _ h0) h8)
      simp only [EV, lift_some, R.bind_ok, R.s_ok, R.s_exc, w_noExc_ok, List.getElem?_cons_zero, List.getElem?_cons_succ, List.getElem?_nil, List.set_cons_zero, List.set_cons_succ, List.map_cons, List.map_nil, List.length_cons, List.length_nil, List.cons_append, List.nil_append, getV, getO, wipeE, startE, List.replicate, Nat.reduceAdd, Nat.reduceSub, Nat.reduceLT, Nat.reduceLeDiff, if_true, if_false, Bool.false_eq_true, Bool.true_eq_false, reduceIte, endOf_next, endOf_ret, endOf_exc, decide_true, decide_false, Bool.not_true, Bool.not_false, o_mul hk, o_mod hn, e, ha]
  have hs := sset_strs (namesP c n) (by simp [namesP]; omega)
  unfold namesP at hs
  rw [List.map_map] at hs
  simp only [Function.comp_def] at hs
  unfold d__law_bank
  simp only [EV, lift_some, R.bind_ok, R.s_ok, R.s_exc, w_noExc_ok, List.getElem?_cons_zero, List.getElem?_cons_succ, List.getElem?_nil, List.set_cons_zero, List.set_cons_succ, List.map_cons, List.map_nil, List.length_cons, List.length_nil, List.cons_append, List.nil_append, getV, getO, wipeE, startE, List.replicate, Nat.reduceAdd, Nat.reduceSub, Nat.reduceLT, Nat.reduceLeDiff, if_true, if_false, Bool.false_eq_true, Bool.true_eq_false, reduceIte, endOf_next, endOf_ret, endOf_exc, decide_true, decide_false, Bool.not_true, Bool.not_false, M1, M2, hc, M4, hs, awards4 (show mixN c 9941 4 < 4 by omega)]
  rfl
def tgtP (c : Int) (n : Nat) : Tgt := ⟨letr n, 1 + mixN (c + 7 * n) 9929 999, mixN (c + 11 * n) 9923 10⟩
def manyP (c : Int) : Nat := 1 + mixN c 9931 6
theorem manyP_range (c : Int) : 1 ≤ manyP c ∧ manyP c ≤ 6 := by
  have : (mixN c 9931 6 : Int) < 6 := mixN_lt (by decide)
  unfold manyP
  omega
def bookP (c : Int) : Book where
  tg := (List.range (manyP c)).map (tgtP c)
  bk := (List.range (mixN c 9907 5)).map fun n : Nat => bankP (c + 29 * n) (manyP c)
  lk := if 0 < mixN c 9883 5 then some (letr (mixN c 9901 (manyP c)), 2 + (mixN c 9887 2 : Nat)) else none
  jk := (letr (mixN c 9871 (manyP c)), 1 + (mixN c 9859 9999 : Nat))
  sv := if 0 < mixN c 9833 3 then (mixN c 9839 31 : Nat) else 0
  nu := 1 + (mixN c 9829 3 : Nat)
  ba := 1 + (mixN c 9817 4 : Nat)
  aim := if 0 < mixN c 9851 3 then some (1 + (mixN c 9857 9000 : Nat)) else none
def SpBook (x : Ix) (Φ : Phi) : Prop := ∀ (c : Int) (st : Store), Φ x.i__law_book [.int c] st = .ok (eBook (bookP c)) st
theorem sp_book (h : defs[x.i__law_book]? = some ⟨1, 9, d__law_book x, false⟩) (hb : defs[x.i__law_bank]? = some ⟨2, 6, d__law_bank x, false⟩) (hm : defs[x.i__law_mix]? = some ⟨3, 4, d__law_mix x, false⟩) (m : Nat) : SpBook x (sem defs (m + 3)) := fun c st => by
  rw [sem_at h]
  refine run_end rfl rfl ?_
  have Mx := sp_mix hm (m + 1)
  have Bk := sp_bank hb hm m
  obtain ⟨n1, n6⟩ := manyP_range c
  have M0 := Mx c 9931 6 st (by decide) (by decide) (by decide)
  have e0 : (1 : Int) + (mixN c 9931 6 : Int) = (manyP c : Int) := by unfold manyP; omega
  unfold d__law_book bookP
  generalize manyP c = n at n1 n6 e0 ⊢
  refine en_step (ρ' := [.val (.int c), .val (.int n), .no, .no, .no, .no, .no, .no, .no]) (st' := st) (by simp only [EV, lift_some, R.bind_ok, R.s_ok, R.s_exc, w_noExc_ok, List.getElem?_cons_zero, List.getElem?_cons_succ, List.getElem?_nil, List.set_cons_zero, List.set_cons_succ, List.map_cons, List.map_nil, List.length_cons, List.length_nil, List.cons_append, List.nil_append, getV, getO, wipeE, startE, List.replicate, Nat.reduceAdd, Nat.reduceSub, Nat.reduceLT, Nat.reduceLeDiff, if_true, if_false, Bool.false_eq_true, Bool.true_eq_false, reduceIte, endOf_next, endOf_ret, endOf_exc, decide_true, decide_false, Bool.not_true, Bool.not_false, M0, e0]) ?_
  refine en_step (ρ' := [.val (.int c), .val (.int n), .own [], .no, .no, .no, .no, .no, .no]) (st' := st) (by simp only [EV, lift_some, R.bind_ok, R.s_ok, R.s_exc, w_noExc_ok, List.getElem?_cons_zero, List.getElem?_cons_succ, List.getElem?_nil, List.set_cons_zero, List.set_cons_succ, List.map_cons, List.map_nil, List.length_cons, List.length_nil, List.cons_append, List.nil_append, getV, getO, wipeE, startE, List.replicate, Nat.reduceAdd, Nat.reduceSub, Nat.reduceLT, Nat.reduceLeDiff, if_true, if_false, Bool.false_eq_true, Bool.true_eq_false, reduceIte, endOf_next, endOf_ret, endOf_exc, decide_true, decide_false, Bool.not_true, Bool.not_false]) ?_
  obtain ⟨ρ', st', q, a, h1, h2⟩ := for_all (Φ := sem defs (m + 2)) (ρ := [.val (.int c), .val (.int n), .own [], .no, .no, .no, .no, .no, .no]) (st := st) (st1 := st) (fun i : Nat => D.int (i : Nat)) (tg := .nm 3) (it := .rng1 (.var 1))
    (body := .cons (.oapp 2 (.tup (.cons (.idx (.con (.str s_abcdefgh)) (.var 3)) (.cons (.bin .add (.con (.int 1)) (.call x.i__law_mix (.cons (.bin .add (.var 0) (.bin .mul (.con (.int 7)) (.var 3))) (.cons (.con (.int 9929)) (.cons (.con (.int 999)) .nil))))) (.cons (.call x.i__law_mix (.cons (.bin .add (.var 0) (.bin .mul (.con (.int 11)) (.var 3))) (.cons (.con (.int 9923)) (.cons (.con (.int 10)) .nil)))) .nil))))) .nil)
    (List.range n) (okf := fun _ => true) (fun d p => ∃ a, p.1 = [.val (.int c), .val (.int n), .own ((d.map (tgtP c)).map eT), a, .no, .no, .no, .no, .no] ∧ p.2 = st)
    (it_rng1 (by simp only [EV, lift_some, R.bind_ok, R.s_ok, R.s_exc, w_noExc_ok, List.getElem?_cons_zero, List.getElem?_cons_succ, List.getElem?_nil, List.set_cons_zero, List.set_cons_succ, List.map_cons, List.map_nil, List.length_cons, List.length_nil, List.cons_append, List.nil_append, getV, getO, wipeE, startE, List.replicate, Nat.reduceAdd, Nat.reduceSub, Nat.reduceLT, Nat.reduceLeDiff, if_true, if_false, Bool.false_eq_true, Bool.true_eq_false, reduceIte, endOf_next, endOf_ret, endOf_exc, decide_true, decide_false, Bool.not_true, Bool.not_false]) (rng0_ok (by omega)) rfl) (fun _ => rfl) ⟨.no, rfl, rfl⟩ (by
      rintro d i r ρ st' hd ⟨a, rfl, rfl⟩
      obtain ⟨hd1, hi⟩ := range_split hd
      have hdl : d.length = i := by rw [hd1]; exact List.length_range
      have K1 : mulOk 7 (i : Int) = true := mulL
      have K2 : mulOk 11 (i : Int) = true := mulL
      have m1 := Mx (c + 7 * (i : Nat)) 9929 999 st' (by decide) (by decide) (by decide)
      have m2 := Mx (c + 11 * (i : Nat)) 9923 10 st' (by decide) (by decide) (by decide)
      have ha := abc8 (st := st') (show i < 8 by omega)
      have hl : ((d.map (tgtP c)).map eT).length < sizeLine := smallL (by simp [hdl]; omega)
      refine ⟨[.val (.int c), .val (.int n), .own (((d ++ [i]).map (tgtP c)).map eT), .val (.int (i : Nat)), .no, .no, .no, .no, .no], st', ?_, _, rfl, rfl⟩
      simp only [EV, lift_some, R.bind_ok, R.s_ok, R.s_exc, w_noExc_ok, List.getElem?_cons_zero, List.getElem?_cons_succ, List.getElem?_nil, List.set_cons_zero, List.set_cons_succ, List.map_cons, List.map_nil, List.length_cons, List.length_nil, List.cons_append, List.nil_append, getV, getO, wipeE, startE, List.replicate, Nat.reduceAdd, Nat.reduceSub, Nat.reduceLT, Nat.reduceLeDiff, if_true, if_false, Bool.false_eq_true, Bool.true_eq_false, reduceIte, endOf_next, endOf_ret, endOf_exc, decide_true, decide_false, Bool.not_true, Bool.not_false, ha, o_mul K1, o_mul K2, m1, m2, if_pos hl]
      simp [eT, tgtP])
  refine en_step q ?_
  simp only at h1 h2
  rw [h1, h2]
  clear q h1 h2
  have hbank : ∀ (a : B.Slot), evC (sem defs (m + 2)) (.comp (.call x.i__law_bank (.cons (.bin .add (.var 0) (.bin .mul (.con (.int 29)) (.var 3))) (.cons (.var 1) .nil))) (.nm 3) (.rng1 (.call x.i__law_mix (.cons (.var 0) (.cons (.con (.int 9907)) (.cons (.con (.int 5)) .nil))))) .none [3]) [.val (.int c), .val (.int n), .own (((List.range n).map (tgtP c)).map eT), a, .no, .no, .no, .no, .no] st
      = .ok (((List.range (mixN c 9907 5)).map fun i : Nat => bankP (c + 29 * i) n).map eBank) st := fun a =>
    (comp_all (fun i : Nat => D.int (i : Nat)) (List.range (mixN c 9907 5)) (eBank ∘ fun i : Nat => bankP (c + 29 * i) n) (it_rng1 (by simp only [EV, lift_some, R.bind_ok, R.s_ok, R.s_exc, w_noExc_ok, List.getElem?_cons_zero, List.getElem?_cons_succ, List.getElem?_nil, List.set_cons_zero, List.set_cons_succ, List.map_cons, List.map_nil, List.length_cons, List.length_nil, List.cons_append, List.nil_append, getV, getO, wipeE, startE, List.replicate, Nat.reduceAdd, Nat.reduceSub, Nat.reduceLT, Nat.reduceLeDiff, if_true, if_false, Bool.false_eq_true, Bool.true_eq_false, reduceIte, endOf_next, endOf_ret, endOf_exc, decide_true, decide_false, Bool.not_true, Bool.not_false, Mx c 9907 5 st (by decide) (by decide) (by decide)]) (rng0_ok (by have : (mixN c 9907 5 : Int) < 5 := mixN_lt (by decide); omega)) rfl) rfl fun i hi => by
      have K1 : mulOk 29 (i : Int) = true := mulL
      simp only [EV, lift_some, R.bind_ok, R.s_ok, R.s_exc, w_noExc_ok, List.getElem?_cons_zero, List.getElem?_cons_succ, List.getElem?_nil, List.set_cons_zero, List.set_cons_succ, List.map_cons, List.map_nil, List.length_cons, List.length_nil, List.cons_append, List.nil_append, getV, getO, wipeE, startE, List.replicate, Nat.reduceAdd, Nat.reduceSub, Nat.reduceLT, Nat.reduceLeDiff, if_true, if_false, Bool.false_eq_true, Bool.true_eq_false, reduceIte, endOf_next, endOf_ret, endOf_exc, decide_true, decide_false, Bool.not_true, Bool.not_false, o_mul K1, Bk (c + 29 * (i : Nat)) n st (by omega) (by omega)]
      rfl).trans (by rw [List.map_map])
  have f1 : (mixN c 9901 n : Int) < n := mixN_lt (by omega)
  have f2 : (mixN c 9871 n : Int) < n := mixN_lt (by omega)
  have a1 := abc8 (st := st) (show mixN c 9901 n < 8 by omega)
  have a2 := abc8 (st := st) (show mixN c 9871 n < 8 by omega)
  have m1 := Mx c 9901 n st (by decide) (by decide) (by omega)
  have m2 := Mx c 9887 2 st (by decide) (by decide) (by omega)
  have m3 := Mx c 9883 5 st (by decide) (by decide) (by omega)
  have m4 := Mx c 9871 n st (by decide) (by decide) (by omega)
  have m5 := Mx c 9859 9999 st (by decide) (by decide) (by omega)
  have m6 := Mx c 9851 3 st (by decide) (by decide) (by omega)
  have m7 := Mx c 9857 9000 st (by decide) (by decide) (by omega)
  have m8 := Mx c 9833 3 st (by decide) (by decide) (by omega)
  have m9 := Mx c 9839 31 st (by decide) (by decide) (by omega)
  have m10 := Mx c 9829 3 st (by decide) (by decide) (by omega)
  have m11 := Mx c 9817 4 st (by decide) (by decide) (by omega)
  refine en_step (ρ' := [.val (.int c), .val (.int n), .own (((List.range n).map (tgtP c)).map eT), a, .val (.tup (((List.range (mixN c 9907 5)).map fun i : Nat => bankP (c + 29 * i) n).map eBank)), .no, .no, .no, .no]) (st' := st) (by simp only [EV, lift_some, R.bind_ok, R.s_ok, R.s_exc, w_noExc_ok, List.getElem?_cons_zero, List.getElem?_cons_succ, List.getElem?_nil, List.set_cons_zero, List.set_cons_succ, List.map_cons, List.map_nil, List.length_cons, List.length_nil, List.cons_append, List.nil_append, getV, getO, wipeE, startE, List.replicate, Nat.reduceAdd, Nat.reduceSub, Nat.reduceLT, Nat.reduceLeDiff, if_true, if_false, Bool.false_eq_true, Bool.true_eq_false, reduceIte, endOf_next, endOf_ret, endOf_exc, decide_true, decide_false, Bool.not_true, Bool.not_false, hbank]) ?_
  refine en_step (ρ' := [.val (.int c), .val (.int n), .own (((List.range n).map (tgtP c)).map eT), a, .val (.tup (((List.range (mixN c 9907 5)).map fun i : Nat => bankP (c + 29 * i) n).map eBank)), .val (ePair (letr (mixN c 9901 n), 2 + (mixN c 9887 2 : Nat))), .no, .no, .no]) (st' := st) (by simp only [EV, lift_some, R.bind_ok, R.s_ok, R.s_exc, w_noExc_ok, List.getElem?_cons_zero, List.getElem?_cons_succ, List.getElem?_nil, List.set_cons_zero, List.set_cons_succ, List.map_cons, List.map_nil, List.length_cons, List.length_nil, List.cons_append, List.nil_append, getV, getO, wipeE, startE, List.replicate, Nat.reduceAdd, Nat.reduceSub, Nat.reduceLT, Nat.reduceLeDiff, if_true, if_false, Bool.false_eq_true, Bool.true_eq_false, reduceIte, endOf_next, endOf_ret, endOf_exc, decide_true, decide_false, Bool.not_true, Bool.not_false, m1, m2, a1]; rfl) ?_
  refine en_step (ρ' := [.val (.int c), .val (.int n), .own (((List.range n).map (tgtP c)).map eT), a, .val (.tup (((List.range (mixN c 9907 5)).map fun i : Nat => bankP (c + 29 * i) n).map eBank)), .val (eO ePair (if 0 < mixN c 9883 5 then some (letr (mixN c 9901 n), 2 + (mixN c 9887 2 : Nat)) else none)), .no, .no, .no]) (st' := st) (by
    by_cases z : 0 < mixN c 9883 5
    · have z' : (0 : Int) < (mixN c 9883 5 : Int) := by omega
      simp only [EV, lift_some, R.bind_ok, R.s_ok, R.s_exc, w_noExc_ok, List.getElem?_cons_zero, List.getElem?_cons_succ, List.getElem?_nil, List.set_cons_zero, List.set_cons_succ, List.map_cons, List.map_nil, List.length_cons, List.length_nil, List.cons_append, List.nil_append, getV, getO, wipeE, startE, List.replicate, Nat.reduceAdd, Nat.reduceSub, Nat.reduceLT, Nat.reduceLeDiff, if_true, if_false, Bool.false_eq_true, Bool.true_eq_false, reduceIte, endOf_next, endOf_ret, endOf_exc, decide_true, decide_false, Bool.not_true, Bool.not_false, m3, z, z', eO]
    · have z' : ¬ (0 : Int) < (mixN c 9883 5 : Int) := by omega
      simp only [EV, lift_some, R.bind_ok, R.s_ok, R.s_exc, w_noExc_ok, List.getElem?_cons_zero, List.getElem?_cons_succ, List.getElem?_nil, List.set_cons_zero, List.set_cons_succ, List.map_cons, List.map_nil, List.length_cons, List.length_nil, List.cons_append, List.nil_append, getV, getO, wipeE, startE, List.replicate, Nat.reduceAdd, Nat.reduceSub, Nat.reduceLT, Nat.reduceLeDiff, if_true, if_false, Bool.false_eq_true, Bool.true_eq_false, reduceIte, endOf_next, endOf_ret, endOf_exc, decide_true, decide_false, Bool.not_true, Bool.not_false, m3, z, z', eO]) ?_
  refine en_step (ρ' := [.val (.int c), .val (.int n), .own (((List.range n).map (tgtP c)).map eT), a, .val (.tup (((List.range (mixN c 9907 5)).map fun i : Nat => bankP (c + 29 * i) n).map eBank)), .val (eO ePair (if 0 < mixN c 9883 5 then some (letr (mixN c 9901 n), 2 + (mixN c 9887 2 : Nat)) else none)), .val (ePair (letr (mixN c 9871 n), 1 + (mixN c 9859 9999 : Nat))), .no, .no]) (st' := st) (by simp only [EV, lift_some, R.bind_ok, R.s_ok, R.s_exc, w_noExc_ok, List.getElem?_cons_zero, List.getElem?_cons_succ, List.getElem?_nil, List.set_cons_zero, List.set_cons_succ, List.map_cons, List.map_nil, List.length_cons, List.length_nil, List.cons_append, List.nil_append, getV, getO, wipeE, startE, List.replicate, Nat.reduceAdd, Nat.reduceSub, Nat.reduceLT, Nat.reduceLeDiff, if_true, if_false, Bool.false_eq_true, Bool.true_eq_false, reduceIte, endOf_next, endOf_ret, endOf_exc, decide_true, decide_false, Bool.not_true, Bool.not_false, m4, m5, a2]; rfl) ?_
  refine en_step (ρ' := [.val (.int c), .val (.int n), .own (((List.range n).map (tgtP c)).map eT), a, .val (.tup (((List.range (mixN c 9907 5)).map fun i : Nat => bankP (c + 29 * i) n).map eBank)), .val (eO ePair (if 0 < mixN c 9883 5 then some (letr (mixN c 9901 n), 2 + (mixN c 9887 2 : Nat)) else none)), .val (ePair (letr (mixN c 9871 n), 1 + (mixN c 9859 9999 : Nat))), .val (eO .int (if 0 < mixN c 9851 3 then some (1 + (mixN c 9857 9000 : Nat)) else none)), .no]) (st' := st) (by
    by_cases z : 0 < mixN c 9851 3
    · have z' : (0 : Int) < (mixN c 9851 3 : Int) := by omega
      simp only [EV, lift_some, R.bind_ok, R.s_ok, R.s_exc, w_noExc_ok, List.getElem?_cons_zero, List.getElem?_cons_succ, List.getElem?_nil, List.set_cons_zero, List.set_cons_succ, List.map_cons, List.map_nil, List.length_cons, List.length_nil, List.cons_append, List.nil_append, getV, getO, wipeE, startE, List.replicate, Nat.reduceAdd, Nat.reduceSub, Nat.reduceLT, Nat.reduceLeDiff, if_true, if_false, Bool.false_eq_true, Bool.true_eq_false, reduceIte, endOf_next, endOf_ret, endOf_exc, decide_true, decide_false, Bool.not_true, Bool.not_false, m6, m7, z, z', eO]
    · have z' : ¬ (0 : Int) < (mixN c 9851 3 : Int) := by omega
      simp only [EV, lift_some, R.bind_ok, R.s_ok, R.s_exc, w_noExc_ok, List.getElem?_cons_zero, List.getElem?_cons_succ, List.getElem?_nil, List.set_cons_zero, List.set_cons_succ, List.map_cons, List.map_nil, List.length_cons, List.length_nil, List.cons_append, List.nil_append, getV, getO, wipeE, startE, List.replicate, Nat.reduceAdd, Nat.reduceSub, Nat.reduceLT, Nat.reduceLeDiff, if_true, if_false, Bool.false_eq_true, Bool.true_eq_false, reduceIte, endOf_next, endOf_ret, endOf_exc, decide_true, decide_false, Bool.not_true, Bool.not_false, m6, z, z', eO]) ?_
  refine en_step (ρ' := [.val (.int c), .val (.int n), .own (((List.range n).map (tgtP c)).map eT), a, .val (.tup (((List.range (mixN c 9907 5)).map fun i : Nat => bankP (c + 29 * i) n).map eBank)), .val (eO ePair (if 0 < mixN c 9883 5 then some (letr (mixN c 9901 n), 2 + (mixN c 9887 2 : Nat)) else none)), .val (ePair (letr (mixN c 9871 n), 1 + (mixN c 9859 9999 : Nat))), .val (eO .int (if 0 < mixN c 9851 3 then some (1 + (mixN c 9857 9000 : Nat)) else none)), .val (.tup [.int (if 0 < mixN c 9833 3 then (mixN c 9839 31 : Nat) else 0), .int (1 + (mixN c 9829 3 : Nat))])]) (st' := st) (by
    by_cases z : 0 < mixN c 9833 3
    · have z' : (0 : Int) < (mixN c 9833 3 : Int) := by omega
      simp only [EV, lift_some, R.bind_ok, R.s_ok, R.s_exc, w_noExc_ok, List.getElem?_cons_zero, List.getElem?_cons_succ, List.getElem?_nil, List.set_cons_zero, List.set_cons_succ, List.map_cons, List.map_nil, List.length_cons, List.length_nil, List.cons_append, List.nil_append, getV, getO, wipeE, startE, List.replicate, Nat.reduceAdd, Nat.reduceSub, Nat.reduceLT, Nat.reduceLeDiff, if_true, if_false, Bool.false_eq_true, Bool.true_eq_false, reduceIte, endOf_next, endOf_ret, endOf_exc, decide_true, decide_false, Bool.not_true, Bool.not_false, m8, m9, m10, z, z', eO]
    · have z' : ¬ (0 : Int) < (mixN c 9833 3 : Int) := by omega
      simp only [EV, lift_some, R.bind_ok, R.s_ok, R.s_exc, w_noExc_ok, List.getElem?_cons_zero, List.getElem?_cons_succ, List.getElem?_nil, List.set_cons_zero, List.set_cons_succ, List.map_cons, List.map_nil, List.length_cons, List.length_nil, List.cons_append, List.nil_append, getV, getO, wipeE, startE, List.replicate, Nat.reduceAdd, Nat.reduceSub, Nat.reduceLT, Nat.reduceLeDiff, if_true, if_false, Bool.false_eq_true, Bool.true_eq_false, reduceIte, endOf_next, endOf_ret, endOf_exc, decide_true, decide_false, Bool.not_true, Bool.not_false, m8, m10, z, z', eO]) ?_
  refine en_step (e_frz (xs := ((List.range n).map (tgtP c)).map eT) (by simp only [EV, lift_some, R.bind_ok, R.s_ok, R.s_exc, w_noExc_ok, List.getElem?_cons_zero, List.getElem?_cons_succ, List.getElem?_nil, List.set_cons_zero, List.set_cons_succ, List.map_cons, List.map_nil, List.length_cons, List.length_nil, List.cons_append, List.nil_append, getV, getO, wipeE, startE, List.replicate, Nat.reduceAdd, Nat.reduceSub, Nat.reduceLT, Nat.reduceLeDiff, if_true, if_false, Bool.false_eq_true, Bool.true_eq_false, reduceIte, endOf_next, endOf_ret, endOf_exc, decide_true, decide_false, Bool.not_true, Bool.not_false])) ?_
  have y1 : ∀ d1 d2 d3 d4 d5 d6 : D, binD .add (.tup [d1, d2, d3, d4]) (.tup [d5, d6]) = some (.tup [d1, d2, d3, d4, d5, d6]) := fun _ _ _ _ _ _ => o_addT (small (by simp))
  have y2 : ∀ d1 d2 d3 d4 d5 d6 d7 d8 : D, binD .add (.tup [d1, d2, d3, d4, d5, d6]) (.tup [d7, d8]) = some (.tup [d1, d2, d3, d4, d5, d6, d7, d8]) := fun _ _ _ _ _ _ _ _ => o_addT (small (by simp))
  simp only [EV, lift_some, R.bind_ok, R.s_ok, R.s_exc, w_noExc_ok, List.getElem?_cons_zero, List.getElem?_cons_succ, List.getElem?_nil, List.set_cons_zero, List.set_cons_succ, List.map_cons, List.map_nil, List.length_cons, List.length_nil, List.cons_append, List.nil_append, getV, getO, wipeE, startE, List.replicate, Nat.reduceAdd, Nat.reduceSub, Nat.reduceLT, Nat.reduceLeDiff, if_true, if_false, Bool.false_eq_true, Bool.true_eq_false, reduceIte, endOf_next, endOf_ret, endOf_exc, decide_true, decide_false, Bool.not_true, Bool.not_false, m11, y1, y2, eBook]
/-! ### events -/
def tickP (i : Nat) : Int := [0, 1, 3, 19, 20, 31, 7, 61].getD i 0
theorem tick8 {i : Nat} (h : i < 8) : L2.atI [D.int 0, .int 1, .int 3, .int 19, .int 20, .int 31, .int 7, .int 61] (i : Int) = some (.int (tickP i)) := by
  rw [at_nat]
  match i, h with
  | 0, _ => rfl
  | 1, _ => rfl
  | 2, _ => rfl
  | 3, _ => rfl
  | 4, _ => rfl
  | 5, _ => rfl
  | 6, _ => rfl
  | 7, _ => rfl
theorem tickP_range (i : Nat) : 0 ≤ tickP i ∧ tickP i ≤ 61 := by
  unfold tickP
  match i with
  | 0 => decide
  | 1 => decide
  | 2 => decide
  | 3 => decide
  | 4 => decide
  | 5 => decide
  | 6 => decide
  | 7 => decide
  | n + 8 => simp
def eventP (c : Int) (k : Book) : Ev :=
  if mixN c 9811 16 < 10 then .hit (k.tg.getD (mixN c 9803 k.tg.length) default).nm
  else if mixN c 9811 16 < 12 then .drain
  else if mixN c 9811 16 = 12 then .nudge
  else .ticks (tickP (mixN c 9791 8))
def SpEvent (x : Ix) (Φ : Phi) : Prop := ∀ (c : Int) (k : Book) (st : Store), k.tg ≠ [] → Φ x.i__law_event [.int c, eBook k] st = .ok (eEv (eventP c k)) st
theorem sp_event (h : defs[x.i__law_event]? = some ⟨2, 3, d__law_event x, false⟩) (hm : defs[x.i__law_mix]? = some ⟨3, 4, d__law_mix x, false⟩) (m : Nat) : SpEvent x (sem defs (m + 2)) := fun c k st h0 => by
  rw [sem_at h]
  refine run_end rfl rfl ?_
  have Mx := sp_mix hm m
  have hl : 0 < k.tg.length := List.length_pos_iff.mpr h0
  have m1 := Mx c 9811 16 st (by decide) (by decide) (by decide)
  have m2 := Mx c 9803 k.tg.length st (by decide) (by decide) (by omega)
  have m3 := Mx c 9791 8 st (by decide) (by decide) (by decide)
  have f2 : (mixN c 9803 k.tg.length : Int) < k.tg.length := mixN_lt (by omega)
  have f3 : (mixN c 9791 8 : Int) < 8 := mixN_lt (by decide)
  have hat : L2.atI (k.tg.map eT) ((mixN c 9803 k.tg.length : Nat) : Int) = some (eT (k.tg.getD (mixN c 9803 k.tg.length) default)) := by
    have : mixN c 9803 k.tg.length < k.tg.length := by omega
    rw [at_nat]
    simp [this]
  unfold d__law_event eventP
  by_cases c1 : mixN c 9811 16 < 10
  · have c1' : (mixN c 9811 16 : Int) < 10 := by omega
    simp only [EV, lift_some, R.bind_ok, R.s_ok, R.s_exc, w_noExc_ok, List.getElem?_cons_zero, List.getElem?_cons_succ, List.getElem?_nil, List.set_cons_zero, List.set_cons_succ, List.map_cons, List.map_nil, List.length_cons, List.length_nil, List.cons_append, List.nil_append, getV, getO, wipeE, startE, List.replicate, Nat.reduceAdd, Nat.reduceSub, Nat.reduceLT, Nat.reduceLeDiff, if_true, if_false, Bool.false_eq_true, Bool.true_eq_false, reduceIte, endOf_next, endOf_ret, endOf_exc, decide_true, decide_false, Bool.not_true, Bool.not_false, m1, c1, c1', eBook, List.length_map, m2, hat, eT, eEv]
  · have c1' : ¬ (mixN c 9811 16 : Int) < 10 := by omega
    by_cases c2 : mixN c 9811 16 < 12
    · have c2' : (mixN c 9811 16 : Int) < 12 := by omega
      simp only [EV, lift_some, R.bind_ok, R.s_ok, R.s_exc, w_noExc_ok, List.getElem?_cons_zero, List.getElem?_cons_succ, List.getElem?_nil, List.set_cons_zero, List.set_cons_succ, List.map_cons, List.map_nil, List.length_cons, List.length_nil, List.cons_append, List.nil_append, getV, getO, wipeE, startE, List.replicate, Nat.reduceAdd, Nat.reduceSub, Nat.reduceLT, Nat.reduceLeDiff, if_true, if_false, Bool.false_eq_true, Bool.true_eq_false, reduceIte, endOf_next, endOf_ret, endOf_exc, decide_true, decide_false, Bool.not_true, Bool.not_false, m1, c1, c1', c2, c2', eEv]
    · have c2' : ¬ (mixN c 9811 16 : Int) < 12 := by omega
      by_cases c3 : mixN c 9811 16 = 12
      · have c3' : (mixN c 9811 16 : Int) = 12 := by omega
        simp only [EV, lift_some, R.bind_ok, R.s_ok, R.s_exc, w_noExc_ok, List.getElem?_cons_zero, List.getElem?_cons_succ, List.getElem?_nil, List.set_cons_zero, List.set_cons_succ, List.map_cons, List.map_nil, List.length_cons, List.length_nil, List.cons_append, List.nil_append, getV, getO, wipeE, startE, List.replicate, Nat.reduceAdd, Nat.reduceSub, Nat.reduceLT, Nat.reduceLeDiff, if_true, if_false, Bool.false_eq_true, Bool.true_eq_false, reduceIte, endOf_next, endOf_ret, endOf_exc, decide_true, decide_false, Bool.not_true, Bool.not_false, m1, c1, c1', c2, c2', eq_true c3', eq_true c3, eEv]
      · have c3' : ¬ (mixN c 9811 16 : Int) = 12 := by omega
        simp only [EV, lift_some, R.bind_ok, R.s_ok, R.s_exc, w_noExc_ok, List.getElem?_cons_zero, List.getElem?_cons_succ, List.getElem?_nil, List.set_cons_zero, List.set_cons_succ, List.map_cons, List.map_nil, List.length_cons, List.length_nil, List.cons_append, List.nil_append, getV, getO, wipeE, startE, List.replicate, Nat.reduceAdd, Nat.reduceSub, Nat.reduceLT, Nat.reduceLeDiff, if_true, if_false, Bool.false_eq_true, Bool.true_eq_false, reduceIte, endOf_next, endOf_ret, endOf_exc, decide_true, decide_false, Bool.not_true, Bool.not_false, m1, c1, c1', c2, c2', c3, c3', m3, tick8 (show mixN c 9791 8 < 8 by omega), eEv]
end Bt


set_option Elab.async false
set_option linter.all false
set_option maxRecDepth 100000
set_option maxHeartbeats 4000000
/-! Stories; the laws' table of five targets. -/
namespace Bt
open PySem P B
set_option autoImplicit false
variable {x : Ix} {defs : List Def} {Φ : Phi} {st : Store} {k : Book} {ρ : Slots}
theorem lost_h (k : Book) (m : M) : (lost k m).1.h.length ≤ m.h.length + 3 := by
  unfold lost
  split
  · simp [tell]
  · dsimp only
    split
    · simp only [tell_h]
      split
      · show m.h.length + 1 ≤ _
        omega
      · have := aimed_h k (tell { m with b := { m.b with many := m.b.many - 1 } } s_bonus (10 * m.b.bonus * m.b.factor))
        rw [tell_h] at this
        exact Nat.succ_le_succ this
    · show m.h.length ≤ _
      omega
theorem hit_h (k : Book) (m : M) (t : Tgt) : (hit k m t).h.length ≤ m.h.length + k.bk.length + 5 := by
  unfold hit
  have h1 := aimed_h k (banks k (lights (locks k (jack k (hit1 m t) t.nm) t.nm) t.nm) k.bk)
  have h2 := banks_h k k.bk (lights (locks k (jack k (hit1 m t) t.nm) t.nm) t.nm)
  have h3 : (lights (locks k (jack k (hit1 m t) t.nm) t.nm) t.nm).h = (locks k (jack k (hit1 m t) t.nm) t.nm).h := rfl
  have h4 := locks_h k (jack k (hit1 m t) t.nm) t.nm
  have h5 := jack_h k (hit1 m t) t.nm
  have h6 : (hit1 m t).h.length = m.h.length + 1 := by simp [hit1, tell]
  rw [h3] at h2
  omega
theorem nudge_h (k : Book) (m : M) : (nudge k m).h.length ≤ m.h.length + 2 := by
  unfold nudge
  dsimp only
  split <;> simp [tell]
theorem step_told (k : Book) (s : St) (e : Ev) : (step k s e).2.length ≤ k.bk.length + 5 := by
  cases s with
  | over ps => simp [step]
  | on t ps b =>
    have key : (act k ⟨ps.getD t default, b, []⟩ e).1.h.length ≤ k.bk.length + 5 ∧ ((act k ⟨ps.getD t default, b, []⟩ e).2 = true → (act k ⟨ps.getD t default, b, []⟩ e).1.h.length ≤ 3) := by
      cases e with
      | hit n =>
        simp only [act]
        refine ⟨?_, fun h => nomatch h⟩
        split
        · simp
        · split
          · exact Nat.le_trans (hit_h _ _ _) (by simp)
          · simp
      | drain =>
        have := lost_h k ⟨ps.getD t default, b, []⟩
        simp only [act]
        simp only [List.length_nil] at this
        exact ⟨by omega, fun _ => by omega⟩
      | nudge =>
        simp only [act]
        refine ⟨?_, fun h => nomatch h⟩
        split
        · simp
        · exact Nat.le_trans (nudge_h _ _) (by simp)
      | ticks n => simp [act]
    simp only [step]
    generalize act k ⟨ps.getD t default, b, []⟩ e = r at key ⊢
    split
    · rename_i h
      have := key.2 h
      simp only [ended, told, List.length_map, List.length_append]
      split
      · simp only [List.length_cons, List.length_nil]
        omega
      · simp only [List.length_nil]
        omega
    · simp only [fin, told, List.length_map]
      exact key.1
def storyFrom (k : Book) : Nat → St → List Ev → List (Nat × Told)
  | _, _, [] => []
  | n, s, e :: es => ((step k s e).2.map fun w => (n, w)) ++ storyFrom k (n + 1) (step k s e).1 es
def story (k : Book) (s : St) (es : List Ev) : List (Nat × Told) := storyFrom k 0 s es
def eTold4 (w : Nat × Told) : D := .tup [.int w.1, .int w.2.1, .str w.2.2.1, .int w.2.2.2]
theorem storyFrom_snoc (k : Book) (e : Ev) : ∀ (es : List Ev) (n : Nat) (s : St), storyFrom k n s (es ++ [e]) = storyFrom k n s es ++ (step k (after k s es) e).2.map fun w => (n + es.length, w)
  | [], n, s => by simp [storyFrom, after]
  | d :: es, n, s => by
    have ih := storyFrom_snoc k e es (n + 1) (step k s d).1
    simp only [List.cons_append, storyFrom, ih, List.append_assoc, List.length_cons, after, List.foldl_cons]
    rw [show n + 1 + es.length = n + (es.length + 1) by omega]
    rfl
theorem storyFrom_len (k : Book) : ∀ (es : List Ev) (n : Nat) (s : St), (storyFrom k n s es).length ≤ es.length * (k.bk.length + 5)
  | [], _, _ => by simp [storyFrom]
  | e :: es, n, s => by
    have h1 := storyFrom_len k es (n + 1) (step k s e).1
    have h2 := step_told k s e
    simp only [storyFrom, List.length_append, List.length_map, List.length_cons, Nat.add_mul, Nat.one_mul]
    omega
theorem zip_split {α : Type} {es : List α} {d : List (α × Nat)} {x : α × Nat} {r : List (α × Nat)} (h : es.zipIdx = d ++ x :: r) : x.2 = d.length ∧ d.length < es.length ∧ es = d.map (·.1) ++ x.1 :: r.map (·.1) := by
  have h1 : es = (d ++ x :: r).map (·.1) := by rw [← h]; simp
  have hl : es.length = (d ++ x :: r).length := by rw [← h]; simp
  have h2 : (d ++ x :: r)[d.length]? = some x := by simp
  rw [← h, List.getElem?_zipIdx] at h2
  refine ⟨?_, by rw [hl]; simp, by simpa using h1⟩
  obtain ⟨a, _, e⟩ := Option.map_eq_some_iff.mp h2
  rw [← e]
  simp
theorem it_enum {α : Type} (enc : α → D) {e : Ex} {xs : List α} {st1 : Store} {src : D} (h : evE Φ e ρ st = .ok src st1) (hs : itemsOf st1 src = some (xs.map enc)) :
    evI Φ (.enum e) ρ st = .ok (xs.zipIdx.map (fun p : α × Nat => D.tup [.int (p.2 : Nat), enc p.1]), fun st => srcOk st src (xs.map enc)) st1 := by
  simp only [evI, h, R.bind_ok, hs, lift_some, enumL]
  rw [List.zipIdx_map, List.map_map]
  rfl
def SpStory (x : Ix) (Φ : Phi) : Prop := ∀ (st : Store) (k : Book) (s : St) (es : List Ev) (I : St → Prop), Keeps k I → I s → (∀ e ∈ es, e.ok k) → es.length ≤ 5000 → Φ x.i_story [eBook k, eSt s, .tup (es.map eEv)] st = .ok (.tup ((story k s es).map eTold4)) st
theorem sp_story (H : HasPlay defs x) (hs : defs[x.i_story]? = some ⟨3, 8, d_story x, false⟩) (n : Nat) : SpStory x (sem defs (n + 5)) := fun st k s es I hI hi he hes => by
  rw [sem_at hs]
  refine run_end rfl rfl ?_
  obtain ⟨hb, hok, hst⟩ := hI
  have G := sp_step H n
  unfold d_story story
  refine en_step (ρ' := [.val (eBook k), .val (eSt s), .val (.tup (es.map eEv)), .own [], .no, .no, .no, .no]) (st' := st) (by simp only [EV, lift_some, R.bind_ok, R.s_ok, R.s_exc, w_noExc_ok, List.getElem?_cons_zero, List.getElem?_cons_succ, List.getElem?_nil, List.set_cons_zero, List.set_cons_succ, List.map_cons, List.map_nil, List.length_cons, List.length_nil, List.cons_append, List.nil_append, getV, getO, wipeE, startE, List.replicate, Nat.reduceAdd, Nat.reduceSub, Nat.reduceLT, Nat.reduceLeDiff, if_true, if_false, Bool.false_eq_true, Bool.true_eq_false, reduceIte, endOf_next, endOf_ret, endOf_exc, decide_true, decide_false, Bool.not_true, Bool.not_false]) ?_
  obtain ⟨ρ', st', q, a4, a5, a6, a7, h1, h2, h3⟩ := for_all (Φ := sem defs (n + 4)) (ρ := [.val (eBook k), .val (eSt s), .val (.tup (es.map eEv)), .own [], .no, .no, .no, .no]) (st := st) (st1 := st) (fun p : Ev × Nat => D.tup [.int (p.2 : Nat), eEv p.1]) (tg := .tp (.cons (.nm 4) (.cons (.nm 5) .nil))) (it := .enum (.var 2))
    (body := (.cons (.asg (.tp (.cons (.nm 1) (.cons (.nm 6) .nil))) (.call x.i_step (.cons (.var 0) (.cons (.var 1) (.cons (.var 5) .nil))))) (.cons (.oext 3 (.frz (.comp (.bin .add (.tup (.cons (.var 4) .nil)) (.var 7)) (.nm 7) (.val (.var 6)) .none [7]))) .nil)))
    es.zipIdx (okf := fun st => srcOk st (.tup (es.map eEv)) (es.map eEv)) (fun d p => ∃ a4 a5 a6 a7, p.1 = [.val (eBook k), .val (eSt (after k s (d.map (·.1)))), .val (.tup (es.map eEv)), .own ((storyFrom k 0 s (d.map (·.1))).map eTold4), a4, a5, a6, a7] ∧ p.2 = st ∧ I (after k s (d.map (·.1))))
    (it_enum eEv (by simp only [EV, lift_some, R.bind_ok, R.s_ok, R.s_exc, w_noExc_ok, List.getElem?_cons_zero, List.getElem?_cons_succ, List.getElem?_nil, List.set_cons_zero, List.set_cons_succ, List.map_cons, List.map_nil, List.length_cons, List.length_nil, List.cons_append, List.nil_append, getV, getO, wipeE, startE, List.replicate, Nat.reduceAdd, Nat.reduceSub, Nat.reduceLT, Nat.reduceLeDiff, if_true, if_false, Bool.false_eq_true, Bool.true_eq_false, reduceIte, endOf_next, endOf_ret, endOf_exc, decide_true, decide_false, Bool.not_true, Bool.not_false]) it_tup) (fun _ => rfl) ⟨.no, .no, .no, .no, rfl, rfl, hi⟩ (by
      rintro d e r ρ st' hd ⟨a4, a5, a6, a7, rfl, rfl, hi⟩
      obtain ⟨z1, z2, z3⟩ := zip_split hd
      have hee : e.1.ok k := he e.1 (by rw [z3]; simp)
      have G1 := G st' k (after k s (d.map (·.1))) e.1 hb (hok _ hi) hee
      have hl1 := storyFrom_len k (d.map (·.1)) 0 s
      have hl2 := step_told k (after k s (d.map (·.1))) e.1
      rw [List.length_map] at hl1
      have hc : evC (sem defs (n + 4)) (.comp (.bin .add (.tup (.cons (.var 4) .nil)) (.var 7)) (.nm 7) (.val (.var 6)) .none [7]) [.val (eBook k), .val (eSt (step k (after k s (d.map (·.1))) e.1).1), .val (.tup (es.map eEv)), .own ((storyFrom k 0 s (d.map (·.1))).map eTold4), .val (.int (e.2 : Nat)), .val (eEv e.1), .val (.tup ((step k (after k s (d.map (·.1))) e.1).2.map eTold)), a7] st'
          = .ok ((step k (after k s (d.map (·.1))) e.1).2.map fun w => eTold4 (e.2, w)) st' :=
        comp_all eTold _ _ (it_val eTold (by simp only [EV, lift_some, R.bind_ok, R.s_ok, R.s_exc, w_noExc_ok, List.getElem?_cons_zero, List.getElem?_cons_succ, List.getElem?_nil, List.set_cons_zero, List.set_cons_succ, List.map_cons, List.map_nil, List.length_cons, List.length_nil, List.cons_append, List.nil_append, getV, getO, wipeE, startE, List.replicate, Nat.reduceAdd, Nat.reduceSub, Nat.reduceLT, Nat.reduceLeDiff, if_true, if_false, Bool.false_eq_true, Bool.true_eq_false, reduceIte, endOf_next, endOf_ret, endOf_exc, decide_true, decide_false, Bool.not_true, Bool.not_false])) rfl fun w _ => by
          have y : ∀ d1 d2 d3 d4 : D, binD .add (.tup [d1]) (.tup [d2, d3, d4]) = some (.tup [d1, d2, d3, d4]) := fun _ _ _ _ => o_addT (small (by simp))
          simp only [EV, lift_some, R.bind_ok, R.s_ok, R.s_exc, w_noExc_ok, List.getElem?_cons_zero, List.getElem?_cons_succ, List.getElem?_nil, List.set_cons_zero, List.set_cons_succ, List.map_cons, List.map_nil, List.length_cons, List.length_nil, List.cons_append, List.nil_append, getV, getO, wipeE, startE, List.replicate, Nat.reduceAdd, Nat.reduceSub, Nat.reduceLT, Nat.reduceLeDiff, if_true, if_false, Bool.false_eq_true, Bool.true_eq_false, reduceIte, endOf_next, endOf_ret, endOf_exc, decide_true, decide_false, Bool.not_true, Bool.not_false, eTold, y, eTold4]
      have hz : ((storyFrom k 0 s (d.map (·.1))).map eTold4).length + ((step k (after k s (d.map (·.1))) e.1).2.map fun w => eTold4 (e.2, w)).length ≤ sizeLine := small (by
        rw [List.length_map, List.length_map]
        have a1 : d.length * (k.bk.length + 5) ≤ 5000 * 105 := Nat.mul_le_mul (by omega) (by omega)
        omega)
      refine ⟨[.val (eBook k), .val (eSt (step k (after k s (d.map (·.1))) e.1).1), .val (.tup (es.map eEv)), .own (((storyFrom k 0 s (d.map (·.1))).map eTold4) ++ ((step k (after k s (d.map (·.1))) e.1).2.map fun w => eTold4 (e.2, w))), .val (.int (e.2 : Nat)), .val (eEv e.1), .val (.tup ((step k (after k s (d.map (·.1))) e.1).2.map eTold)), a7], st', ?_, .val (.int (e.2 : Nat)), .val (eEv e.1), .val (.tup ((step k (after k s (d.map (·.1))) e.1).2.map eTold)), a7, ?_, rfl, ?_⟩
      · simp only [EV, lift_some, R.bind_ok, R.s_ok, R.s_exc, w_noExc_ok, List.getElem?_cons_zero, List.getElem?_cons_succ, List.getElem?_nil, List.set_cons_zero, List.set_cons_succ, List.map_cons, List.map_nil, List.length_cons, List.length_nil, List.cons_append, List.nil_append, getV, getO, wipeE, startE, List.replicate, Nat.reduceAdd, Nat.reduceSub, Nat.reduceLT, Nat.reduceLeDiff, if_true, if_false, Bool.false_eq_true, Bool.true_eq_false, reduceIte, endOf_next, endOf_ret, endOf_exc, decide_true, decide_false, Bool.not_true, Bool.not_false, G1, ePairS, hc, if_pos hz]
      · simp only [List.map_append, List.map_cons, List.map_nil, after, List.foldl_append, List.foldl_cons, List.foldl_nil, gone]
        rw [storyFrom_snoc, z1]
        simp only [List.map_append, List.map_map, List.length_map, Nat.zero_add]
        rfl
      · simp only [List.map_append, List.map_cons, List.map_nil, after, List.foldl_append, List.foldl_cons, List.foldl_nil]
        exact hst _ _ hi hee)
  refine en_step q ?_
  simp only at h1 h2
  rw [h1, h2]
  have ez : es.zipIdx.map (·.1) = es := by simp
  rw [ez]
  refine en_step (e_frz (xs := (storyFrom k 0 s es).map eTold4) (by simp only [EV, lift_some, R.bind_ok, R.s_ok, R.s_exc, w_noExc_ok, List.getElem?_cons_zero, List.getElem?_cons_succ, List.getElem?_nil, List.set_cons_zero, List.set_cons_succ, List.map_cons, List.map_nil, List.length_cons, List.length_nil, List.cons_append, List.nil_append, getV, getO, wipeE, startE, List.replicate, Nat.reduceAdd, Nat.reduceSub, Nat.reduceLT, Nat.reduceLeDiff, if_true, if_false, Bool.false_eq_true, Bool.true_eq_false, reduceIte, endOf_next, endOf_ret, endOf_exc, decide_true, decide_false, Bool.not_true, Bool.not_false])) ?_
  refine en_ret (e_ret ?_)
  simp only [EV, lift_some, R.bind_ok, R.s_ok, R.s_exc, w_noExc_ok, List.getElem?_cons_zero, List.getElem?_cons_succ, List.getElem?_nil, List.set_cons_zero, List.set_cons_succ, List.map_cons, List.map_nil, List.length_cons, List.length_nil, List.cons_append, List.nil_append, getV, getO, wipeE, startE, List.replicate, Nat.reduceAdd, Nat.reduceSub, Nat.reduceLT, Nat.reduceLeDiff, if_true, if_false, Bool.false_eq_true, Bool.true_eq_false, reduceIte, endOf_next, endOf_ret, endOf_exc, decide_true, decide_false, Bool.not_true, Bool.not_false]
def SpHits (x : Ix) (Φ : Phi) : Prop := ∀ (st : Store) (l : List Str) (src : D), itemsOf st src = some (l.map .str) → srcOk st src (l.map .str) = true → Φ x.i__law_hits [src] st = .ok (.tup ((l.map Ev.hit).map eEv)) st
theorem sp_hits (h : defs[x.i__law_hits]? = some ⟨1, 2, d__law_hits x, false⟩) (n : Nat) : SpHits x (sem defs (n + 1)) := fun st l src hs ho => by
  rw [sem_at h]
  refine run_end rfl rfl ?_
  unfold d__law_hits
  have hc : evC (sem defs n) (.comp (.tup (.cons (.con (.str s_hit)) (.cons (.var 1) .nil))) (.nm 1) (.val (.var 0)) .none [1]) [.val src, .no] st = .ok (l.map fun n => eEv (.hit n)) st :=
    comp_all D.str l _ (okf := fun st => srcOk st src (l.map .str)) (by simp only [evI, EV, lift_some, R.bind_ok, R.s_ok, R.s_exc, w_noExc_ok, List.getElem?_cons_zero, List.getElem?_cons_succ, List.getElem?_nil, List.set_cons_zero, List.set_cons_succ, List.map_cons, List.map_nil, List.length_cons, List.length_nil, List.cons_append, List.nil_append, getV, getO, wipeE, startE, List.replicate, Nat.reduceAdd, Nat.reduceSub, Nat.reduceLT, Nat.reduceLeDiff, if_true, if_false, Bool.false_eq_true, Bool.true_eq_false, reduceIte, endOf_next, endOf_ret, endOf_exc, decide_true, decide_false, Bool.not_true, Bool.not_false, hs]) ho fun n _ => by simp only [EV, lift_some, R.bind_ok, R.s_ok, R.s_exc, w_noExc_ok, List.getElem?_cons_zero, List.getElem?_cons_succ, List.getElem?_nil, List.set_cons_zero, List.set_cons_succ, List.map_cons, List.map_nil, List.length_cons, List.length_nil, List.cons_append, List.nil_append, getV, getO, wipeE, startE, List.replicate, Nat.reduceAdd, Nat.reduceSub, Nat.reduceLT, Nat.reduceLeDiff, if_true, if_false, Bool.false_eq_true, Bool.true_eq_false, reduceIte, endOf_next, endOf_ret, endOf_exc, decide_true, decide_false, Bool.not_true, Bool.not_false, eEv]
  simp only [EV, lift_some, R.bind_ok, R.s_ok, R.s_exc, w_noExc_ok, List.getElem?_cons_zero, List.getElem?_cons_succ, List.getElem?_nil, List.set_cons_zero, List.set_cons_succ, List.map_cons, List.map_nil, List.length_cons, List.length_nil, List.cons_append, List.nil_append, getV, getO, wipeE, startE, List.replicate, Nat.reduceAdd, Nat.reduceSub, Nat.reduceLT, Nat.reduceLeDiff, if_true, if_false, Bool.false_eq_true, Bool.true_eq_false, reduceIte, endOf_next, endOf_ret, endOf_exc, decide_true, decide_false, Bool.not_true, Bool.not_false, hc, List.map_map]
  rfl
/-! ### the table of five -/
def tgt5 (c : Int) (n : Nat) : Tgt := ⟨letr n, 1 + mixN (c + 7 * n) 9689 900, mixN (c + 11 * n) 9679 10⟩
def tableP (c : Int) (bk : List Bank) (lk : Option (Str × Int)) (sv nu ba : Int) (aim : Option Int) : Book :=
  ⟨(List.range 5).map (tgt5 c), bk, lk, (s_e, 1 + (mixN c 9677 5000 : Nat)), sv, nu, ba, aim⟩
def SpTable (x : Ix) (Φ : Phi) : Prop := ∀ (st : Store) (c : Int) (bk : List Bank) (lk : Option (Str × Int)) (sv nu ba : Int) (aim : Option Int),
  Φ x.i__law_table [.int c, .tup (bk.map eBank), eO ePair lk, .tup [.int sv, .int nu, .int ba, eO .int aim]] st = .ok (eBook (tableP c bk lk sv nu ba aim)) st
theorem sp_table (h : defs[x.i__law_table]? = some ⟨4, 6, d__law_table x, false⟩) (hm : defs[x.i__law_mix]? = some ⟨3, 4, d__law_mix x, false⟩) (m : Nat) : SpTable x (sem defs (m + 2)) := fun st c bk lk sv nu ba aim => by
  rw [sem_at h]
  refine run_end rfl rfl ?_
  have Mx := sp_mix hm m
  unfold d__law_table tableP
  obtain ⟨R0, hR0⟩ : ∃ R0 : D, R0 = .tup [.int sv, .int nu, .int ba, eO .int aim] := ⟨_, rfl⟩
  rw [← hR0]
  refine en_step (ρ' := [.val (.int c), .val (.tup (bk.map eBank)), .val (eO ePair lk), .val R0, .own [], .no]) (st' := st) (by simp only [EV, lift_some, R.bind_ok, R.s_ok, R.s_exc, w_noExc_ok, List.getElem?_cons_zero, List.getElem?_cons_succ, List.getElem?_nil, List.set_cons_zero, List.set_cons_succ, List.map_cons, List.map_nil, List.length_cons, List.length_nil, List.cons_append, List.nil_append, getV, getO, wipeE, startE, List.replicate, Nat.reduceAdd, Nat.reduceSub, Nat.reduceLT, Nat.reduceLeDiff, if_true, if_false, Bool.false_eq_true, Bool.true_eq_false, reduceIte, endOf_next, endOf_ret, endOf_exc, decide_true, decide_false, Bool.not_true, Bool.not_false]) ?_
  obtain ⟨ρ', st', q, a, h1, h2⟩ := for_all (Φ := sem defs (m + 1)) (ρ := [.val (.int c), .val (.tup (bk.map eBank)), .val (eO ePair lk), .val R0, .own [], .no]) (st := st) (st1 := st) (fun i : Nat => D.int (i : Nat)) (tg := .nm 5) (it := .rng1 (.con (.int 5)))
    (body := (.cons (.oapp 4 (.tup (.cons (.idx (.con (.str s_abcde)) (.var 5)) (.cons (.bin .add (.con (.int 1)) (.call x.i__law_mix (.cons (.bin .add (.var 0) (.bin .mul (.con (.int 7)) (.var 5))) (.cons (.con (.int 9689)) (.cons (.con (.int 900)) .nil))))) (.cons (.call x.i__law_mix (.cons (.bin .add (.var 0) (.bin .mul (.con (.int 11)) (.var 5))) (.cons (.con (.int 9679)) (.cons (.con (.int 10)) .nil)))) .nil))))) .nil))
    (List.range 5) (okf := fun _ => true) (fun d p => ∃ a, p.1 = [.val (.int c), .val (.tup (bk.map eBank)), .val (eO ePair lk), .val R0, .own ((d.map (tgt5 c)).map eT), a] ∧ p.2 = st)
    (it_rng1 (n := 5) (by simp only [EV, lift_some, R.bind_ok, R.s_ok, R.s_exc, w_noExc_ok, List.getElem?_cons_zero, List.getElem?_cons_succ, List.getElem?_nil, List.set_cons_zero, List.set_cons_succ, List.map_cons, List.map_nil, List.length_cons, List.length_nil, List.cons_append, List.nil_append, getV, getO, wipeE, startE, List.replicate, Nat.reduceAdd, Nat.reduceSub, Nat.reduceLT, Nat.reduceLeDiff, if_true, if_false, Bool.false_eq_true, Bool.true_eq_false, reduceIte, endOf_next, endOf_ret, endOf_exc, decide_true, decide_false, Bool.not_true, Bool.not_false]; rfl) (rng0_ok (by decide)) rfl) (fun _ => rfl) ⟨.no, rfl, rfl⟩ (by
      rintro d i r ρ st' hd ⟨a, rfl, rfl⟩
      obtain ⟨hd1, hi⟩ := range_split hd
      have hdl : d.length = i := by rw [hd1]; exact List.length_range
      have K1 : mulOk 7 (i : Int) = true := mulL
      have K2 : mulOk 11 (i : Int) = true := mulL
      have m1 := Mx (c + 7 * (i : Nat)) 9689 900 st' (by decide) (by decide) (by decide)
      have m2 := Mx (c + 11 * (i : Nat)) 9679 10 st' (by decide) (by decide) (by decide)
      have ha := abc5 (st := st') (show i < 5 by omega)
      have hl : ((d.map (tgt5 c)).map eT).length < sizeLine := smallL (by simp [hdl]; omega)
      refine ⟨[.val (.int c), .val (.tup (bk.map eBank)), .val (eO ePair lk), .val R0, .own (((d ++ [i]).map (tgt5 c)).map eT), .val (.int (i : Nat))], st', ?_, _, rfl, rfl⟩
      simp only [EV, lift_some, R.bind_ok, R.s_ok, R.s_exc, w_noExc_ok, List.getElem?_cons_zero, List.getElem?_cons_succ, List.getElem?_nil, List.set_cons_zero, List.set_cons_succ, List.map_cons, List.map_nil, List.length_cons, List.length_nil, List.cons_append, List.nil_append, getV, getO, wipeE, startE, List.replicate, Nat.reduceAdd, Nat.reduceSub, Nat.reduceLT, Nat.reduceLeDiff, if_true, if_false, Bool.false_eq_true, Bool.true_eq_false, reduceIte, endOf_next, endOf_ret, endOf_exc, decide_true, decide_false, Bool.not_true, Bool.not_false, ha, o_mul K1, o_mul K2, m1, m2, if_pos hl]
      simp [eT, tgt5])
  refine en_step q ?_
  simp only at h1 h2
  rw [h1, h2]
  refine en_step (e_frz (xs := ((List.range 5).map (tgt5 c)).map eT) (by simp only [EV, lift_some, R.bind_ok, R.s_ok, R.s_exc, w_noExc_ok, List.getElem?_cons_zero, List.getElem?_cons_succ, List.getElem?_nil, List.set_cons_zero, List.set_cons_succ, List.map_cons, List.map_nil, List.length_cons, List.length_nil, List.cons_append, List.nil_append, getV, getO, wipeE, startE, List.replicate, Nat.reduceAdd, Nat.reduceSub, Nat.reduceLT, Nat.reduceLeDiff, if_true, if_false, Bool.false_eq_true, Bool.true_eq_false, reduceIte, endOf_next, endOf_ret, endOf_exc, decide_true, decide_false, Bool.not_true, Bool.not_false])) ?_
  have m3 := Mx c 9677 5000 st (by decide) (by decide) (by decide)
  have y : ∀ d1 d2 d3 d4 d5 d6 d7 d8 : D, binD .add (.tup [d1, d2, d3, d4]) (.tup [d5, d6, d7, d8]) = some (.tup [d1, d2, d3, d4, d5, d6, d7, d8]) := fun _ _ _ _ _ _ _ _ => o_addT (small (by simp))
  refine en_ret (e_ret ?_)
  simp only [EV, lift_some, R.bind_ok, R.s_ok, R.s_exc, w_noExc_ok, List.getElem?_cons_zero, List.getElem?_cons_succ, List.getElem?_nil, List.set_cons_zero, List.set_cons_succ, List.map_cons, List.map_nil, List.length_cons, List.length_nil, List.cons_append, List.nil_append, getV, getO, wipeE, startE, List.replicate, Nat.reduceAdd, Nat.reduceSub, Nat.reduceLT, Nat.reduceLeDiff, if_true, if_false, Bool.false_eq_true, Bool.true_eq_false, reduceIte, endOf_next, endOf_ret, endOf_exc, decide_true, decide_false, Bool.not_true, Bool.not_false, m3, hR0, y, eBook, ePair]
end Bt


set_option Elab.async false
set_option linter.all false
set_option maxRecDepth 100000
set_option maxHeartbeats 4000000
/-! What stays so from step to step. -/
namespace Bt
open PySem P B
set_option autoImplicit false
def Book.names (k : Book) : List Str := k.tg.map (·.nm)
structure BookOk (k : Book) : Prop where
  tgl : k.tg.length < 100
  bkl : k.bk.length < 100
  nus : ∀ n ∈ k.names, PyData.strOk n = true
  sv0 : 0 ≤ k.sv
structure BallOk (k : Book) (b : Ball) : Prop where
  nd : b.lit.Nodup
  sub : ∀ n ∈ b.lit, n ∈ k.names
  f1 : 1 ≤ b.factor
  f5 : b.factor ≤ 5
  d0 : 0 ≤ b.double
  d20 : b.double ≤ 20
  s0 : 0 ≤ b.saves
theorem mem_distinct {K : Type} [DecidableEq K] (l : List K) (x : K) : x ∈ distinct l ↔ x ∈ l := by
  have go : ∀ (l acc : List K), x ∈ l.foldl (fun acc x => if x ∈ acc then acc else acc ++ [x]) acc ↔ x ∈ acc ∨ x ∈ l := by
    intro l
    induction l with
    | nil => intro acc; simp
    | cons y l ih =>
      intro acc
      rw [List.foldl_cons, ih]
      split
      · rename_i h
        simp only [List.mem_cons]
        constructor
        · rintro (h1 | h1)
          · exact .inl h1
          · exact .inr (.inr h1)
        · rintro (h1 | rfl | h1)
          · exact .inl h1
          · exact .inl h
          · exact .inr h1
      · simp [or_assoc]
  have := go l []
  unfold distinct
  simpa using this
theorem nodup_distinct {K : Type} [DecidableEq K] (l : List K) : (distinct l).Nodup := by
  have go : ∀ (l acc : List K), acc.Nodup → (l.foldl (fun acc x => if x ∈ acc then acc else acc ++ [x]) acc).Nodup := by
    intro l
    induction l with
    | nil => intro acc h; exact h
    | cons y l ih =>
      intro acc h
      rw [List.foldl_cons]
      apply ih
      split
      · exact h
      · rename_i hy
        rw [List.nodup_append]
        exact ⟨h, by simp, fun a ha b hb => by
          rw [List.mem_singleton] at hb
          subst hb
          exact fun z => hy (z ▸ ha)⟩
  exact go l [] List.nodup_nil
theorem mem_litUp {l : List Str} {n x : Str} : x ∈ litUp l n ↔ x ∈ l ∨ x = n := by
  unfold litUp
  rw [(List.mergeSort_perm _ _).mem_iff, mem_distinct]
  simp
theorem nodup_litUp (l : List Str) (n : Str) : (litUp l n).Nodup := by
  unfold litUp
  exact (List.mergeSort_perm _ _).nodup_iff.mpr (nodup_distinct _)
theorem nodup_sub_len {α : Type} [DecidableEq α] {l m : List α} (h : l.Nodup) (hs : ∀ x ∈ l, x ∈ m) : l.length ≤ m.length := by
  induction l generalizing m with
  | nil => simp
  | cons x l ih =>
    rw [List.nodup_cons] at h
    have hx := hs x List.mem_cons_self
    have := ih (m := m.erase x) h.2 fun y hy => (List.mem_erase_of_ne fun e => h.1 (by rw [← e]; exact hy)).mpr (hs y (List.mem_cons_of_mem _ hy))
    rw [List.length_erase_of_mem hx] at this
    have : 0 < m.length := List.length_pos_iff.mpr fun e => by rw [e] at hx; cases hx
    simp only [List.length_cons]
    omega
section
variable {k : Book} {m : M}
theorem tell_b (m : M) (w : Str) (n : Int) : (tell m w n).b = m.b := rfl
theorem aimed_b (k : Book) (m : M) : (aimed k m).b = m.b := by
  unfold aimed
  split
  · split <;> rfl
  · rfl
theorem jack_b (k : Book) (m : M) (n : Str) : (jack k m n).b = m.b := by
  unfold jack
  split <;> rfl
theorem locks_ok (hk : BookOk k) (h : BallOk k m.b) (n : Str) : BallOk k (locks k m n).b := by
  have h1 : BallOk k { m.b with opn := false, saves := k.sv } := ⟨h.nd, h.sub, h.f1, h.f5, h.d0, h.d20, hk.sv0⟩
  unfold locks
  split
  · split
    · dsimp only
      split
      · exact ⟨h1.nd, h1.sub, h1.f1, h1.f5, h1.d0, h1.d20, h1.s0⟩
      · exact h1
    · exact h
  · exact h
theorem award_ok (h : BallOk k m.b) (w : Str) : BallOk k (award k m w).b := by
  have f1 := h.f1
  have f5 := h.f5
  unfold award
  split
  · refine ⟨h.nd, h.sub, ?_, ?_, h.d0, h.d20, h.s0⟩
    · show 1 ≤ (if m.b.factor + 1 < 5 then m.b.factor + 1 else 5)
      split <;> omega
    · show (if m.b.factor + 1 < 5 then m.b.factor + 1 else 5) ≤ 5
      split <;> omega
  split
  · exact ⟨h.nd, h.sub, h.f1, h.f5, (by decide : (0 : Int) ≤ 20), Int.le_refl _, h.s0⟩
  split
  · exact ⟨h.nd, h.sub, h.f1, h.f5, h.d0, h.d20, h.s0⟩
  split
  · exact h
  · exact ⟨h.nd, h.sub, h.f1, h.f5, h.d0, h.d20, h.s0⟩
theorem bank_ok (h : BallOk k m.b) (a : Bank) : BallOk k (bank k m a).b := by
  unfold bank
  split
  · exact award_ok (m := { m with b := { m.b with lit := m.b.lit.filter fun l => decide (l ∉ a.ns) } }) ⟨h.nd.filter _, fun n hn => h.sub n (List.mem_filter.mp hn).1, h.f1, h.f5, h.d0, h.d20, h.s0⟩ a.aw
  · exact h
theorem banks_ok : ∀ (l : List Bank) {m : M}, BallOk k m.b → BallOk k (banks k m l).b
  | [], _, h => h
  | a :: l, m, h => banks_ok l (m := bank k m a) (bank_ok h a)
theorem hit_ok (hk : BookOk k) (h : BallOk k m.b) (t : Tgt) (ht : t.nm ∈ k.names) : BallOk k (hit k m t).b := by
  unfold hit
  rw [aimed_b]
  refine banks_ok _ ?_
  have h1 : BallOk k (hit1 m t).b := ⟨h.nd, h.sub, h.f1, h.f5, h.d0, h.d20, h.s0⟩
  have h2 : BallOk k (jack k (hit1 m t) t.nm).b := by rw [jack_b]; exact h1
  have h3 := locks_ok hk h2 t.nm
  refine ⟨nodup_litUp _ _, fun n hn => ?_, h3.f1, h3.f5, h3.d0, h3.d20, h3.s0⟩
  rcases mem_litUp.mp hn with hn | rfl
  · exact h3.sub n hn
  · exact ht
theorem nudge_ok (h : BallOk k m.b) : BallOk k (nudge k m).b := by
  unfold nudge
  dsimp only
  split
  · exact ⟨List.nodup_nil, fun n hn => (nomatch hn), h.f1, h.f5, Int.le_refl _, (by decide : (0 : Int) ≤ 20), Int.le_refl _⟩
  · exact ⟨h.nd, h.sub, h.f1, h.f5, h.d0, h.d20, h.s0⟩
theorem tick_ok {b : Ball} (h : BallOk k b) : BallOk k (tick b) := by
  have d0 := h.d0
  have d20 := h.d20
  have s0 := h.s0
  unfold tick
  dsimp only
  split
  · split
    · refine ⟨h.nd, h.sub, h.f1, h.f5, ?_, ?_, ?_⟩ <;> dsimp only <;> split <;> omega
    · refine ⟨h.nd, h.sub, h.f1, h.f5, ?_, ?_, ?_⟩ <;> dsimp only <;> split <;> omega
  · refine ⟨h.nd, h.sub, h.f1, h.f5, ?_, ?_, ?_⟩ <;> dsimp only <;> split <;> omega
theorem tickN_ok : ∀ (n : Nat) {b : Ball}, BallOk k b → BallOk k (tickN n b)
  | 0, _, h => h
  | n + 1, b, h => by
    unfold tickN
    split
    · exact h
    · exact tickN_ok n (tick_ok h)
theorem fresh_ok (hk : BookOk k) : BallOk k (fresh k) := ⟨List.nodup_nil, fun n hn => (nomatch hn), Int.le_refl _, (by decide : (1 : Int) ≤ 5), Int.le_refl _, (by decide : (0 : Int) ≤ 20), hk.sv0⟩
theorem lost_ok (h : BallOk k m.b) : BallOk k (lost k m).1.b := by
  unfold lost
  split
  · exact ⟨h.nd, h.sub, h.f1, h.f5, h.d0, h.d20, Int.le_refl _⟩
  · dsimp only
    have h1 : BallOk k { m.b with many := m.b.many - 1 } := ⟨h.nd, h.sub, h.f1, h.f5, h.d0, h.d20, h.s0⟩
    split
    · show BallOk k (tell _ _ _).b
      rw [tell_b]
      split
      · exact h1
      · rw [aimed_b]
        exact h1
    · exact h1
end
theorem find_mem {k : Book} {n : Str} {t : Tgt} (h : k.find n = some t) : t ∈ k.tg ∧ t.nm = n := by
  unfold Book.find at h
  exact ⟨List.mem_of_find?_eq_some h, by simpa using List.find?_some h⟩
theorem find_name {k : Book} {n : Str} {t : Tgt} (h : k.find n = some t) : t.nm ∈ k.names := List.mem_map.mpr ⟨t, (find_mem h).1, rfl⟩
theorem act_ok {k : Book} {m : M} (hk : BookOk k) (h : BallOk k m.b) (e : Ev) : BallOk k (act k m e).1.b := by
  cases e with
  | hit n =>
    simp only [act]
    split
    · exact h
    · split
      · rename_i t ht
        exact hit_ok hk h t (find_name ht)
      · exact h
  | drain => exact lost_ok h
  | nudge =>
    simp only [act]
    split
    · exact h
    · exact nudge_ok h
  | ticks n => exact tickN_ok _ h
def Inv (k : Book) : St → Prop
  | .on t ps b => t < ps.length ∧ ps.length < 1000 ∧ BallOk k b
  | .over _ => True
theorem inv_ok {k : Book} (hk : BookOk k) : ∀ s, Inv k s → s.ok
  | .over _, _ => trivial
  | .on t ps b, ⟨h1, h2, h3⟩ => by
    have hl := nodup_sub_len h3.nd h3.sub
    have : k.names.length < 100 := by simpa [Book.names] using hk.tgl
    have f1 := h3.f1
    have f5 := h3.f5
    exact ⟨h1, h2, by omega, by omega, by omega⟩
theorem nextOf_lt {ps : List Pl} {t o : Nat} (h : nextOf ps t = some o) : o < ps.length := by
  unfold nextOf at h
  have := List.mem_of_find?_eq_some h
  obtain ⟨j, hj, rfl⟩ := List.mem_map.mp this
  have := List.mem_range.mp hj
  exact Nat.mod_lt _ (by omega)
theorem pass_ok {k : Book} (hk : BookOk k) {t : Nat} {ps : List Pl} (ht : t < ps.length) (hp : ps.length < 1000) : Inv k (pass k t ps) := by
  unfold pass
  dsimp only
  split
  · exact ⟨by simpa using ht, by simpa using hp, fresh_ok hk⟩
  · split
    · rename_i o ho
      exact ⟨by simpa using nextOf_lt ho, by simpa using hp, fresh_ok hk⟩
    · trivial
theorem step_inv {k : Book} (hk : BookOk k) (s : St) (e : Ev) (h : Inv k s) : Inv k (step k s e).1 := by
  cases s with
  | over ps => trivial
  | on t ps b =>
    obtain ⟨h1, h2, h3⟩ := h
    have ha := act_ok (m := ⟨ps.getD t default, b, []⟩) hk h3 e
    simp only [step]
    generalize act k ⟨ps.getD t default, b, []⟩ e = r at ha ⊢
    split
    · exact pass_ok hk (by simpa using h1) (by simpa using h2)
    · exact ⟨by simpa using h1, by simpa using h2, ha⟩
theorem keeps {k : Book} (hk : BookOk k) : Keeps k (Inv k) := ⟨hk.bkl, inv_ok hk, fun s e h _ => step_inv hk s e h⟩
theorem begun_inv {k : Book} (hk : BookOk k) {n : Nat} (h0 : 0 < n) (h1 : n < 1000) : Inv k (begun k n) := ⟨by simpa using h0, by simpa using h1, fresh_ok hk⟩
theorem after_inv {k : Book} (hk : BookOk k) : ∀ (es : List Ev) (s : St), Inv k s → Inv k (after k s es)
  | [], _, h => h
  | e :: es, s, h => after_inv hk es (gone k s e) (step_inv hk s e h)
/-! ### what is plain data -/
theorem ok_int (n : Nat) (i : Int) : eqOk n (.int i) = true := by cases n <;> rfl
theorem ok_bl (n : Nat) (i : Bool) : eqOk n (.bl i) = true := by cases n <;> rfl
theorem ok_non (n : Nat) : eqOk n .non = true := by cases n <;> rfl
theorem ok_str (n : Nat) {s : Str} (h : PyData.strOk s = true) : eqOk n (.str s) = true := by cases n <;> exact h
theorem ok_tup (n : Nat) (xs : List D) : eqOk (n + 1) (.tup xs) = xs.all (eqOk n) := rfl
theorem ok_lst (n : Nat) (xs : List D) : eqOk (n + 1) (.lst xs) = xs.all (eqOk n) := rfl
theorem ok_pl (n : Nat) (q : Pl) : eqOk (n + 1) (ePl q) = true := by
  simp [ePl, lPl, ok_tup, ok_int, ok_bl]
theorem ok_ball (n : Nat) {b : Ball} (h : ∀ x ∈ b.lit, PyData.strOk x = true) : eqOk (n + 2) (eBall b) = true := by
  have : eqOk (n + 1) (.tup (b.lit.map .str)) = true := by
    rw [ok_tup, List.all_map, List.all_eq_true]
    exact fun x hx => ok_str n (h x hx)
  simp [eBall, lBall, ok_tup, ok_int, ok_bl, this]
theorem lit_ok {k : Book} {b : Ball} (hk : BookOk k) (h : BallOk k b) : ∀ x ∈ b.lit, PyData.strOk x = true := fun x hx => hk.nus x (h.sub x hx)
theorem ok_pls (n : Nat) (ps : List Pl) : eqOk (n + 2) (.tup (ps.map ePl)) = true := by
  rw [ok_tup, List.all_map, List.all_eq_true]
  exact fun x _ => ok_pl n x
theorem ok_st (n : Nat) {k : Book} (hk : BookOk k) {s : St} (h : Inv k s) : eqOk (n + 3) (eSt s) = true := by
  cases s with
  | on t ps b =>
    have h1 := ok_ball n (lit_ok hk h.2.2)
    have h2 := ok_pls n ps
    simp [eSt, ok_tup, ok_int, h1, h2]
  | over ps =>
    have h2 := ok_pls n ps
    simp [eSt, ok_tup, ok_non, h2]
/-- alike data are not unlike -/
theorem eq_same {st : Store} {d : D} (h : eqOk 60 d = true) : cmpD .eq st d d = some true := by
  have v : view st d = d := by
    cases d <;> first | rfl | (cases h)
  simp only [cmpD, v]
  exact B.eq_self h
theorem ne_same {st : Store} {d : D} (h : eqOk 60 d = true) : cmpD .ne st d d = some false := by
  have v : view st d = d := by
    cases d <;> first | rfl | (cases h)
  simp only [cmpD, v, B.eq_self h, Option.map_some, Bool.not_true]
end Bt


set_option Elab.async false
set_option linter.all false
set_option maxRecDepth 100000
set_option maxHeartbeats 4000000
/-! Plain facts for the laws over the table of five. -/
namespace Bt
open PySem P B
set_option autoImplicit false
variable {x : Ix} {defs : List Def} {Φ : Phi} {st : Store} {k : Book} {ρ : Slots}
def max0 (z : Int) : Int := if z > 0 then z else 0
theorem max0_pos {z : Int} (h : 0 < z) : max0 z = z := if_pos h
theorem max0_neg {z : Int} (h : z ≤ 0) : max0 z = 0 := if_neg (by omega)
/-- ticks, where no warning is to be forgotten -/
theorem tickN_calm : ∀ (n : Nat) (b : Ball), b.calm = 0 → 0 ≤ b.double → 0 ≤ b.saves → tickN n b = { b with double := max0 (b.double - n), saves := max0 (b.saves - n) }
  | 0, b, hc, hd, hs => by
    have e1 : max0 (b.double - (0 : Nat)) = b.double := by
      unfold max0
      split <;> omega
    have e2 : max0 (b.saves - (0 : Nat)) = b.saves := by
      unfold max0
      split <;> omega
    simp only [tickN]
    rw [e1, e2]
  | n + 1, b, hc, hd, hs => by
    unfold tickN
    split
    · rename_i h
      simp only [still, Bool.and_eq_true, decide_eq_true_eq] at h
      obtain ⟨⟨h1, h2⟩, h3⟩ := h
      have e1 : max0 (b.double - ((n + 1 : Nat) : Int)) = b.double := by
        rw [h1]
        exact max0_neg (by omega)
      have e2 : max0 (b.saves - ((n + 1 : Nat) : Int)) = b.saves := by
        rw [h2]
        exact max0_neg (by omega)
      rw [e1, e2]
    · have et : tick b = { b with double := max0 (b.double - 1), saves := max0 (b.saves - 1) } := by
        unfold tick max0
        dsimp only
        rw [hc, if_neg (by decide)]
      have q0 : ∀ z, 0 ≤ max0 z := fun z => by unfold max0; split <;> omega
      rw [et, tickN_calm n { b with double := max0 (b.double - 1), saves := max0 (b.saves - 1) } hc (q0 _) (q0 _)]
      dsimp only
      have e : ∀ z : Int, max0 (max0 (z - 1) - n) = max0 (z - ((n + 1 : Nat) : Int)) := by
        intro z
        unfold max0
        split <;> split <;> (try split) <;> omega
      rw [e, e]
/-! ### one player alone -/
theorem next1 (q : Pl) : nextOf [q] 0 = if 0 < q.left then some 0 else none := by
  unfold nextOf
  by_cases h : 0 < q.left
  · simp [List.range_succ, h]
  · simp [List.range_succ, h]
theorem gd1 (q : Pl) : [q].getD 0 default = q := rfl
theorem sd1 (q r : Pl) : [q].set 0 r = [r] := rfl
theorem pass1_more {q : Pl} (he : ¬ 0 < q.ext) (hl : 0 < q.left) : pass k 0 [q] = .on 0 [{ q with left := q.left - 1 }] (fresh k) := by
  unfold pass
  simp [gd1, he, next1, hl]
theorem pass1_over {q : Pl} (he : ¬ 0 < q.ext) (hl : ¬ 0 < q.left) : pass k 0 [q] = .over [q] := by
  unfold pass
  simp [gd1, he, next1, hl]
theorem pass1_extra {q : Pl} (he : 0 < q.ext) : pass k 0 [q] = .on 0 [{ q with ext := q.ext - 1 }] (fresh k) := by
  unfold pass
  simp [gd1, he]
theorem drain1_saved {q : Pl} {b : Ball} (h : 0 < b.saves) : step k (.on 0 [q] b) .drain = (.on 0 [q] { b with saves := 0 }, [(0, s_saved, 0)]) := by
  simp [step, act, lost, h, fin, told, tell]
theorem drain1_less {q : Pl} {b : Ball} (h : ¬ 0 < b.saves) (hm : b.many - 1 ≠ 0) : step k (.on 0 [q] b) .drain = (.on 0 [q] { b with many := b.many - 1 }, []) := by
  simp [step, act, lost, h, hm, fin, told]
theorem drain1_tilt {q : Pl} {b : Ball} (h : ¬ 0 < b.saves) (hm : b.many = 1) (ht : b.tilted = true) (he : ¬ 0 < q.ext) (hl : 0 < q.left) :
    step k (.on 0 [q] b) .drain = (.on 0 [{ q with left := q.left - 1 }] (fresh k), [(0, s_end, 0)]) := by
  have p := pass1_more (k := k) (q := { q with pts := q.pts + 0 }) he hl
  simp only [Int.add_zero] at p
  simp [step, act, lost, h, hm, ht, ended, told, tell, p, St.isOver]
theorem drain1_end {q : Pl} {b : Ball} (h : ¬ 0 < b.saves) (hm : b.many = 1) (ht : b.tilted = false) (ha : k.aim = none) (he : ¬ 0 < q.ext) (hl : 0 < q.left) :
    step k (.on 0 [q] b) .drain = (.on 0 [{ q with pts := q.pts + 10 * b.bonus * b.factor, left := q.left - 1 }] (fresh k), [(0, s_bonus, 10 * b.bonus * b.factor), (0, s_end, 0)]) := by
  have p := pass1_more (k := k) (q := { q with pts := q.pts + 10 * b.bonus * b.factor }) he hl
  simp [step, act, lost, h, hm, ht, aimed, ha, ended, told, tell, p, St.isOver]
theorem drain1_over {q : Pl} {b : Ball} (h : ¬ 0 < b.saves) (hm : b.many = 1) (ht : b.tilted = false) (ha : k.aim = none) (he : ¬ 0 < q.ext) (hl : ¬ 0 < q.left) :
    step k (.on 0 [q] b) .drain = (.over [{ q with pts := q.pts + 10 * b.bonus * b.factor }], [(0, s_bonus, 10 * b.bonus * b.factor), (0, s_end, 0), (0, s_over, 0)]) := by
  have p := pass1_over (k := k) (q := { q with pts := q.pts + 10 * b.bonus * b.factor }) he hl
  simp [step, act, lost, h, hm, ht, aimed, ha, ended, told, tell, p, St.isOver]
theorem hit1_step {q : Pl} {b : Ball} {n : Str} {g : Tgt} (ht : b.tilted = false) (hg : k.find n = some g) :
    step k (.on 0 [q] b) (.hit n) = (.on 0 [(hit k ⟨q, b, []⟩ g).q] (hit k ⟨q, b, []⟩ g).b, told 0 (hit k ⟨q, b, []⟩ g).h) := by
  simp [step, act, ht, hg, fin]
theorem tilt1_hit {q : Pl} {b : Ball} {n : Str} (ht : b.tilted = true) : step k (.on 0 [q] b) (.hit n) = (.on 0 [q] b, []) := by
  simp [step, act, ht, fin, told]
theorem tilt1_nudge {q : Pl} {b : Ball} (ht : b.tilted = true) : step k (.on 0 [q] b) .nudge = (.on 0 [q] b, []) := by
  simp [step, act, ht, fin, told]
theorem nudge1 {q : Pl} {b : Ball} (ht : b.tilted = false) : step k (.on 0 [q] b) .nudge = (.on 0 [(nudge k ⟨q, b, []⟩).q] (nudge k ⟨q, b, []⟩).b, told 0 (nudge k ⟨q, b, []⟩).h) := by
  simp [step, act, ht, fin]
theorem ticks1 {q : Pl} {b : Ball} {n : Int} : step k (.on 0 [q] b) (.ticks n) = (.on 0 [q] (tickN n.toNat b), []) := by
  simp [step, act, fin, told]
def addBonus (x y : Int) : Int := if x + y < 99 then x + y else 99
/-- a hit, where there is neither bank nor lock nor aim, and one ball -/
theorem hit_plain {q : Pl} {b : Ball} {g : Tgt} (hb : k.bk = []) (hl : k.lk = none) (ha : k.aim = none) (hm : b.many = 1) :
    hit k ⟨q, b, []⟩ g = ⟨{ q with pts := q.pts + doubled b g.pt }, { b with bonus := addBonus b.bonus g.bo, lit := litUp b.lit g.nm }, [(s_hit, doubled b g.pt)]⟩ := by
  simp [hit, aimed, ha, banks, hb, lights, locks, hl, jack, hit1, tell, hm, addBonus]
  rfl
/-! ### the table's targets -/
theorem find5 (c : Int) (bk : List Bank) (lk : Option (Str × Int)) (sv nu ba : Int) (aim : Option Int) {i : Nat} (hi : i < 5) : (tableP c bk lk sv nu ba aim).find (letr i) = some (tgt5 c i) := by
  unfold Book.find tableP
  have : ∀ j, (decide ((tgt5 c j).nm = letr i)) = decide (j = i) := fun j => by
    by_cases h : j = i
    · subst h
      simp [tgt5]
    · have : letr j ≠ letr i := fun e => h (letr_inj e)
      simp [tgt5, h, this]
  rw [List.find?_map]
  have e : (fun t : Tgt => decide (t.nm = letr i)) ∘ tgt5 c = fun j => decide (j = i) := funext this
  rw [e]
  match i, hi with
  | 0, _ => rfl
  | 1, _ => rfl
  | 2, _ => rfl
  | 3, _ => rfl
  | 4, _ => rfl
theorem letr_ok (i : Nat) (h : i < 1000) : PyData.strOk (letr i) = true := by
  simp [PyData.strOk, letr]
  omega
theorem table_ok (c : Int) {bk : List Bank} (hb : bk.length < 100) (lk : Option (Str × Int)) {sv : Int} (hs : 0 ≤ sv) (nu ba : Int) (aim : Option Int) : BookOk (tableP c bk lk sv nu ba aim) := by
  refine ⟨by simp [tableP], hb, ?_, hs⟩
  intro n hn
  simp only [Book.names, tableP, List.map_map] at hn
  obtain ⟨i, hi, rfl⟩ := List.mem_map.mp hn
  have := List.mem_range.mp hi
  exact letr_ok i (by omega)
/-- a text's letters -/
theorem signs_of {s : Str} {l : List Nat} (h : s.cps.toList = l.map (97 + ·)) (hl : l.length ≤ 1000) : itemsOf st (.str s) = some ((l.map letr).map .str) := by
  have h2 : s.length ≤ sizeLine := small (by
    have := congrArg List.length h
    simp at this
    unfold Str.length
    omega)
  simp only [itemsOf, view_str, if_pos h2, signs, h, List.map_map]
  rfl
theorem s_a_eq : s_a = letr 0 := by decide +kernel
theorem s_b_eq : s_b = letr 1 := by decide +kernel
theorem s_c_eq : s_c = letr 2 := by decide +kernel
theorem s_d_eq : s_d = letr 3 := by decide +kernel
theorem s_e_eq : s_e = letr 4 := by decide +kernel
/-- the words of a story -/
def words (l : List (Nat × Told)) : List Str := l.map fun w => w.2.2.1
theorem words_comp {w0 : List (Nat × Told)} {it : Wk} {ρ : Slots} {i j l m : Nat} {r : Nat → Str} (hi : evI Φ it ρ st = .ok (w0.map eTold4, fun st => srcOk st (.tup (w0.map eTold4)) (w0.map eTold4)) st)
    (hx : ∀ w ∈ w0, ((asT Φ (.tp (.cons (.nm i) (.cons (.nm j) (.cons (.nm l) (.cons (.nm m) .nil))))) (eTold4 w) (wipeE ρ [i, j, l, m]) st).bind fun ρ' st => evE Φ (.var l) ρ' st) = .ok (.str w.2.2.1) st) :
    evC Φ (.comp (.var l) (.tp (.cons (.nm i) (.cons (.nm j) (.cons (.nm l) (.cons (.nm m) .nil))))) it .none [i, j, l, m]) ρ st = .ok ((words w0).map .str) st := by
  rw [words, List.map_map]
  exact comp_all eTold4 w0 _ hi rfl hx
/-! ### parts of states -/
theorem ba_0 {b : Ball} : idxD st (eBall b) (.int 0) = some (.int b.many) := at_nat (lBall b) 0
theorem ba_1 {b : Ball} : idxD st (eBall b) (.int 1) = some (.tup (b.lit.map .str)) := at_nat (lBall b) 1
theorem ba_2 {b : Ball} : idxD st (eBall b) (.int 2) = some (.int b.bonus) := at_nat (lBall b) 2
theorem ba_3 {b : Ball} : idxD st (eBall b) (.int 3) = some (.int b.factor) := at_nat (lBall b) 3
theorem ba_4 {b : Ball} : idxD st (eBall b) (.int 4) = some (.int b.double) := at_nat (lBall b) 4
theorem ba_5 {b : Ball} : idxD st (eBall b) (.int 5) = some (.int b.saves) := at_nat (lBall b) 5
theorem ba_6 {b : Ball} : idxD st (eBall b) (.int 6) = some (.int b.warns) := at_nat (lBall b) 6
theorem ba_7 {b : Ball} : idxD st (eBall b) (.int 7) = some (.int b.calm) := at_nat (lBall b) 7
theorem ba_8 {b : Ball} : idxD st (eBall b) (.int 8) = some (.bl b.tilted) := at_nat (lBall b) 8
theorem ba_9 {b : Ball} : idxD st (eBall b) (.int 9) = some (.bl b.opn) := at_nat (lBall b) 9
theorem ba_10 {b : Ball} : idxD st (eBall b) (.int 10) = some (.bl b.had) := at_nat (lBall b) 10
theorem pa_0 {q : Pl} : idxD st (ePl q) (.int 0) = some (.int q.pts) := at_nat (lPl q) 0
theorem pa_1 {q : Pl} : idxD st (ePl q) (.int 1) = some (.int q.left) := at_nat (lPl q) 1
theorem pa_2 {q : Pl} : idxD st (ePl q) (.int 2) = some (.int q.ext) := at_nat (lPl q) 2
theorem pa_3 {q : Pl} : idxD st (ePl q) (.int 3) = some (.int q.lck) := at_nat (lPl q) 3
theorem pa_4 {q : Pl} : idxD st (ePl q) (.int 4) = some (.bl q.won) := at_nat (lPl q) 4
theorem sa_0 {t : Nat} {ps : List Pl} {b : Ball} : idxD st (eSt (.on t ps b)) (.int 0) = some (.int t) := at_nat [D.int t, .tup (ps.map ePl), eBall b] 0
theorem sa_1 {s : St} : idxD st (eSt s) (.int 1) = some (.tup (s.ps.map ePl)) := by
  cases s with
  | on t ps b => exact at_nat [D.int t, .tup (ps.map ePl), eBall b] 1
  | over ps => exact at_nat [D.non, .tup (ps.map ePl), .non] 1
theorem sa_2 {t : Nat} {ps : List Pl} {b : Ball} : idxD st (eSt (.on t ps b)) (.int 2) = some (eBall b) := at_nat [D.int t, .tup (ps.map ePl), eBall b] 2
theorem so_0 {ps : List Pl} : idxD st (eSt (.over ps)) (.int 0) = some .non := at_nat [D.non, .tup (ps.map ePl), .non] 0
theorem so_2 {ps : List Pl} : idxD st (eSt (.over ps)) (.int 2) = some .non := at_nat [D.non, .tup (ps.map ePl), .non] 2
theorem slc_ball {b : Ball} {l h : Option Int} : slcD (eBall b) l h st = .ok (.tup (cutD (lBall b) l h)) st := rfl
theorem slc_pl {q : Pl} {l h : Option Int} : slcD (ePl q) l h st = .ok (.tup (cutD (lPl q) l h)) st := rfl
theorem ps_on {t : Nat} {ps : List Pl} {b : Ball} : (St.on t ps b).ps = ps := rfl
theorem ps_over {ps : List Pl} : (St.over ps).ps = ps := rfl
/-- all of them -/
theorem SV : type_of% (And.intro (And.intro (And.intro (And.intro @ba_0 (And.intro @ba_1 @ba_2)) (And.intro @ba_3 (And.intro @ba_4 @ba_5))) (And.intro (And.intro @ba_6 (And.intro @ba_7 @ba_8)) (And.intro @ba_9 (And.intro @ba_10 @pa_0)))) (And.intro (And.intro (And.intro @pa_1 (And.intro @pa_2 @pa_3)) (And.intro @pa_4 (And.intro @sa_0 @sa_1))) (And.intro (And.intro @sa_2 (And.intro @so_0 @so_2)) (And.intro (And.intro @slc_ball @slc_pl) (And.intro @ps_on @ps_over))))) := (And.intro (And.intro (And.intro (And.intro @ba_0 (And.intro @ba_1 @ba_2)) (And.intro @ba_3 (And.intro @ba_4 @ba_5))) (And.intro (And.intro @ba_6 (And.intro @ba_7 @ba_8)) (And.intro @ba_9 (And.intro @ba_10 @pa_0)))) (And.intro (And.intro (And.intro @pa_1 (And.intro @pa_2 @pa_3)) (And.intro @pa_4 (And.intro @sa_0 @sa_1))) (And.intro (And.intro @sa_2 (And.intro @so_0 @so_2)) (And.intro (And.intro @slc_ball @slc_pl) (And.intro @ps_on @ps_over)))))
end Bt
namespace B
open PySem
set_option autoImplicit false
theorem c_isnB {st : Store} {x y : Bool} : cmpD .isn st (.bl x) (.bl y) = some (!decide (x = y)) := rfl
theorem c_isB {st : Store} {x y : Bool} : cmpD .is st (.bl x) (.bl y) = some (decide (x = y)) := rfl
theorem it_rng3 {Φ : Phi} {ρ : Slots} {st : Store} {a b : Ex} {i j : Int} {n : Nat} {st1 st2 : Store} (ha : evE Φ a ρ st = .ok (.int i) st1) (hb : evE Φ b ρ st1 = .ok (.int j) st2) (hr : rngOk j i = true) (hn : (i - j).toNat = n) : evI Φ (.rng3 a b) ρ st = .ok ((List.range n).map fun m : Nat => D.int (i - (m : Nat)), fun _ => true) st2 := by
  subst hn
  simp only [evI, ha, hb, R.bind_ok, hr, if_true]
  rfl
theorem cut_mid (xs : List D) (a b : Nat) : cutD xs (some (a : Int)) (some (b : Int)) = (xs.drop a).take (b - a) := by
  unfold cutD
  rw [HT.sIx_nat, HT.sIx_nat]
  by_cases h1 : a ≤ xs.length
  · rw [Nat.min_eq_left h1]
    by_cases h2 : b ≤ xs.length
    · rw [Nat.min_eq_left h2]
    · rw [Nat.min_eq_right (show xs.length ≤ b by omega), List.take_of_length_le (by simp), List.take_of_length_le (by simp; omega)]
  · have d1 : xs.drop a = [] := List.drop_of_length_le (by omega)
    have d2 : xs.drop (min a xs.length) = [] := List.drop_of_length_le (by omega)
    rw [d1, d2]
    simp
end B
namespace Bt
open PySem P B
set_option autoImplicit false
variable {k : Book}
/-- ticks, while a warning is to be forgotten -/
theorem tickN_warn : ∀ (n : Nat) (b : Ball), (n : Int) < b.calm → 0 ≤ b.double → 0 ≤ b.saves → tickN n b = { b with double := max0 (b.double - n), saves := max0 (b.saves - n), calm := b.calm - n }
  | 0, b, hc, hd, hs => by
    have e1 : max0 (b.double - (0 : Nat)) = b.double := by
      unfold max0
      split <;> omega
    have e2 : max0 (b.saves - (0 : Nat)) = b.saves := by
      unfold max0
      split <;> omega
    have e3 : b.calm - (0 : Nat) = b.calm := by omega
    simp only [tickN]
    rw [e1, e2, e3]
  | n + 1, b, hc, hd, hs => by
    unfold tickN
    have ns : still b = false := by
      simp only [still, Bool.and_eq_false_iff, decide_eq_false_iff_not]
      right
      omega
    rw [ns]
    have et : tick b = { b with double := max0 (b.double - 1), saves := max0 (b.saves - 1), calm := b.calm - 1 } := by
      unfold tick max0
      dsimp only
      rw [if_pos (by omega), if_neg (by omega)]
    have q0 : ∀ z, 0 ≤ max0 z := fun z => by unfold max0; split <;> omega
    have e : ∀ z : Int, max0 (max0 (z - 1) - n) = max0 (z - ((n + 1 : Nat) : Int)) := by
      intro z
      unfold max0
      split <;> split <;> (try split) <;> omega
    rw [if_neg (by decide), et, tickN_warn n { b with double := max0 (b.double - 1), saves := max0 (b.saves - 1), calm := b.calm - 1 } (by dsimp only; omega) (q0 _) (q0 _)]
    dsimp only
    rw [e, e, show b.calm - 1 - (n : Int) = b.calm - ((n + 1 : Nat) : Int) by omega]
/-- the warning is forgotten -/
theorem tickN_forget : ∀ (n : Nat) (b : Ball), (n : Int) = b.calm → 0 < n → 0 ≤ b.double → 0 ≤ b.saves → ∃ d s, 0 ≤ d ∧ 0 ≤ s ∧ tickN n b = { b with double := d, saves := s, calm := 30 * (if 0 < b.warns - 1 then 1 else 0), warns := b.warns - 1 }
  | 0, b, hc, h0, hd, hs => by omega
  | n + 1, b, hc, h0, hd, hs => by
    have q0 : ∀ z, 0 ≤ max0 z := fun z => by unfold max0; split <;> omega
    unfold tickN
    have ns : still b = false := by
      simp only [still, Bool.and_eq_false_iff, decide_eq_false_iff_not]
      right
      omega
    rw [ns]
    by_cases hn : n = 0
    · subst hn
      refine ⟨max0 (b.double - 1), max0 (b.saves - 1), q0 _, q0 _, ?_⟩
      rw [if_neg (by decide)]
      simp only [tickN]
      unfold tick max0
      dsimp only
      rw [if_pos (by omega), if_pos (by omega)]
    · have et : tick b = { b with double := max0 (b.double - 1), saves := max0 (b.saves - 1), calm := b.calm - 1 } := by
        unfold tick max0
        dsimp only
        rw [if_pos (by omega), if_neg (by omega)]
      obtain ⟨d, s, h1, h2, h3⟩ := tickN_forget n { b with double := max0 (b.double - 1), saves := max0 (b.saves - 1), calm := b.calm - 1 } (by dsimp only; omega) (by omega) (q0 _) (q0 _)
      exact ⟨d, s, h1, h2, by rw [if_neg (by decide), et, h3]⟩
/-- nudges, up to as many as are told -/
theorem nudges (q : Pl) (b : Ball) (ht : b.tilted = false) : ∀ j : Nat, b.warns + j ≤ k.nu → after k (.on 0 [q] b) (List.replicate j .nudge) = .on 0 [q] { b with warns := b.warns + j, calm := if j = 0 then b.calm else 30 }
  | 0, _ => by
    simp [after]
  | j + 1, h => by
    have ih := nudges q b ht j (by omega)
    rw [List.replicate_succ', after, List.foldl_append]
    change gone k (after k (.on 0 [q] b) (List.replicate j .nudge)) .nudge = _
    rw [ih, gone, nudge1 (by exact ht)]
    have : ¬ k.nu < b.warns + (j : Int) + 1 := by omega
    simp only [nudge, tell, this, if_false, Int.add_zero]
    simp
    omega
theorem nudge_tilts (q : Pl) (b : Ball) (ht : b.tilted = false) (h : k.nu < b.warns + 1) : step k (.on 0 [q] b) .nudge = (.on 0 [q] { b with warns := b.warns + 1, calm := 30, tilted := true, opn := false, lit := [], bonus := 0, double := 0, saves := 0 }, [(0, s_warn, 0), (0, s_tilt, 0)]) := by
  rw [nudge1 ht]
  simp [nudge, tell, h, told]
theorem mul_ev (e : Ev) {n : Nat} (h1 : 1 ≤ n) (h2 : n ≤ 1000) : binD .mul (.tup [eEv e]) (.int n) = some (.tup ((List.replicate n e).map eEv)) := by
  have : (1 : Int) ≤ n ∧ (n : Int) ≤ 1000 ∧ [eEv e] ≠ [] ∧ [eEv e].length ≤ 1000 := ⟨by omega, by omega, by simp, by simp⟩
  simp only [binD, if_pos this, Int.toNat_natCast]
  congr 2
  induction n with
  | zero => omega
  | succ n ih =>
    cases n with
    | zero => rfl
    | succ n => rw [List.replicate_succ, List.flatten_cons, ih (by omega) (by omega) ⟨by omega, by omega, by simp, by simp⟩]; rfl

end Bt


set_option Elab.async false
set_option linter.all false
set_option maxRecDepth 100000
set_option maxHeartbeats 4000000
/-! Plays side by side: richer books, lone players. -/
namespace Bt
open PySem P B
set_option autoImplicit false
inductive All2 {α β : Type} (R : α → β → Prop) : List α → List β → Prop
  | nil : All2 R [] []
  | cons {a : α} {b : β} {l : List α} {m : List β} : R a b → All2 R l m → All2 R (a :: l) (b :: m)
theorem All2.length_eq {α β : Type} {R : α → β → Prop} : ∀ {l : List α} {m : List β}, All2 R l m → l.length = m.length
  | _, _, .nil => rfl
  | _, _, .cons _ t => by simp [t.length_eq]
/-! ### a book with more points, with or without an aim -/
def tgLe (a b : Tgt) : Prop := a.nm = b.nm ∧ a.bo = b.bo ∧ a.pt ≤ b.pt
structure BookLe (k k' : Book) : Prop where
  tg : All2 tgLe k.tg k'.tg
  bk : k'.bk = k.bk
  lk : k'.lk = k.lk
  jk : k'.jk = k.jk
  sv : k'.sv = k.sv
  nu : k'.nu = k.nu
  ba : k'.ba = k.ba
def plLe (q r : Pl) : Prop := q.pts ≤ r.pts ∧ q.left = r.left ∧ q.ext = r.ext ∧ q.lck = r.lck
def mLe (m n : M) : Prop := plLe m.q n.q ∧ m.b = n.b
def stLe : St → St → Prop
  | .on t ps b, .on t' ps' b' => t = t' ∧ b = b' ∧ All2 plLe ps ps'
  | .over ps, .over ps' => All2 plLe ps ps'
  | _, _ => False
section
variable {k k' : Book} {m n : M}
theorem tell_le (h : mLe m n) (w : Str) {i j : Int} (hij : i ≤ j) (w' : Str) : mLe (tell m w i) (tell n w' j) := by
  obtain ⟨⟨h1, h2, h3, h4⟩, h5⟩ := h
  exact ⟨⟨by show m.q.pts + i ≤ n.q.pts + j; omega, h2, h3, h4⟩, h5⟩
theorem aimed_le (h : mLe m n) : mLe (aimed k m) (aimed k' n) := by
  have l : ∀ (k : Book) (m : M), plLe m.q (aimed k m).q ∧ plLe (aimed k m).q m.q := by
    intro k m
    unfold aimed
    split
    · split
      · exact ⟨⟨by show m.q.pts ≤ m.q.pts + 0; omega, rfl, rfl, rfl⟩, ⟨by show m.q.pts + 0 ≤ m.q.pts; omega, rfl, rfl, rfl⟩⟩
      · exact ⟨⟨Int.le_refl _, rfl, rfl, rfl⟩, ⟨Int.le_refl _, rfl, rfl, rfl⟩⟩
    · exact ⟨⟨Int.le_refl _, rfl, rfl, rfl⟩, ⟨Int.le_refl _, rfl, rfl, rfl⟩⟩
  obtain ⟨⟨h1, h2, h3, h4⟩, h5⟩ := h
  obtain ⟨_, a1, a2, a3, a4⟩ := l k m
  obtain ⟨⟨b1, b2, b3, b4⟩, _⟩ := l k' n
  refine ⟨⟨by omega, by omega, by omega, by omega⟩, ?_⟩
  rw [aimed_b, aimed_b]
  exact h5
theorem jack_le (H : BookLe k k') (h : mLe m n) (s : Str) : mLe (jack k m s) (jack k' n s) := by
  unfold jack
  rw [H.jk, ← h.2]
  split
  · exact tell_le h _ (Int.le_refl _) _
  · exact h
theorem locks_le (H : BookLe k k') (h : mLe m n) (s : Str) : mLe (locks k m s) (locks k' n s) := by
  obtain ⟨⟨h1, h2, h3, h4⟩, h5⟩ := h
  unfold locks
  rw [H.lk, H.sv, ← h5]
  split
  · split
    · dsimp only
      have e : (tell { n with q := { n.q with lck := n.q.lck + 1 }, b := { m.b with opn := false, saves := k.sv } } s_lock 0).q.lck = (tell { m with q := { m.q with lck := m.q.lck + 1 }, b := { m.b with opn := false, saves := k.sv } } s_lock 0).q.lck := by
        show n.q.lck + 1 = m.q.lck + 1
        omega
      rw [e]
      split
      · exact ⟨⟨by show m.q.pts + 0 + 0 ≤ n.q.pts + 0 + 0; omega, h2, h3, rfl⟩, rfl⟩
      · exact ⟨⟨by show m.q.pts + 0 ≤ n.q.pts + 0; omega, h2, h3, by show m.q.lck + 1 = n.q.lck + 1; omega⟩, rfl⟩
    · exact ⟨⟨h1, h2, h3, h4⟩, h5⟩
  · exact ⟨⟨h1, h2, h3, h4⟩, h5⟩
theorem award_le (H : BookLe k k') (h : mLe m n) (w : Str) : mLe (award k m w) (award k' n w) := by
  obtain ⟨⟨h1, h2, h3, h4⟩, h5⟩ := h
  unfold award
  rw [H.lk, ← h5]
  have t : ∀ i : Int, m.q.pts + i ≤ n.q.pts + i := fun i => by omega
  split
  · exact ⟨⟨t 0, h2, h3, h4⟩, rfl⟩
  split
  · exact ⟨⟨t 0, h2, h3, h4⟩, rfl⟩
  split
  · exact ⟨⟨t _, h2, by show m.q.ext + _ = n.q.ext + _; rw [h3], h4⟩, rfl⟩
  split
  · exact ⟨⟨t _, h2, h3, h4⟩, h5⟩
  · exact ⟨⟨t 0, h2, h3, h4⟩, rfl⟩
theorem bank_le (H : BookLe k k') (h : mLe m n) (a : Bank) : mLe (bank k m a) (bank k' n a) := by
  unfold bank
  rw [← h.2]
  split
  · exact award_le H (m := { m with b := { m.b with lit := m.b.lit.filter fun l => decide (l ∉ a.ns) } }) (n := { n with b := { m.b with lit := m.b.lit.filter fun l => decide (l ∉ a.ns) } }) ⟨h.1, rfl⟩ _
  · exact h
theorem banks_le (H : BookLe k k') : ∀ (l : List Bank) {m n : M}, mLe m n → mLe (banks k m l) (banks k' n l)
  | [], _, _, h => h
  | a :: l, m, n, h => banks_le H l (m := bank k m a) (n := bank k' n a) (bank_le H h a)
theorem hit_le (H : BookLe k k') (h : mLe m n) {t t' : Tgt} (ht : tgLe t t') : mLe (hit k m t) (hit k' n t') := by
  obtain ⟨e1, e2, e3⟩ := ht
  unfold hit
  rw [← e1, H.bk]
  refine aimed_le (banks_le H _ ?_)
  have h1 : mLe (hit1 m t) (hit1 n t') := by
    obtain ⟨mq, mb, mh⟩ := m
    obtain ⟨nq, nb, nh⟩ := n
    obtain ⟨⟨h1, h2, h3, h4⟩, h5⟩ := h
    have h5' : mb = nb := h5
    subst h5'
    unfold hit1
    dsimp only
    rw [← e2]
    refine ⟨⟨?_, h2, h3, h4⟩, rfl⟩
    show mq.pts + doubled mb t.pt ≤ nq.pts + doubled mb t'.pt
    have h1' : mq.pts ≤ nq.pts := h1
    unfold doubled
    split <;> omega
  have h3 := locks_le H (jack_le H h1 t.nm) t.nm
  exact ⟨h3.1, by
    unfold lights
    dsimp only
    rw [h3.2]⟩
theorem nudge_le (H : BookLe k k') (h : mLe m n) : mLe (nudge k m) (nudge k' n) := by
  obtain ⟨⟨h1, h2, h3, h4⟩, h5⟩ := h
  unfold nudge
  dsimp only
  rw [H.nu, ← h5]
  have t : m.q.pts + 0 ≤ n.q.pts + 0 := by omega
  have t2 : m.q.pts + 0 + 0 ≤ n.q.pts + 0 + 0 := by omega
  by_cases c : k.nu < m.b.warns + 1
  · have c1 : k.nu < (tell { m with b := { m.b with warns := m.b.warns + 1, calm := 30 } } s_warn 0).b.warns := c
    have c2 : k.nu < (tell { n with b := { m.b with warns := m.b.warns + 1, calm := 30 } } s_warn 0).b.warns := c
    rw [if_pos c1, if_pos c2]
    exact ⟨⟨t2, h2, h3, h4⟩, rfl⟩
  · have c1 : ¬ k.nu < (tell { m with b := { m.b with warns := m.b.warns + 1, calm := 30 } } s_warn 0).b.warns := c
    have c2 : ¬ k.nu < (tell { n with b := { m.b with warns := m.b.warns + 1, calm := 30 } } s_warn 0).b.warns := c
    rw [if_neg c1, if_neg c2]
    exact ⟨⟨t, h2, h3, h4⟩, rfl⟩
theorem lost_le (h : mLe m n) : mLe (lost k m).1 (lost k' n).1 ∧ (lost k m).2 = (lost k' n).2 := by
  unfold lost
  rw [← h.2]
  by_cases c : 0 < m.b.saves
  · rw [if_pos c, if_pos c]
    exact ⟨tell_le (m := { m with b := { m.b with saves := 0 } }) (n := { n with b := { m.b with saves := 0 } }) ⟨h.1, rfl⟩ _ (Int.le_refl _) _, rfl⟩
  · rw [if_neg c, if_neg c]
    dsimp only
    have h1 : mLe ({ m with b := { m.b with many := m.b.many - 1 } } : M) { n with b := { m.b with many := m.b.many - 1 } } := ⟨h.1, rfl⟩
    by_cases c2 : m.b.many - 1 = 0
    · rw [if_pos c2, if_pos c2]
      refine ⟨tell_le ?_ _ (Int.le_refl _) _, rfl⟩
      split
      · exact h1
      · exact aimed_le (tell_le h1 _ (Int.le_refl _) _)
    · rw [if_neg c2, if_neg c2]
      exact ⟨h1, rfl⟩
theorem find_le : ∀ {l l' : List Tgt}, All2 tgLe l l' → ∀ s : Str, (∃ t t', l.find? (fun t => decide (t.nm = s)) = some t ∧ l'.find? (fun t => decide (t.nm = s)) = some t' ∧ tgLe t t') ∨ (l.find? (fun t => decide (t.nm = s)) = none ∧ l'.find? (fun t => decide (t.nm = s)) = none)
  | _, _, .nil, s => .inr ⟨rfl, rfl⟩
  | _, _, .cons (a := a) (b := b) h t, s => by
    have ih := find_le t s
    rw [List.find?_cons, List.find?_cons, ← h.1]
    by_cases c : a.nm = s
    · simp only [c, decide_true]
      exact .inl ⟨a, b, rfl, rfl, h⟩
    · simp only [c, decide_false]
      exact ih
theorem act_le (H : BookLe k k') (h : mLe m n) (e : Ev) : mLe (act k m e).1 (act k' n e).1 ∧ (act k m e).2 = (act k' n e).2 := by
  cases e with
  | hit s =>
    simp only [act, and_true]
    rw [← h.2]
    by_cases c : m.b.tilted = true
    · rw [if_pos c, if_pos c]
      exact h
    · rw [if_neg c, if_neg c]
      unfold Book.find
      rcases find_le H.tg s with ⟨t, t', e1, e2, e3⟩ | ⟨e1, e2⟩
      · rw [e1, e2]
        exact hit_le H h e3
      · rw [e1, e2]
        exact h
  | drain => exact lost_le h
  | nudge =>
    simp only [act, and_true]
    rw [← h.2]
    by_cases c : m.b.tilted = true
    · rw [if_pos c, if_pos c]
      exact h
    · rw [if_neg c, if_neg c]
      exact nudge_le H h
  | ticks i =>
    simp only [act, and_true]
    exact ⟨h.1, by rw [h.2]⟩
end
theorem getD_le : ∀ {ps ps' : List Pl}, All2 plLe ps ps' → ∀ t : Nat, plLe (ps.getD t default) (ps'.getD t default)
  | _, _, .nil, _ => ⟨Int.le_refl _, rfl, rfl, rfl⟩
  | _, _, .cons h _, 0 => h
  | _, _, .cons _ r, t + 1 => by
    simpa using getD_le r t
theorem set_le : ∀ {ps ps' : List Pl}, All2 plLe ps ps' → ∀ (t : Nat) {q r : Pl}, plLe q r → All2 plLe (ps.set t q) (ps'.set t r)
  | _, _, .nil, _, _, _, _ => .nil
  | _, _, .cons _ r, 0, _, _, h => .cons h r
  | _, _, .cons a r, t + 1, _, _, h => .cons a (set_le r t h)
theorem next_le {ps ps' : List Pl} (h : All2 plLe ps ps') (t : Nat) : nextOf ps t = nextOf ps' t := by
  unfold nextOf
  rw [h.length_eq]
  congr 1
  funext o
  rw [(getD_le h o).2.1]
theorem pass_le {k k' : Book} (H : BookLe k k') {ps ps' : List Pl} (h : All2 plLe ps ps') (t : Nat) : stLe (pass k t ps) (pass k' t ps') := by
  have hf : fresh k' = fresh k := by unfold fresh; rw [H.sv]
  have hq := getD_le h t
  unfold pass
  dsimp only
  rw [hf, ← hq.2.2.1, ← next_le h t]
  by_cases c : 0 < (ps.getD t default).ext
  · rw [if_pos c, if_pos c]
    exact ⟨rfl, rfl, set_le h t ⟨hq.1, hq.2.1, rfl, hq.2.2.2⟩⟩
  · rw [if_neg c, if_neg c]
    cases nextOf ps t with
    | some o =>
      have ho := getD_le h o
      exact ⟨rfl, rfl, set_le h o ⟨ho.1, by show _ - 1 = _ - 1; rw [ho.2.1], ho.2.2.1, ho.2.2.2⟩⟩
    | none => exact h
theorem gone_le {k k' : Book} (H : BookLe k k') : ∀ {s s' : St}, stLe s s' → ∀ e : Ev, stLe (gone k s e) (gone k' s' e)
  | .over ps, .over ps', h, e => h
  | .on t ps b, .on t' ps' b', ⟨e1, e2, h⟩, e => by
    subst e1 e2
    obtain ⟨h1, h2⟩ := act_le H (m := ⟨ps.getD t default, b, []⟩) (n := ⟨ps'.getD t default, b, []⟩) ⟨getD_le h t, rfl⟩ e
    simp only [gone, step]
    rw [← h2]
    split
    · exact pass_le H (set_le h t h1.1) t
    · exact ⟨rfl, h1.2, set_le h t h1.1⟩
theorem after_le {k k' : Book} (H : BookLe k k') : ∀ (es : List Ev) {s s' : St}, stLe s s' → stLe (after k s es) (after k' s' es)
  | [], _, _, h => h
  | e :: es, s, s', h => after_le H es (s := gone k s e) (s' := gone k' s' e) (gone_le H h e)
theorem begun_le {k k' : Book} (H : BookLe k k') (n : Nat) : stLe (begun k n) (begun k' n) := by
  have hf : fresh k' = fresh k := by unfold fresh; rw [H.sv]
  refine ⟨rfl, hf.symm, ?_⟩
  rw [H.ba]
  induction List.range n with
  | nil => exact .nil
  | cons i l ih => exact .cons ⟨Int.le_refl _, rfl, rfl, rfl⟩ ih
theorem scores_le : ∀ {s s' : St}, stLe s s' → All2 (fun a b : Int => a ≤ b) (scores s) (scores s') := by
  have go : ∀ {ps ps' : List Pl}, All2 plLe ps ps' → All2 (fun a b : Int => a ≤ b) (ps.map (·.pts)) (ps'.map (·.pts)) := by
    intro ps ps' h
    induction h with
    | nil => exact .nil
    | cons h _ ih => exact .cons h.1 ih
  intro s s' h
  match s, s', h with
  | .over ps, .over ps', h => exact go h
  | .on t ps b, .on t' ps' b', h => exact go h.2.2
/-! ### a lone player -/
def Lone (k : Book) (i : Nat) : St → St → Prop
  | .on t ps b, L => if i = t then L = .on 0 [ps.getD i default] b
      else (ps.getD i default).ext ≤ 0 ∧ L = (if 0 < (ps.getD i default).left then .on 0 [{ ps.getD i default with left := (ps.getD i default).left - 1 }] (fresh k) else .over [ps.getD i default])
  | .over ps, L => L = .over [ps.getD i default]
theorem lone_on {k : Book} {i t : Nat} {ps : List Pl} {b : Ball} {L : St} : Lone k i (.on t ps b) L = (if i = t then L = .on 0 [ps.getD i default] b
      else (ps.getD i default).ext ≤ 0 ∧ L = (if 0 < (ps.getD i default).left then .on 0 [{ ps.getD i default with left := (ps.getD i default).left - 1 }] (fresh k) else .over [ps.getD i default])) := rfl
theorem getD_set_eq {ps : List Pl} {t : Nat} (h : t < ps.length) (q : Pl) : (ps.set t q).getD t default = q := set_get h
theorem getD_set_ne {ps : List Pl} {t i : Nat} (h : i ≠ t) (q : Pl) : (ps.set t q).getD i default = ps.getD i default := by
  simp [List.getD_eq_getElem?_getD, List.getElem?_set, Ne.symm h]
theorem nextOf_some {ps : List Pl} {t o : Nat} (h : nextOf ps t = some o) : 0 < (ps.getD o default).left := by
  unfold nextOf at h
  simpa using List.find?_some h
theorem nextOf_none {ps : List Pl} {t : Nat} (h : nextOf ps t = none) {i : Nat} (hi : i < ps.length) (ht : t < ps.length) : ¬ 0 < (ps.getD i default).left := by
  unfold nextOf at h
  rw [List.find?_eq_none] at h
  have : i ∈ (List.range ps.length).map fun j => (t + (j + 1)) % ps.length := by
    rw [List.mem_map]
    by_cases c : t < i
    · exact ⟨i - t - 1, List.mem_range.mpr (by omega), by rw [show t + (i - t - 1 + 1) = i by omega]; exact Nat.mod_eq_of_lt hi⟩
    · refine ⟨i + ps.length - t - 1, List.mem_range.mpr (by omega), ?_⟩
      rw [show t + (i + ps.length - t - 1 + 1) = i + ps.length by omega, Nat.add_mod_right]
      exact Nat.mod_eq_of_lt hi
  simpa using h i this
theorem pass_lone {k : Book} {ps : List Pl} {t i : Nat} (ht : t < ps.length) (hi : i < ps.length) {L : St}
    (h : if i = t then L = pass k 0 [ps.getD i default] else (ps.getD i default).ext ≤ 0 ∧ L = (if 0 < (ps.getD i default).left then .on 0 [{ ps.getD i default with left := (ps.getD i default).left - 1 }] (fresh k) else .over [ps.getD i default])) : Lone k i (pass k t ps) L := by
  unfold pass
  dsimp only
  by_cases c : 0 < (ps.getD t default).ext
  · rw [if_pos c]
    rw [lone_on]
    by_cases e : i = t
    · subst e
      rw [if_pos rfl] at h ⊢
      rw [h, pass1_extra c, getD_set_eq ht]
    · rw [if_neg e] at h ⊢
      rw [getD_set_ne e]
      exact h
  · rw [if_neg c]
    cases hn : nextOf ps t with
    | some o =>
      have ho := nextOf_some hn
      have hol := nextOf_lt hn
      show Lone k i (.on o (ps.set o { ps.getD o default with left := (ps.getD o default).left - 1 }) (fresh k)) L
      rw [lone_on]
      by_cases eo : i = o
      · subst eo
        rw [if_pos rfl, getD_set_eq hol]
        by_cases e : i = t
        · subst e
          rw [if_pos rfl] at h
          rw [h, pass1_more c ho]
        · rw [if_neg e, if_pos ho] at h
          exact h.2
      · rw [if_neg eo, getD_set_ne eo]
        by_cases e : i = t
        · subst e
          rw [if_pos rfl] at h
          refine ⟨by omega, ?_⟩
          by_cases c2 : 0 < (ps.getD i default).left
          · rw [h, pass1_more c c2, if_pos c2]
          · rw [h, pass1_over c c2, if_neg c2]
        · rw [if_neg e] at h
          exact h
    | none =>
      have hl := nextOf_none hn hi ht
      show L = .over [ps.getD i default]
      by_cases e : i = t
      · subst e
        rw [if_pos rfl] at h
        rw [h, pass1_over c hl]
      · rw [if_neg e, if_neg hl] at h
        exact h.2
theorem step_onE {k : Book} {t : Nat} {ps : List Pl} {b : Ball} {e : Ev} : step k (.on t ps b) e = if (act k ⟨ps.getD t default, b, []⟩ e).2 = true then ended k t ps (act k ⟨ps.getD t default, b, []⟩ e).1 else fin t ps (act k ⟨ps.getD t default, b, []⟩ e).1 := rfl
theorem step_one {k : Book} {q : Pl} {b : Ball} {e : Ev} : step k (.on 0 [q] b) e = if (act k ⟨q, b, []⟩ e).2 = true then ended k 0 [q] (act k ⟨q, b, []⟩ e).1 else fin 0 [q] (act k ⟨q, b, []⟩ e).1 := rfl
theorem gone_lone {k : Book} {i t : Nat} {ps : List Pl} {b : Ball} (ht : t < ps.length) (hi : i < ps.length) {L : St} (h : Lone k i (.on t ps b) L) (e : Ev) : Lone k i (gone k (.on t ps b) e) (if i = t then gone k L e else L) := by
  rw [lone_on] at h
  simp only [gone, step]
  by_cases c : i = t
  · subst c
    rw [if_pos rfl] at h ⊢
    rw [h]
    show Lone k i (step k (.on i ps b) e).1 (step k (.on 0 [ps.getD i default] b) e).1
    rw [step_one, step_onE]
    by_cases r2 : (act k ⟨ps.getD i default, b, []⟩ e).2 = true
    · rw [if_pos r2, if_pos r2]
      simp only [ended, sd1]
      refine pass_lone (by simpa using ht) (by simpa using hi) ?_
      rw [if_pos rfl, getD_set_eq ht]
    · rw [if_neg r2, if_neg r2]
      simp only [fin, sd1]
      rw [lone_on]
      rw [if_pos rfl, getD_set_eq ht]
  · rw [if_neg c] at h ⊢
    by_cases r2 : (act k ⟨ps.getD t default, b, []⟩ e).2 = true
    · rw [if_pos r2]
      simp only [ended]
      refine pass_lone (by simpa using ht) (by simpa using hi) ?_
      rw [if_neg c, getD_set_ne c]
      exact h
    · rw [if_neg r2]
      simp only [fin]
      rw [lone_on]
      rw [if_neg c, getD_set_ne c]
      exact h
/-- the events of one player -/
def mineOf (k : Book) (i : Nat) : St → List Ev → List Ev
  | _, [] => []
  | s, e :: es => (match s with
    | .on t _ _ => if i = t then [e] else []
    | .over _ => []) ++ mineOf k i (gone k s e) es
theorem mine_snoc (k : Book) (i : Nat) (e : Ev) : ∀ (es : List Ev) (s : St), mineOf k i s (es ++ [e]) = mineOf k i s es ++ (match after k s es with
    | .on t _ _ => if i = t then [e] else []
    | .over _ => [])
  | [], s => by simp [mineOf, after]
  | d :: es, s => by
    have ih := mine_snoc k i e es (gone k s d)
    simp only [List.cons_append, mineOf, ih, List.append_assoc]
    rfl
theorem after_lone {k : Book} (hk : BookOk k) {i n : Nat} (hi : i < n) : ∀ (es : List Ev) {s L : St}, Inv k s → s.ps.length = n → Lone k i s L → Lone k i (after k s es) (after k L (mineOf k i s es)) ∧ (after k s es).ps.length = n
  | [], s, L, _, hn, h => ⟨h, hn⟩
  | e :: es, s, L, hI, hn, h => by
    have hI' := step_inv hk s e hI
    cases s with
    | over ps =>
      obtain ⟨h1, h2⟩ := after_lone hk hi es (s := .over ps) (L := L) trivial hn h
      exact ⟨h1, h2⟩
    | on t ps b =>
      have hn' : ps.length = n := hn
      have g := gone_lone hI.1 (by rw [hn']; exact hi) h e
      have hl : (gone k (.on t ps b) e).ps.length = n := by
        simp only [gone, step]
        split
        · simp only [ended]
          unfold pass
          dsimp only
          split
          · simp [St.ps, hn']
          · split <;> simp [St.ps, hn']
        · simp [fin, St.ps, hn']
      obtain ⟨h1, h2⟩ := after_lone hk hi es (s := gone k (.on t ps b) e) hI' hl g
      refine ⟨?_, h2⟩
      by_cases c : i = t
      · rw [if_pos c] at h1
        simp only [mineOf, if_pos c]
        exact h1
      · rw [if_neg c] at h1
        simp only [mineOf, if_neg c]
        exact h1
theorem begun_lone {k : Book} (hb : 0 < k.ba) {i n : Nat} (hi : i < n) : Lone k i (begun k n) (begun k 1) := by
  unfold begun
  rw [lone_on]
  have e : ((List.range n).map fun j => (⟨0, k.ba - (if j = 0 then 1 else 0), 0, 0, false⟩ : Pl)).getD i default = ⟨0, k.ba - (if i = 0 then 1 else 0), 0, 0, false⟩ := by
    simp [List.getD_eq_getElem?_getD, hi]
  simp only [e]
  by_cases c : i = 0
  · subst c
    rfl
  · rw [if_neg c, if_neg c]
    refine ⟨Int.le_refl _, ?_⟩
    rw [if_pos (by show (0 : Int) < k.ba - 0; omega)]
    simp [List.range_succ]
/-- what both tell -/
theorem lone_same {k : Book} {i : Nat} : ∀ {s L : St}, Lone k i s L → ∃ q : Pl, L.ps = [q] ∧ q.pts = (s.ps.getD i default).pts ∧ q.lck = (s.ps.getD i default).lck ∧ q.won = (s.ps.getD i default).won
  | .on t ps b, L, h => by
    rw [lone_on] at h
    split at h
    · exact ⟨_, by rw [h]; rfl, rfl, rfl, rfl⟩
    · obtain ⟨_, h⟩ := h
      split at h
      · exact ⟨{ ps.getD i default with left := (ps.getD i default).left - 1 }, by rw [h]; rfl, rfl, rfl, rfl⟩
      · exact ⟨_, by rw [h]; rfl, rfl, rfl, rfl⟩
  | .over ps, L, h => ⟨_, by rw [show L = .over [ps.getD i default] from h]; rfl, rfl, rfl, rfl⟩
/-! ### the drawn books and events are in order -/
theorem names_bookP (c : Int) : (bookP c).names = (List.range (manyP c)).map letr := by
  simp [Book.names, bookP, tgtP, Function.comp_def]
theorem book_ok (c : Int) : BookOk (bookP c) := by
  obtain ⟨h1, h6⟩ := manyP_range c
  have h5 : (mixN c 9907 5 : Int) < 5 := mixN_lt (by decide)
  refine ⟨by simp [bookP]; omega, by simp [bookP]; omega, ?_, ?_⟩
  · intro n hn
    rw [names_bookP] at hn
    obtain ⟨i, hi, rfl⟩ := List.mem_map.mp hn
    have := List.mem_range.mp hi
    exact letr_ok i (by omega)
  · simp only [bookP]
    split <;> omega
theorem book_tg (c : Int) : (bookP c).tg ≠ [] := by
  obtain ⟨h1, h6⟩ := manyP_range c
  intro h
  have := congrArg List.length h
  simp [bookP] at this
  omega
theorem book_ba (c : Int) : 0 < (bookP c).ba := by
  simp only [bookP]
  omega
theorem find_some {k : Book} {n : Str} (h : n ∈ k.names) : (k.find n).isSome = true := by
  unfold Book.find
  obtain ⟨t, ht, e⟩ := List.mem_map.mp h
  rw [List.find?_isSome]
  exact ⟨t, ht, by simpa using e⟩
theorem event_ok (c : Int) {k : Book} (hk : k.tg ≠ []) : (eventP c k).ok k := by
  have hl : 0 < k.tg.length := List.length_pos_iff.mpr hk
  have f2 : (mixN c 9803 k.tg.length : Int) < k.tg.length := mixN_lt (by omega)
  unfold eventP
  split
  · refine find_some (List.mem_map.mpr ⟨_, ?_, rfl⟩)
    have : mixN c 9803 k.tg.length < k.tg.length := by omega
    rw [List.getD_eq_getElem?_getD, List.getElem?_eq_getElem this, Option.getD_some]
    exact List.getElem_mem this
  split
  · trivial
  split
  · trivial
  · have := (tickP_range (mixN c 9791 8)).2
    show tickP _ ≤ 900
    omega
theorem ok_le {k k' : Book} (H : BookLe k k') {e : Ev} (h : e.ok k) : e.ok k' := by
  cases e with
  | hit n =>
    have h : (k.tg.find? fun t => decide (t.nm = n)).isSome = true := h
    show (k'.tg.find? fun t => decide (t.nm = n)).isSome = true
    rcases find_le H.tg n with ⟨t, t', e1, e2, _⟩ | ⟨e1, _⟩
    · rw [e2]
      rfl
    · rw [e1] at h
      cases h
  | drain => trivial
  | nudge => trivial
  | ticks i => exact h
theorem book_ok_le {k k' : Book} (H : BookLe k k') (hk : BookOk k) : BookOk k' := by
  have hn : ∀ {l l' : List Tgt}, All2 tgLe l l' → l'.map (·.nm) = l.map (·.nm) := by
    intro l l' h
    induction h with
    | nil => rfl
    | cons h _ ih => rw [List.map_cons, List.map_cons, ih, h.1]
  refine ⟨by rw [← H.tg.length_eq]; exact hk.tgl, by rw [H.bk]; exact hk.bkl, ?_, by rw [H.sv]; exact hk.sv0⟩
  intro n h
  refine hk.nus n ?_
  unfold Book.names at h ⊢
  rwa [hn H.tg] at h
theorem mine_cons (k : Book) (i : Nat) (d : Ev) (es : List Ev) (s : St) : mineOf k i s (d :: es) = (match s with
    | .on t _ _ => if i = t then [d] else []
    | .over _ => []) ++ mineOf k i (gone k s d) es := by cases s <;> rfl
theorem mine_sub (k : Book) (i : Nat) : ∀ (es : List Ev) (s : St), ∀ e ∈ mineOf k i s es, e ∈ es
  | [], _, e, h => (nomatch h)
  | d :: es, s, e, h => by
    rw [mine_cons, List.mem_append] at h
    rcases h with h | h
    · cases s with
      | on t ps b =>
        simp only at h
        split at h
        · rw [List.mem_singleton] at h
          rw [h]
          exact List.mem_cons_self
        · cases h
      | over ps => cases h
    · exact List.mem_cons_of_mem _ (mine_sub k i es _ e h)
theorem mine_len (k : Book) (i : Nat) : ∀ (es : List Ev) (s : St), (mineOf k i s es).length ≤ es.length
  | [], _ => Nat.le_refl _
  | d :: es, s => by
    have := mine_len k i es (gone k s d)
    rw [mine_cons, List.length_append, List.length_cons]
    have : (match s with
      | .on t _ _ => if i = t then [d] else []
      | .over _ => []).length ≤ 1 := by
      cases s with
      | on t ps b =>
        simp only
        split <;> simp
      | over ps => simp
    omega
end Bt


set_option Elab.async false
set_option linter.all false
set_option maxRecDepth 100000
set_option maxHeartbeats 4000000
/-! Points by a dict of the book; hits on the table of five. -/
namespace B
open PySem
set_option autoImplicit false
variable {Φ : Phi} {ρ : Slots} {st : Store}
theorem run_drop {d : Def} {ds : List D} {v : D} {T : Store} (ha : ds.length = d.ar) (hd : d.drop = true) (h : endOf (evSs Φ d.body (startE d.sz ds) st) = .ok v T) (hn : noRef 60 v = true) (ht : T.take st.length = st) : runD Φ d ds st = .ok v st := by
  unfold runD
  rw [if_pos ha, h, hd]
  simp only [dropped, hn, ht, decide_true, Bool.and_self, if_true]
theorem pairsD_map {α : Type} (f : α → Str) (g : α → D) (l : List α) : pairsD (l.map fun t => .tup [.str (f t), g t]) = some (l.map fun t => (f t, g t)) := by
  induction l with
  | nil => rfl
  | cons a l ih => simp [pairsD, ih]
theorem e_ext {o e : Ex} {T : Store} {n : Nat} {xs ys : List D} (ho : evE Φ o ρ st = .ok (.ref n) st) (h1 : st[n]? = some (.lst xs)) (he : evE Φ e ρ st = .ok (.lst ys) st) (hl : xs.length + ys.length ≤ sizeLine) (hT : putL st (.ref n) (xs ++ ys) = T) : evE Φ (.ext o e) ρ st = .ok .non T := by
  have a : lstAt st (.ref n) = some xs := by simp only [lstAt, h1]
  simp only [evE, ho, R.bind_ok, a, Option.isSome_some, if_true, he, if_pos hl, hT]
end B
namespace Bt
open PySem P B
set_option autoImplicit false
variable {x : Ix} {defs : List Def} {Φ : Phi} {st : Store} {k : Book}
theorem letr_eq {i j : Nat} : letr i = letr j ↔ i = j := ⟨letr_inj, fun h => h ▸ rfl⟩
def ptsOf (c : Int) (l : List Nat) : Int := (l.map fun i => (tgt5 c i).pt).sum
theorem pts_app (c : Int) (l m : List Nat) : ptsOf c (l ++ m) = ptsOf c l + ptsOf c m := by
  unfold ptsOf
  rw [List.map_append, List.sum_append]
theorem dict5 (g : Nat → D) : mergeD ((List.range 5).map fun i => (letr i, g i)) = (List.range 5).map fun i => (letr i, g i) := by
  simp [mergeD, putK, List.range_succ, letr_eq]
theorem get5 (g : Nat → D) {i : Nat} (h : i < 5) : getK ((List.range 5).map fun i => (letr i, g i)) (letr i) = some (g i) := by
  match i, h with
  | 0, _ => simp [getK, List.range_succ, letr_eq]
  | 1, _ => simp [getK, List.range_succ, letr_eq]
  | 2, _ => simp [getK, List.range_succ, letr_eq]
  | 3, _ => simp [getK, List.range_succ, letr_eq]
  | 4, _ => simp [getK, List.range_succ, letr_eq]
def SpPts (x : Ix) (Φ : Phi) : Prop := ∀ (st : Store) (k : Book) (c : Int) (l : List Nat) (src : D), k.tg = (List.range 5).map (tgt5 c) → (∀ i ∈ l, i < 5) → (∀ y, itemsOf (st ++ [y]) src = some ((l.map letr).map .str)) → (∀ y, srcOk (st ++ [y]) src ((l.map letr).map .str) = true) →
  Φ x.i__law_points_of [eBook k, src] st = .ok (.int (ptsOf c l)) st
theorem sp_pts (h : defs[x.i__law_points_of]? = some ⟨2, 6, d__law_points_of x, true⟩) (n : Nat) : SpPts x (sem defs (n + 1)) := fun st k c l src hk hl hi ho => by
  rw [sem_at h]
  refine run_drop (T := st ++ [.dict ((List.range 5).map fun i => (letr i, D.int (tgt5 c i).pt))]) rfl rfl ?_ rfl (by simp)
  unfold d__law_points_of
  have hc : evC (sem defs n) (.comp (.tup (.cons (.var 3) (.cons (.var 4) .nil))) (.tp (.cons (.nm 3) (.cons (.nm 4) (.cons (.nm 5) .nil)))) (.val (.idx (.var 0) (.con (.int 0)))) .none [3, 4, 5]) [.val (eBook k), .val src, .no, .no, .no, .no] st
      = .ok (k.tg.map fun t => .tup [.str t.nm, .int t.pt]) st := comp_all eT k.tg _ (it_val eT (by simp only [EV, lift_some, R.bind_ok, R.s_ok, R.s_exc, w_noExc_ok, List.getElem?_cons_zero, List.getElem?_cons_succ, List.getElem?_nil, List.set_cons_zero, List.set_cons_succ, List.map_cons, List.map_nil, List.length_cons, List.length_nil, List.cons_append, List.nil_append, getV, getO, wipeE, startE, List.replicate, Nat.reduceAdd, Nat.reduceSub, Nat.reduceLT, Nat.reduceLeDiff, if_true, if_false, Bool.false_eq_true, Bool.true_eq_false, reduceIte, endOf_next, endOf_ret, endOf_exc, decide_true, decide_false, Bool.not_true, Bool.not_false, eBook])) rfl fun t _ => by simp only [EV, lift_some, R.bind_ok, R.s_ok, R.s_exc, w_noExc_ok, List.getElem?_cons_zero, List.getElem?_cons_succ, List.getElem?_nil, List.set_cons_zero, List.set_cons_succ, List.map_cons, List.map_nil, List.length_cons, List.length_nil, List.cons_append, List.nil_append, getV, getO, wipeE, startE, List.replicate, Nat.reduceAdd, Nat.reduceSub, Nat.reduceLT, Nat.reduceLeDiff, if_true, if_false, Bool.false_eq_true, Bool.true_eq_false, reduceIte, endOf_next, endOf_ret, endOf_exc, decide_true, decide_false, Bool.not_true, Bool.not_false, eT]
  have hq : dofQ (.lst (k.tg.map fun t => .tup [.str t.nm, .int t.pt])) st = .ok (.ref st.length) (st ++ [.dict ((List.range 5).map fun i => (letr i, D.int (tgt5 c i).pt))]) := by
    simp only [dofQ, B.listOf, view_lst, Option.bind_some]
    rw [pairsD_map (fun t : Tgt => t.nm) (fun t => D.int t.pt), hk, List.map_map]
    show R.ok _ (st ++ [Cell.dict (mergeD ((List.range 5).map fun i => (letr i, D.int (tgt5 c i).pt)))]) = _
    rw [dict5]
  refine en_step (ρ' := [.val (eBook k), .val src, .val (.ref st.length), .no, .no, .no]) (st' := st ++ [.dict ((List.range 5).map fun i => (letr i, D.int (tgt5 c i).pt))]) (by simp only [EV, lift_some, R.bind_ok, R.s_ok, R.s_exc, w_noExc_ok, List.getElem?_cons_zero, List.getElem?_cons_succ, List.getElem?_nil, List.set_cons_zero, List.set_cons_succ, List.map_cons, List.map_nil, List.length_cons, List.length_nil, List.cons_append, List.nil_append, getV, getO, wipeE, startE, List.replicate, Nat.reduceAdd, Nat.reduceSub, Nat.reduceLT, Nat.reduceLeDiff, if_true, if_false, Bool.false_eq_true, Bool.true_eq_false, reduceIte, endOf_next, endOf_ret, endOf_exc, decide_true, decide_false, Bool.not_true, Bool.not_false, hc, hq]) ?_
  have hc2 : evC (sem defs n) (.comp (.idx (.var 2) (.var 3)) (.nm 3) (.val (.var 1)) .none [3]) [.val (eBook k), .val src, .val (.ref st.length), .no, .no, .no] (st ++ [.dict ((List.range 5).map fun i => (letr i, D.int (tgt5 c i).pt))])
      = .ok (l.map fun i => .int (tgt5 c i).pt) (st ++ [.dict ((List.range 5).map fun i => (letr i, D.int (tgt5 c i).pt))]) :=
    comp_all (D.str ∘ letr) l _ (okf := fun st => srcOk st src ((l.map letr).map .str)) (by simp only [evI, EV, lift_some, R.bind_ok, R.s_ok, R.s_exc, w_noExc_ok, List.getElem?_cons_zero, List.getElem?_cons_succ, List.getElem?_nil, List.set_cons_zero, List.set_cons_succ, List.map_cons, List.map_nil, List.length_cons, List.length_nil, List.cons_append, List.nil_append, getV, getO, wipeE, startE, List.replicate, Nat.reduceAdd, Nat.reduceSub, Nat.reduceLT, Nat.reduceLeDiff, if_true, if_false, Bool.false_eq_true, Bool.true_eq_false, reduceIte, endOf_next, endOf_ret, endOf_exc, decide_true, decide_false, Bool.not_true, Bool.not_false, hi, List.map_map]) (ho _) fun i hm => by
      have : idxD (st ++ [.dict ((List.range 5).map fun i => (letr i, D.int (tgt5 c i).pt))]) (.ref st.length) (.str (letr i)) = some (.int (tgt5 c i).pt) := by
        simp only [idxD]
        rw [List.getElem?_append_right (Nat.le_refl _), Nat.sub_self]
        exact get5 _ (hl i hm)
      simp only [EV, lift_some, R.bind_ok, R.s_ok, R.s_exc, w_noExc_ok, List.getElem?_cons_zero, List.getElem?_cons_succ, List.getElem?_nil, List.set_cons_zero, List.set_cons_succ, List.map_cons, List.map_nil, List.length_cons, List.length_nil, List.cons_append, List.nil_append, getV, getO, wipeE, startE, List.replicate, Nat.reduceAdd, Nat.reduceSub, Nat.reduceLT, Nat.reduceLeDiff, if_true, if_false, Bool.false_eq_true, Bool.true_eq_false, reduceIte, endOf_next, endOf_ret, endOf_exc, decide_true, decide_false, Bool.not_true, Bool.not_false, Function.comp, this]
  refine en_ret (e_ret ?_)
  simp only [EV, lift_some, R.bind_ok, R.s_ok, R.s_exc, w_noExc_ok, List.getElem?_cons_zero, List.getElem?_cons_succ, List.getElem?_nil, List.set_cons_zero, List.set_cons_succ, List.map_cons, List.map_nil, List.length_cons, List.length_nil, List.cons_append, List.nil_append, getV, getO, wipeE, startE, List.replicate, Nat.reduceAdd, Nat.reduceSub, Nat.reduceLT, Nat.reduceLeDiff, if_true, if_false, Bool.false_eq_true, Bool.true_eq_false, reduceIte, endOf_next, endOf_ret, endOf_exc, decide_true, decide_false, Bool.not_true, Bool.not_false, hc2]
  rfl
/-! ### what is lit -/
def insN (i : Nat) : List Nat → List Nat
  | [] => [i]
  | a :: l => if i < a then i :: a :: l else if i = a then a :: l else a :: insN i l
theorem mem_insN {i x : Nat} : ∀ {l : List Nat}, x ∈ insN i l ↔ x ∈ l ∨ x = i
  | [] => by simp [insN]
  | a :: l => by
    have ih := mem_insN (i := i) (x := x) (l := l)
    unfold insN
    split
    · simp only [List.mem_cons]
      constructor
      · rintro (h | h | h)
        · exact .inr h
        · exact .inl (.inl h)
        · exact .inl (.inr h)
      · rintro ((h | h) | h)
        · exact .inr (.inl h)
        · exact .inr (.inr h)
        · exact .inl h
    · split
      · rename_i h
        simp only [List.mem_cons]
        constructor
        · exact fun h => .inl h
        · rintro (h2 | h2)
          · exact h2
          · exact .inl (by rw [h2, h])
      · simp only [List.mem_cons, ih]
        constructor
        · rintro (h | h | h)
          · exact .inl (.inl h)
          · exact .inl (.inr h)
          · exact .inr h
        · rintro ((h | h) | h)
          · exact .inl h
          · exact .inr (.inl h)
          · exact .inr (.inr h)
theorem insN_lt (i : Nat) : ∀ {l : List Nat}, l.Pairwise (· < ·) → (insN i l).Pairwise (· < ·)
  | [], _ => by simp [insN]
  | a :: l, h => by
    rw [List.pairwise_cons] at h
    unfold insN
    split
    · rename_i h1
      rw [List.pairwise_cons, List.pairwise_cons]
      refine ⟨fun b hb => ?_, h⟩
      rcases List.mem_cons.mp hb with rfl | hb
      · exact h1
      · have := h.1 b hb
        omega
    · split
      · rw [List.pairwise_cons]
        exact h
      · rw [List.pairwise_cons]
        refine ⟨fun b hb => ?_, insN_lt i h.2⟩
        rcases mem_insN.mp hb with hb | rfl
        · exact h.1 b hb
        · omega
theorem strLe_total (a b : Str) : (strLe a b || strLe b a) = true := by
  unfold strLe
  simp only [Bool.or_eq_true, decide_eq_true_eq]
  exact List.le_total _ _
theorem strLe_trans (a b c : Str) (h1 : strLe a b = true) (h2 : strLe b c = true) : strLe a c = true := by
  unfold strLe at *
  simp only [decide_eq_true_eq] at *
  exact List.le_trans h1 h2
theorem strLe_anti (a b : Str) (h1 : strLe a b = true) (h2 : strLe b a = true) : a = b := by
  unfold strLe at *
  simp only [decide_eq_true_eq] at *
  have e := List.le_antisymm h1 h2
  cases a; cases b
  congr 1
  exact Array.ext' e
theorem lit_ins {l : List Nat} (h : l.Pairwise (· < ·)) (i : Nat) : litUp (l.map letr) (letr i) = (insN i l).map letr := by
  have hl := insN_lt i h
  have nd : ((insN i l).map letr).Nodup := by
    rw [List.nodup_iff_pairwise_ne, List.pairwise_map]
    exact hl.imp fun h e => by
      have := letr_inj e
      omega
  refine List.Perm.eq_of_pairwise (le := fun a b => strLe a b = true) (fun a b _ _ h1 h2 => strLe_anti a b h1 h2) ?_ ?_ ?_
  · exact List.pairwise_mergeSort strLe_trans strLe_total _
  · rw [List.pairwise_map]
    refine hl.imp fun {a b} h => ?_
    unfold strLe letr
    simp only [decide_eq_true_eq]
    show [97 + a] ≤ [97 + b]
    have : 97 + a ≤ 97 + b := by omega
    exact List.not_lt.mp fun w => by
      rcases List.cons_lt_cons_iff.mp w with h | ⟨_, h⟩
      · omega
      · cases h
  · refine (List.perm_ext_iff_of_nodup (nodup_litUp _ _) nd).mpr fun x => ?_
    rw [mem_litUp]
    simp only [List.mem_map, mem_insN]
    constructor
    · rintro (⟨a, ha, rfl⟩ | rfl)
      · exact ⟨a, .inl ha, rfl⟩
      · exact ⟨i, .inr rfl, rfl⟩
    · rintro ⟨a, ha | rfl, rfl⟩
      · exact .inl ⟨a, ha, rfl⟩
      · exact .inr rfl
theorem fil_letr (l : List Nat) (p : List Nat) : (l.map letr).filter (fun s => decide (s ∉ p.map letr)) = (l.filter fun i => decide (i ∉ p)).map letr := by
  rw [List.filter_map]
  congr 2
  funext i
  simp only [Function.comp, decide_eq_decide, List.mem_map, letr_eq, exists_eq_right]
theorem all_letr (l : List Nat) (p : List Nat) : ((p.map letr).all fun n => decide (n ∈ l.map letr)) = p.all fun i => decide (i ∈ l) := by
  rw [List.all_map]
  congr 1
  funext i
  simp only [Function.comp, decide_eq_decide, List.mem_map, letr_eq, exists_eq_right]
end Bt


set_option Elab.async false
set_option linter.all false
set_option maxRecDepth 100000
set_option maxHeartbeats 4000000
namespace Law
set_option autoImplicit false
open PySem L2 B P
def ix : Ix := { i_Play_init := 0, i_Play_set_ball := 1, i_Play_ball := 2, i_Play_state := 3, i_Play_tell := 4, i_Play_doubled := 5, i_Play_look_for_aim := 6, i_Play_hit := 7, i_Play_look_for_lock := 8, i_Play_award := 9, i_Play_nudge := 10, i_Play_tick := 11, i_Play_is_still := 12, i_target_of := 13, i_fresh := 14, i_begun := 15, i_scores := 16, i_is_over := 17, i_next_player := 18, i_drain := 19, i_step := 20, i_gone := 21, i_after := 22, i_story := 23, i__law_cell := 24, i__law_mix := 25, i__law_table := 26, i__law_hits := 27, i__law_points_of := 28, i_law := 29, e_BallError := 0, e_NoName := 1 }
def d_law : Ss := (.cons (.for (.nm 1) (.rng1 (.con (.int 10))) (.cons (.asg (.nm 2) (.bin .add (.call ix.i__law_cell (.cons (.var 0) (.cons (.bin .mod (.var 1) (.con (.int 9))) .nil))) (.bin .mul (.con (.int 41)) (.var 1)))) (.cons (.asg (.nm 3) (.bin .add (.con (.int 2)) (.call ix.i__law_mix (.cons (.var 2) (.cons (.con (.int 9629)) (.cons (.con (.int 2)) .nil)))))) (.cons (.asg (.nm 4) (.call ix.i__law_table (.cons (.var 2) (.cons (.tup (.cons (.tup (.cons (.tup (.cons (.con (.str s_a)) .nil)) (.cons (.con (.str s_open)) .nil))) .nil)) (.cons (.tup (.cons (.con (.str s_b)) (.cons (.var 3) .nil))) (.cons (.tup (.cons (.con (.int 0)) (.cons (.con (.int 1)) (.cons (.con (.int 1)) (.cons (.con (.non)) .nil))))) .nil)))))) (.cons (.par2 9 10 (.call ix.i_begun (.cons (.var 4) (.cons (.con (.int 1)) .nil))) (.cel (.disp .nil))) (.cons (.for (.nm 5) (.rng2 (.con (.int 1)) (.bin .add (.var 3) (.con (.int 1)))) (.cons (.asg (.nm 9) (.call ix.i_after (.cons (.var 4) (.cons (.var 9) (.cons (.call ix.i__law_hits (.cons (.bin .add (.con (.str s_b)) (.con (.str s_a))) .nil)) .nil))))) (.cons (.ife (.or (.cmp .isn (.idx (.idx (.var 9) (.con (.int 2))) (.con (.int 9))) (.con (.bl true))) (.or (.cmp .ne (.idx (.idx (.idx (.var 9) (.con (.int 1))) (.con (.int 0))) (.con (.int 3))) (.bin .sub (.var 5) (.con (.int 1)))) (.cmp .ne (.idx (.idx (.var 9) (.con (.int 2))) (.con (.int 0))) (.con (.int 1))))) (.cons (.ret (.con (.bl false))) .nil) .nil) (.cons (.asg (.nm 11) (.frz (.comp (.var 14) (.tp (.cons (.nm 12) (.cons (.nm 13) (.cons (.nm 14) (.cons (.nm 15) .nil))))) (.val (.call ix.i_story (.cons (.var 4) (.cons (.var 9) (.cons (.call ix.i__law_hits (.cons (.con (.str s_bb)) .nil)) .nil))))) .none [12, 13, 14, 15]))) (.cons (.asg (.nm 9) (.call ix.i_after (.cons (.var 4) (.cons (.var 9) (.cons (.call ix.i__law_hits (.cons (.con (.str s_bb)) .nil)) .nil))))) (.cons (.expr (.ext (.var 10) (.frz (.disp (.cons (.con (.str s_b)) (.cons (.con (.str s_a)) (.cons (.con (.str s_b)) (.cons (.con (.str s_b)) .nil)))))))) (.cons (.ife (.cmp .ne (.var 11) (.ife (.cmp .lt (.var 5) (.var 3)) (.frz (.disp (.cons (.con (.str s_hit)) (.cons (.con (.str s_lock)) (.cons (.con (.str s_hit)) .nil))))) (.frz (.disp (.cons (.con (.str s_hit)) (.cons (.con (.str s_lock)) (.cons (.con (.str s_all)) (.cons (.con (.str s_hit)) .nil)))))))) (.cons (.ret (.con (.bl false))) .nil) .nil) (.cons (.ife (.or (.cmp .isn (.idx (.idx (.var 9) (.con (.int 2))) (.con (.int 9))) (.con (.bl false))) (.or (.cmp .ne (.idx (.idx (.idx (.var 9) (.con (.int 1))) (.con (.int 0))) (.con (.int 3))) (.bin .mod (.var 5) (.var 3))) (.cmp .ne (.idx (.idx (.var 9) (.con (.int 2))) (.con (.int 0))) (.ife (.cmp .lt (.var 5) (.var 3)) (.con (.int 1)) (.var 3))))) (.cons (.ret (.con (.bl false))) .nil) .nil) .nil)))))))) (.cons (.ife (.cmp .ne (.call ix.i_scores (.cons (.var 9) .nil)) (.tup (.cons (.call ix.i__law_points_of (.cons (.var 4) (.cons (.var 10) .nil))) .nil))) (.cons (.ret (.con (.bl false))) .nil) .nil) (.cons (.asg (.nm 6) (.call ix.i_after (.cons (.var 4) (.cons (.var 9) (.cons (.call ix.i__law_hits (.cons (.con (.str s_aebe)) .nil)) .nil))))) (.cons (.ife (.or (.cmp .ne (.idx (.call ix.i_scores (.cons (.var 6) .nil)) (.con (.int 0))) (.bin .add (.bin .add (.idx (.call ix.i_scores (.cons (.var 9) .nil)) (.con (.int 0))) (.call ix.i__law_points_of (.cons (.var 4) (.cons (.con (.str s_aebe)) .nil)))) (.bin .mul (.con (.int 2)) (.idx (.idx (.var 4) (.con (.int 3))) (.con (.int 1)))))) (.cmp .ne (.idx (.idx (.idx (.var 6) (.con (.int 1))) (.con (.int 0))) (.con (.int 3))) (.con (.int 0)))) (.cons (.ret (.con (.bl false))) .nil) .nil) (.cons (.for (.nm 7) (.rng3 (.bin .sub (.var 3) (.con (.int 1))) (.con (.int 0))) (.cons (.asg (.nm 6) (.call ix.i_after (.cons (.var 4) (.cons (.var 6) (.cons (.tup (.cons (.tup (.cons (.con (.str s_drain)) (.cons (.con (.non)) .nil))) .nil)) .nil))))) (.cons (.ife (.or (.cmp .ne (.idx (.idx (.var 6) (.con (.int 2))) (.con (.int 0))) (.var 7)) (.cmp .ne (.idx (.var 6) (.con (.int 0))) (.con (.int 0)))) (.cons (.ret (.con (.bl false))) .nil) .nil) .nil))) (.cons (.asg (.nm 8) (.call ix.i_after (.cons (.var 4) (.cons (.var 6) (.cons (.call ix.i__law_hits (.cons (.con (.str s_e)) .nil)) .nil))))) (.cons (.ife (.cmp .ne (.idx (.call ix.i_scores (.cons (.var 8) .nil)) (.con (.int 0))) (.bin .add (.idx (.call ix.i_scores (.cons (.var 6) .nil)) (.con (.int 0))) (.call ix.i__law_points_of (.cons (.var 4) (.cons (.con (.str s_e)) .nil))))) (.cons (.ret (.con (.bl false))) .nil) .nil) (.cons (.ife (.cmp .isn (.idx (.call ix.i_after (.cons (.var 4) (.cons (.var 8) (.cons (.tup (.cons (.tup (.cons (.con (.str s_drain)) (.cons (.con (.non)) .nil))) .nil)) .nil)))) (.con (.int 0))) (.con (.non))) (.cons (.ret (.con (.bl false))) .nil) .nil) .nil))))))))))))) (.cons (.ret (.con (.bl true))) .nil))
def defs : List Def := [⟨3, 4, (d_Play_init ix), false⟩, ⟨2, 2, (d_Play_set_ball ix), false⟩, ⟨1, 2, (d_Play_ball ix), false⟩, ⟨1, 3, (d_Play_state ix), false⟩, ⟨3, 3, (d_Play_tell ix), false⟩, ⟨2, 2, (d_Play_doubled ix), false⟩, ⟨1, 2, (d_Play_look_for_aim ix), false⟩, ⟨2, 8, (d_Play_hit ix), false⟩, ⟨2, 4, (d_Play_look_for_lock ix), false⟩, ⟨2, 3, (d_Play_award ix), false⟩, ⟨1, 1, (d_Play_nudge ix), false⟩, ⟨1, 1, (d_Play_tick ix), false⟩, ⟨1, 1, (d_Play_is_still ix), false⟩, ⟨2, 3, (d_target_of ix), false⟩, ⟨1, 1, (d_fresh ix), false⟩, ⟨2, 4, (d_begun ix), false⟩, ⟨1, 2, (d_scores ix), false⟩, ⟨1, 1, (d_is_over ix), false⟩, ⟨1, 5, (d_next_player ix), false⟩, ⟨1, 1, (d_drain ix), false⟩, ⟨3, 7, (d_step ix), true⟩, ⟨3, 3, (d_gone ix), false⟩, ⟨3, 4, (d_after ix), false⟩, ⟨3, 8, (d_story ix), false⟩, ⟨2, 2, (d__law_cell ix), false⟩, ⟨3, 4, (d__law_mix ix), false⟩, ⟨4, 6, (d__law_table ix), false⟩, ⟨1, 2, (d__law_hits ix), false⟩, ⟨2, 6, (d__law_points_of ix), true⟩, ⟨1, 16, d_law, false⟩]
end Law

set_option Elab.async false
set_option linter.all false
set_option maxRecDepth 100000
set_option maxHeartbeats 4000000
namespace Law
set_option autoImplicit false
open PySem PySem.Spec L2 B P
open PyProof.Rows hiding St
def top (i : Nat) : Stmt := PySem.Challenge.pw_balltables_k20_whole_balls_locked.main.body.getD i (.Pass ⟨0, 0, 0, 0⟩)
abbrev st0 : Stmt := inClass (top 7) 0
def x0 : Dfn := ⟨s___init__, s_x506c61792e5f5f696e69745f5f, st0, [s_self, s_book, s_state, s_player], [s_self, s_book, s_state], ⟨3, 4, (d_Play_init ix), false⟩⟩
abbrev st1 : Stmt := inClass (top 7) 1
def x1 : Dfn := ⟨s_set_ball, s_x506c61792e7365745f62616c6c, st1, [s_self, s_ball], [s_self, s_ball], ⟨2, 2, (d_Play_set_ball ix), false⟩⟩
abbrev st2 : Stmt := inClass (top 7) 2
def x2 : Dfn := ⟨s_ball, s_x506c61792e62616c6c, st2, [s_self, s_first], [s_self], ⟨1, 2, (d_Play_ball ix), false⟩⟩
abbrev st3 : Stmt := inClass (top 7) 3
def x3 : Dfn := ⟨s_state, s_x506c61792e7374617465, st3, [s_self, s_players, s_player], [s_self], ⟨1, 3, (d_Play_state ix), false⟩⟩
abbrev st4 : Stmt := inClass (top 7) 4
def x4 : Dfn := ⟨s_tell, s_x506c61792e74656c6c, st4, [s_self, s_word, s_points], [s_self, s_word, s_points], ⟨3, 3, (d_Play_tell ix), false⟩⟩
abbrev st5 : Stmt := inClass (top 7) 5
def x5 : Dfn := ⟨s_doubled, s_x506c61792e646f75626c6564, st5, [s_self, s_points], [s_self, s_points], ⟨2, 2, (d_Play_doubled ix), false⟩⟩
abbrev st6 : Stmt := inClass (top 7) 6
def x6 : Dfn := ⟨s_look_for_aim, s_x506c61792e6c6f6f6b5f666f725f61696d, st6, [s_self, s_player], [s_self], ⟨1, 2, (d_Play_look_for_aim ix), false⟩⟩
abbrev st7 : Stmt := inClass (top 7) 7
def x7 : Dfn := ⟨s_hit, s_x506c61792e686974, st7, [s_self, s_target, s_name, s_points, s_bonus, s_names, s_award, s_one], [s_self, s_target], ⟨2, 8, (d_Play_hit ix), false⟩⟩
abbrev st8 : Stmt := inClass (top 7) 8
def x8 : Dfn := ⟨s_look_for_lock, s_x506c61792e6c6f6f6b5f666f725f6c6f636b, st8, [s_self, s_name, s_lock, s_player], [s_self, s_name], ⟨2, 4, (d_Play_look_for_lock ix), false⟩⟩
abbrev st9 : Stmt := inClass (top 7) 9
def x9 : Dfn := ⟨s_award, s_x506c61792e6177617264, st9, [s_self, s_word, s_points], [s_self, s_word], ⟨2, 3, (d_Play_award ix), false⟩⟩
abbrev st10 : Stmt := inClass (top 7) 10
def x10 : Dfn := ⟨s_nudge, s_x506c61792e6e75646765, st10, [s_self], [s_self], ⟨1, 1, (d_Play_nudge ix), false⟩⟩
abbrev st11 : Stmt := inClass (top 7) 11
def x11 : Dfn := ⟨s_tick, s_x506c61792e7469636b, st11, [s_self], [s_self], ⟨1, 1, (d_Play_tick ix), false⟩⟩
abbrev st12 : Stmt := inClass (top 7) 12
def x12 : Dfn := ⟨s_is_still, s_x506c61792e69735f7374696c6c, st12, [s_self], [s_self], ⟨1, 1, (d_Play_is_still ix), false⟩⟩
abbrev st13 : Stmt := top 12
def x13 : Dfn := ⟨s_target_of, s_target_of, st13, [s_book, s_name, s_target], [s_book, s_name], ⟨2, 3, (d_target_of ix), false⟩⟩
abbrev st14 : Stmt := top 14
def x14 : Dfn := ⟨s_fresh, s_fresh, st14, [s_book], [s_book], ⟨1, 1, (d_fresh ix), false⟩⟩
abbrev st15 : Stmt := top 15
def x15 : Dfn := ⟨s_begun, s_begun, st15, [s_book, s_many, s_players, s_k], [s_book, s_many], ⟨2, 4, (d_begun ix), false⟩⟩
abbrev st16 : Stmt := top 16
def x16 : Dfn := ⟨s_scores, s_scores, st16, [s_state, s_player], [s_state], ⟨1, 2, (d_scores ix), false⟩⟩
abbrev st17 : Stmt := top 17
def x17 : Dfn := ⟨s_is_over, s_is_over, st17, [s_state], [s_state], ⟨1, 1, (d_is_over ix), false⟩⟩
abbrev st18 : Stmt := top 20
def x18 : Dfn := ⟨s_next_player, s_next_player, st18, [s_play, s_player, s_many, s_k, s_other], [s_play], ⟨1, 5, (d_next_player ix), false⟩⟩
abbrev st19 : Stmt := top 21
def x19 : Dfn := ⟨s_drain, s_drain, st19, [s_play], [s_play], ⟨1, 1, (d_drain ix), false⟩⟩
abbrev st20 : Stmt := top 22
def x20 : Dfn := ⟨s_step, s_step, st20, [s_book, s_state, s_event, s_play, s_word, s_thing, s_left], [s_book, s_state, s_event], ⟨3, 7, (d_step ix), true⟩⟩
abbrev st21 : Stmt := top 23
def x21 : Dfn := ⟨s_gone, s_gone, st21, [s_book, s_state, s_event], [s_book, s_state, s_event], ⟨3, 3, (d_gone ix), false⟩⟩
abbrev st22 : Stmt := top 24
def x22 : Dfn := ⟨s_after, s_after, st22, [s_book, s_state, s_row, s_event], [s_book, s_state, s_row], ⟨3, 4, (d_after ix), false⟩⟩
abbrev st23 : Stmt := top 26
def x23 : Dfn := ⟨s_story, s_story, st23, [s_book, s_state, s_row, s_found, s_number, s_event, s_happened, s_one], [s_book, s_state, s_row], ⟨3, 8, (d_story ix), false⟩⟩
abbrev st24 : Stmt := top 28
def x24 : Dfn := ⟨s__law_cell, s__law_cell, st24, [s__law_script, s__law_k], [s__law_script, s__law_k], ⟨2, 2, (d__law_cell ix), false⟩⟩
abbrev st25 : Stmt := top 29
def x25 : Dfn := ⟨s__law_mix, s__law_mix, st25, [s__law_cell_here, s__law_prime, s__law_many, s__law_blend], [s__law_cell_here, s__law_prime, s__law_many], ⟨3, 4, (d__law_mix ix), false⟩⟩
abbrev st26 : Stmt := top 30
def x26 : Dfn := ⟨s__law_table, s__law_table, st26, [s__law_cell_here, s__law_banks, s__law_lock, s__law_rest, s__law_targets, s__law_n], [s__law_cell_here, s__law_banks, s__law_lock, s__law_rest], ⟨4, 6, (d__law_table ix), false⟩⟩
abbrev st27 : Stmt := top 31
def x27 : Dfn := ⟨s__law_hits, s__law_hits, st27, [s__law_names, s__law_name], [s__law_names], ⟨1, 2, (d__law_hits ix), false⟩⟩
abbrev st28 : Stmt := top 32
def x28 : Dfn := ⟨s__law_points_of, s__law_points_of, st28, [s__law_book, s__law_names, s__law_table_here, s__law_name, s__law_points, s__law_bonus], [s__law_book, s__law_names], ⟨2, 6, (d__law_points_of ix), true⟩⟩
abbrev st29 : Stmt := top 33
def x29 : Dfn := ⟨s_law, s_law, st29, [s__law_script, s__law_k, s__law_cell_here, s__law_many, s__law_book, s__law_turn, s__law_new, s__law_left, s__law_lone, s__law_state, s__law_names, s__law_told, s__law_number, s__law_who, s__law_word, s__law_points], [s__law_script], ⟨1, 16, d_law, false⟩⟩
def Ls : List Dfn := [x0, x1, x2, x3, x4, x5, x6, x7, x8, x9, x10, x11, x12, x13, x14, x15, x16, x17, x18, x19, x20, x21, x22, x23, x24, x25, x26, x27, x28, x29]
def tb : Tab := ⟨[(13, s_target_of), (14, s_fresh), (15, s_begun), (16, s_scores), (17, s_is_over), (18, s_next_player), (19, s_drain), (20, s_step), (21, s_gone), (22, s_after), (23, s_story), (24, s__law_cell), (25, s__law_mix), (26, s__law_table), (27, s__law_hits), (28, s__law_points_of)], [(1, 0, s_set_ball), (2, 0, s_ball), (3, 0, s_state), (4, 0, s_tell), (5, 0, s_doubled), (6, 0, s_look_for_aim), (7, 0, s_hit), (8, 0, s_look_for_lock), (9, 0, s_award), (10, 0, s_nudge), (11, 0, s_tick), (12, 0, s_is_still)], [(0, s_Play)], [s_bonus, s_book, s_calm, s_double, s_factor, s_had_extra, s_happened, s_is_open, s_is_tilted, s_lit, s_many, s_players, s_saves, s_turn, s_warns], [s_all, s_dict, s_enumerate, s_int, s_len, s_list, s_max, s_min, s_range, s_set, s_sorted, s_sum, s_tuple], [(s_DOUBLE, (D.int 20)), (s_MOST_FACTOR, (D.int 5)), (s_MOST_BONUS, (D.int 99)), (s_ONCE_MORE, (D.int 500)), (s_NO_LOCK, (D.int 250)), (s_CALM, (D.int 30)), (s_WORTH, (D.int 10))], [(1, s_NoName)], [3, 2, 1, 1, 3, 2, 1, 2, 2, 2, 1, 1, 1, 2, 1, 2, 1, 1, 1, 1, 3, 3, 3, 3, 2, 3, 4, 1, 2, 1]⟩
theorem ls_ok : Ls.all (okB tb) = true := by decide +kernel
theorem ls_ar : tb.ar = (defsOf Ls).map (·.ar) := rfl
theorem defs_eq : defsOf Ls = defs := rfl
end Law

set_option Elab.async false
set_option linter.all false
set_option maxRecDepth 100000
set_option maxHeartbeats 4000000
/-! k20: balls locked. -/
namespace Law
open PySem P B Bt
set_option autoImplicit false
variable {Φ : Phi}
structure Sps (Φ : Phi) : Prop where
  cell : SpCell ix Φ
  mix : SpMix ix Φ
  table : SpTable ix Φ
  hits : SpHits ix Φ
  begun : SpBegun ix Φ
  after : SpAfter ix Φ
  scores : SpScores ix Φ
  story : SpStory ix Φ
  pts : SpPts ix Φ
abbrev K (c m : Int) : Book := tableP c [⟨[letr 0], s_open⟩] (some (letr 1, m)) 0 1 1 none
abbrev ball (many : Int) (l : List Str) (bn : Int) (opn : Bool) : Ball := ⟨many, l, bn, 1, 0, 0, 0, 0, false, opn, false⟩
abbrev on1 (p lck : Int) (b : Ball) : St := .on 0 [⟨p, 0, 0, lck, false⟩] b
variable {c m : Int}
theorem hit20 {p lck many bn : Int} {l : List Str} {opn : Bool} {i : Nat} (hi : i < 5) : step (K c m) (on1 p lck (ball many l bn opn)) (.hit (letr i)) = (.on 0 [(hit (K c m) ⟨⟨p, 0, 0, lck, false⟩, ball many l bn opn, []⟩ (tgt5 c i)).q] (hit (K c m) ⟨⟨p, 0, 0, lck, false⟩, ball many l bn opn, []⟩ (tgt5 c i)).b, told 0 (hit (K c m) ⟨⟨p, 0, 0, lck, false⟩, ball many l bn opn, []⟩ (tgt5 c i)).h) :=
  hit1_step rfl (find5 c _ _ 0 1 1 none hi)
abbrev jkp (c : Int) : Int := 1 + (mixN c 9677 5000 : Nat)
theorem f1 : s_open ≠ s_times := by decide +kernel
theorem f2 : s_open ≠ s_double := by decide +kernel
theorem f3 : s_open ≠ s_extra := by decide +kernel
theorem nm5 (i : Nat) : (tgt5 c i).nm = letr i := rfl
/-- b, where nothing is open -/
theorem hitB {p lck many bn : Int} {l : List Str} {opn : Bool} (h0 : letr 0 ∉ l) (h : opn = false ∨ 1 < many) : ∃ l' bn', letr 0 ∉ l' ∧ step (K c m) (on1 p lck (ball many l bn opn)) (.hit (letr 1)) = (on1 (p + (tgt5 c 1).pt) lck (ball many l' bn' opn), [(0, s_hit, (tgt5 c 1).pt)]) := by
  have hl : letr 0 ∉ litUp l (letr 1) := by rw [mem_litUp, letr_eq]; simp [h0]
  have ho : ¬ (opn = true ∧ many ≤ 1) := by
    rintro ⟨rfl, h2⟩
    rcases h with h | h
    · cases h
    · omega
  refine ⟨litUp l (letr 1), addBonus bn (tgt5 c 1).bo, hl, ?_⟩
  rw [hit20 (by decide)]
  simp [hit, aimed, banks, bank, lights, locks, jack, hit1, tell, tableP, nm5, letr_eq, s_e_eq, hl, ho, doubled, told, addBonus]
/-- a opens -/
theorem hitA {p lck many bn : Int} {l : List Str} {opn : Bool} : ∃ l' bn', letr 0 ∉ l' ∧ gone (K c m) (on1 p lck (ball many l bn opn)) (.hit (letr 0)) = on1 (p + (tgt5 c 0).pt) lck (ball many l' bn' true) := by
  have hl : letr 0 ∈ litUp l (letr 0) := by rw [mem_litUp]; exact .inr rfl
  refine ⟨(litUp l (letr 0)).filter fun n => decide (n ∉ [letr 0]), addBonus bn (tgt5 c 0).bo, by simp, ?_⟩
  rw [gone, hit20 (by decide)]
  simp [hit, aimed, banks, bank, award, lights, locks, jack, hit1, tell, tableP, nm5, letr_eq, s_e_eq, hl, doubled, told, addBonus, f1, f2, f3]
/-- b, where it is open -/
theorem hitL {p lck bn : Int} {l : List Str} (h0 : letr 0 ∉ l) (h : lck + 1 ≠ m) : ∃ l' bn', letr 0 ∉ l' ∧ step (K c m) (on1 p lck (ball 1 l bn true)) (.hit (letr 1)) = (on1 (p + (tgt5 c 1).pt) (lck + 1) (ball 1 l' bn' false), [(0, s_hit, (tgt5 c 1).pt), (0, s_lock, 0)]) := by
  have hl : letr 0 ∉ litUp l (letr 1) := by rw [mem_litUp, letr_eq]; simp [h0]
  refine ⟨litUp l (letr 1), addBonus bn (tgt5 c 1).bo, hl, ?_⟩
  rw [hit20 (by decide)]
  simp [hit, aimed, banks, bank, lights, locks, jack, hit1, tell, tableP, nm5, letr_eq, s_e_eq, hl, h, doubled, told, addBonus]
theorem hitM {p lck bn : Int} {l : List Str} (h0 : letr 0 ∉ l) (h : lck + 1 = m) : ∃ l' bn', letr 0 ∉ l' ∧ step (K c m) (on1 p lck (ball 1 l bn true)) (.hit (letr 1)) = (on1 (p + (tgt5 c 1).pt) 0 (ball m l' bn' false), [(0, s_hit, (tgt5 c 1).pt), (0, s_lock, 0), (0, s_all, 0)]) := by
  have hl : letr 0 ∉ litUp l (letr 1) := by rw [mem_litUp, letr_eq]; simp [h0]
  refine ⟨litUp l (letr 1), addBonus bn (tgt5 c 1).bo, hl, ?_⟩
  rw [hit20 (by decide)]
  simp [hit, aimed, banks, bank, lights, locks, jack, hit1, tell, tableP, nm5, letr_eq, s_e_eq, hl, h, doubled, told, addBonus]
/-- e -/
theorem hitE {p lck many bn : Int} {l : List Str} {opn : Bool} (h0 : letr 0 ∉ l) : ∃ l' bn', letr 0 ∉ l' ∧ gone (K c m) (on1 p lck (ball many l bn opn)) (.hit (letr 4)) = on1 (p + (tgt5 c 4).pt + (if 1 < many then jkp c else 0)) lck (ball many l' bn' opn) := by
  have hl : letr 0 ∉ litUp l (letr 4) := by rw [mem_litUp, letr_eq]; simp [h0]
  refine ⟨litUp l (letr 4), addBonus bn (tgt5 c 4).bo, hl, ?_⟩
  rw [gone, hit20 (by decide)]
  by_cases hm : 1 < many
  · simp [hit, aimed, banks, bank, lights, locks, jack, hit1, tell, tableP, nm5, letr_eq, s_e_eq, hl, hm, doubled, told, addBonus]
  · simp [hit, aimed, banks, bank, lights, locks, jack, hit1, tell, tableP, nm5, letr_eq, s_e_eq, hl, hm, doubled, told, addBonus]
theorem begun20 : begun (K c m) 1 = on1 0 0 (ball 1 [] 0 false) := rfl
theorem ba20 {p lck bn : Int} {l : List Str} (h0 : letr 0 ∉ l) : ∃ l' bn', letr 0 ∉ l' ∧ Bt.after (K c m) (on1 p lck (ball 1 l bn false)) [.hit (letr 1), .hit (letr 0)] = on1 (p + (tgt5 c 1).pt + (tgt5 c 0).pt) lck (ball 1 l' bn' true) := by
  obtain ⟨l1, b1, h1, e1⟩ := hitB (c := c) (m := m) (p := p) (lck := lck) (many := 1) (bn := bn) h0 (.inl rfl)
  obtain ⟨l2, b2, h2, e2⟩ := hitA (c := c) (m := m) (p := p + (tgt5 c 1).pt) (lck := lck) (many := 1) (bn := b1) (l := l1) (opn := false)
  refine ⟨l2, b2, h2, ?_⟩
  simp only [Bt.after, List.foldl_cons, List.foldl_nil, gone, e1] at e2 ⊢
  exact e2
def told3 : List Str := [s_hit, s_lock, s_hit]
def told4 : List Str := [s_hit, s_lock, s_all, s_hit]
theorem bb20 {p lck bn : Int} {l : List Str} (h0 : letr 0 ∉ l) : ∃ l' bn', letr 0 ∉ l' ∧ Bt.after (K c m) (on1 p lck (ball 1 l bn true)) [.hit (letr 1), .hit (letr 1)] = on1 (p + (tgt5 c 1).pt + (tgt5 c 1).pt) (if lck + 1 = m then 0 else lck + 1) (ball (if lck + 1 = m then m else 1) l' bn' false) ∧ words (Bt.story (K c m) (on1 p lck (ball 1 l bn true)) [.hit (letr 1), .hit (letr 1)]) = (if lck + 1 = m then told4 else told3) := by
  by_cases h : lck + 1 = m
  · obtain ⟨l1, b1, h1, e1⟩ := hitM (c := c) (m := m) (p := p) (lck := lck) (bn := bn) h0 h
    obtain ⟨l2, b2, h2, e2⟩ := hitB (c := c) (m := m) (p := p + (tgt5 c 1).pt) (lck := 0) (many := m) (bn := b1) (opn := false) h1 (.inl rfl)
    refine ⟨l2, b2, h2, ?_, ?_⟩
    · simp only [Bt.after, List.foldl_cons, List.foldl_nil, gone, e1, e2, if_pos h]
    · simp only [Bt.story, storyFrom, e1, e2, if_pos h, words]
      rfl
  · obtain ⟨l1, b1, h1, e1⟩ := hitL (c := c) (m := m) (p := p) (lck := lck) (bn := bn) h0 h
    obtain ⟨l2, b2, h2, e2⟩ := hitB (c := c) (m := m) (p := p + (tgt5 c 1).pt) (lck := lck + 1) (many := 1) (bn := b1) (opn := false) h1 (.inl rfl)
    refine ⟨l2, b2, h2, ?_, ?_⟩
    · simp only [Bt.after, List.foldl_cons, List.foldl_nil, gone, e1, e2, if_neg h]
    · simp only [Bt.story, storyFrom, e1, e2, if_neg h, words]
      rfl
theorem aebe20 {p bn : Int} {l : List Str} (hm : 1 < m) (h0 : letr 0 ∉ l) : ∃ l' bn', letr 0 ∉ l' ∧ Bt.after (K c m) (on1 p 0 (ball m l bn false)) [.hit (letr 0), .hit (letr 4), .hit (letr 1), .hit (letr 4)] = on1 (p + ptsOf c [0, 4, 1, 4] + 2 * jkp c) 0 (ball m l' bn' true) := by
  obtain ⟨l1, b1, h1, e1⟩ := hitA (c := c) (m := m) (p := p) (lck := 0) (many := m) (bn := bn) (l := l) (opn := false)
  obtain ⟨l2, b2, h2, e2⟩ := hitE (c := c) (m := m) (p := p + (tgt5 c 0).pt) (lck := 0) (many := m) (bn := b1) (opn := true) h1
  rw [if_pos hm] at e2
  obtain ⟨l3, b3, h3, e3⟩ := hitB (c := c) (m := m) (p := p + (tgt5 c 0).pt + (tgt5 c 4).pt + jkp c) (lck := 0) (many := m) (bn := b2) (opn := true) h2 (.inr hm)
  obtain ⟨l4, b4, h4, e4⟩ := hitE (c := c) (m := m) (p := p + (tgt5 c 0).pt + (tgt5 c 4).pt + jkp c + (tgt5 c 1).pt) (lck := 0) (many := m) (bn := b3) (opn := true) h3
  rw [if_pos hm] at e4
  refine ⟨l4, b4, h4, ?_⟩
  have e3' : gone (K c m) (on1 (p + (tgt5 c 0).pt + (tgt5 c 4).pt + jkp c) 0 (ball m l2 b2 true)) (.hit (letr 1)) = on1 (p + (tgt5 c 0).pt + (tgt5 c 4).pt + jkp c + (tgt5 c 1).pt) 0 (ball m l3 b3 true) := by rw [gone, e3]
  simp only [Bt.after, List.foldl_cons, List.foldl_nil, e1, e2, e3', e4]
  rw [show p + (tgt5 c 0).pt + (tgt5 c 4).pt + jkp c + (tgt5 c 1).pt + (tgt5 c 4).pt + jkp c = p + ptsOf c [0, 4, 1, 4] + 2 * jkp c by simp only [ptsOf, List.map_cons, List.map_nil, List.sum_cons, List.sum_nil]; omega]
theorem drain20 {p bn many : Int} {l : List Str} {opn : Bool} (h : 1 < many) : Bt.after (K c m) (on1 p 0 (ball many l bn opn)) [.drain] = on1 p 0 (ball (many - 1) l bn opn) := by
  have := drain1_less (k := K c m) (q := ⟨p, 0, 0, 0, false⟩) (b := ball many l bn opn) (show ¬ (0 : Int) < 0 by decide) (show many - 1 ≠ 0 by omega)
  simp only [Bt.after, List.foldl_cons, List.foldl_nil, gone, this]
theorem over20 {p bn : Int} {l : List Str} {opn : Bool} : ∃ ps, Bt.after (K c m) (on1 p 0 (ball 1 l bn opn)) [.drain] = .over ps := by
  have := drain1_over (k := K c m) (q := ⟨p, 0, 0, 0, false⟩) (b := ball 1 l bn opn) (show ¬ (0 : Int) < 0 by decide) rfl rfl rfl (show ¬ (0 : Int) < 0 by decide) (show ¬ (0 : Int) < 0 by decide)
  exact ⟨_, by simp only [Bt.after, List.foldl_cons, List.foldl_nil, gone, this]; rfl⟩
def NL : Nat → List Nat
  | 0 => []
  | n + 1 => NL n ++ [1, 0, 1, 1]
theorem NL_pts (n : Nat) (c : Int) : ptsOf c (NL (n + 1)) = ptsOf c (NL n) + (tgt5 c 1).pt + (tgt5 c 0).pt + (tgt5 c 1).pt + (tgt5 c 1).pt := by
  rw [NL, pts_app]
  simp only [ptsOf, List.map_cons, List.map_nil, List.sum_cons, List.sum_nil]
  omega
theorem NL_lt : ∀ n : Nat, ∀ i ∈ NL n, i < 5
  | 0, i, h => by cases h
  | n + 1, i, h => by
    rcases List.mem_append.mp h with h | h
    · exact NL_lt n i h
    · simp only [List.mem_cons, List.not_mem_nil, or_false] at h
      omega
theorem NL_len : ∀ n : Nat, (NL n).length = 4 * n
  | 0 => rfl
  | n + 1 => by
    rw [NL, List.length_append, NL_len n]
    rfl
theorem s_bb_eq : s_bb.cps.toList = [1, 1].map (97 + ·) := by decide +kernel
theorem s_aebe_eq : s_aebe.cps.toList = [0, 4, 1, 4].map (97 + ·) := by decide +kernel
theorem s_el_eq : s_e.cps.toList = [4].map (97 + ·) := by decide +kernel
theorem hit_ok5 {i : Nat} (hi : i < 5) : (Ev.hit (letr i)).ok (K c m) := by
  show ((K c m).find (letr i)).isSome = true
  rw [find5 c _ _ 0 1 1 none hi]
  rfl
theorem put_last (base : Store) (x : Cell) (ys : List D) : putL (base ++ [x]) (.ref base.length) ys = base ++ [.lst ys] := by
  simp [putL, putCell]
abbrev nmD (j : Nat) : List D := ((NL j).map letr).map .str
theorem nm_len (j : Nat) : (nmD j).length = 4 * j := by
  rw [nmD, List.length_map, List.length_map, NL_len]
theorem add_ba : ∃ s : Str, binD .add (.str s_b) (.str s_a) = some (.str s) ∧ s.cps.toList = [1, 0].map (97 + ·) := by
  refine ⟨s_b ++ s_a, ?_, by decide +kernel⟩
  have : s_b.length + s_a.length ≤ sizeLine := small (by decide +kernel)
  simp only [binD, this, if_true]
theorem inner (H : Sps Φ) (ns : List Int) (k : Nat) (base : Store) (j : Nat) (hj : (j : Int) < m) (hm : 2 ≤ m ∧ m ≤ 3) (l : List Str) (bn : Int) (h0 : letr 0 ∉ l) (hI : Bt.Inv (K c m) (on1 (ptsOf c (NL j)) j (ball 1 l bn false))) (a1 a2 a3 a4 a5 a6 a7 a8 a9 a10 a11 a12 a13 a14 a15 : B.Slot) {Q : Fl → Store → Prop}
    (hq : ∀ (l' : List Str) (bn' : Int) (a5 a6 a7 a8 a11 a12 a13 a14 a15 : B.Slot), letr 0 ∉ l' → Bt.Inv (K c m) (on1 (ptsOf c (NL (j + 1))) (if (j : Int) + 1 = m then 0 else (j : Int) + 1) (ball (if (j : Int) + 1 = m then m else 1) l' bn' false)) →
      Q (.next [.val (.scr ns), .val (.int k), .val (.int c), .val (.int m), .val (eBook (K c m)), a5, a6, a7, a8, .val (eSt (on1 (ptsOf c (NL (j + 1))) (if (j : Int) + 1 = m then 0 else (j : Int) + 1) (ball (if (j : Int) + 1 = m then m else 1) l' bn' false))), .val (.ref base.length), a11, a12, a13, a14, a15]) (base ++ [.lst (nmD (j + 1))])) :
    Wp (evSs Φ (match d_law with
      | .cons (.for _ _ (.cons _ (.cons _ (.cons _ (.cons _ (.cons (.for _ _ b) _)))))) _ => b
      | _ => .nil) [.val (.scr ns), .val (.int k), .val (.int c), .val (.int m), .val (eBook (K c m)), .val (.int (1 + (j : Nat))), a6, a7, a8, .val (eSt (on1 (ptsOf c (NL j)) j (ball 1 l bn false))), .val (.ref base.length), a11, a12, a13, a14, a15] (base ++ [.lst (nmD j)])) Q := by
  unfold d_law
  dsimp only
  have hk : BookOk (K c m) := table_ok c (by simp) (some (letr 1, m)) (by decide) 1 1 none
  have kk := keeps hk
  obtain ⟨sb, eb, ib⟩ := add_ba
  generalize hT : base ++ [Cell.lst (nmD j)] = T
  have Hs1 := H.hits T ([1, 0].map letr) (.str sb) (signs_of ib (by decide)) rfl
  have ok1 : ∀ e ∈ [Ev.hit (letr 1), .hit (letr 0)], e.ok (K c m) := by
    intro e he
    simp only [List.mem_cons, List.not_mem_nil, or_false] at he
    rcases he with rfl | rfl <;> exact hit_ok5 (by decide)
  have A1 := H.after T (K c m) _ [.hit (letr 1), .hit (letr 0)] _ kk hI ok1
  have I1 := after_inv hk [.hit (letr 1), .hit (letr 0)] _ hI
  obtain ⟨l1, b1, h1, e1⟩ := ba20 (c := c) (m := m) (p := ptsOf c (NL j)) (lck := j) (bn := bn) h0
  rw [e1] at A1 I1
  simp only [List.map_cons, List.map_nil] at Hs1 A1
  generalize hp1 : ptsOf c (NL j) + (tgt5 c 1).pt + (tgt5 c 0).pt = p1 at A1 I1
  refine wp_step (ρ' := [.val (.scr ns), .val (.int k), .val (.int c), .val (.int m), .val (eBook (K c m)), .val (.int (1 + (j : Nat))), a6, a7, a8, .val (eSt (on1 p1 j (ball 1 l1 b1 true))), .val (.ref base.length), a11, a12, a13, a14, a15]) (st' := T) (by simp only [EV, lift_some, R.bind_ok, R.s_ok, R.s_exc, w_noExc_ok, List.getElem?_cons_zero, List.getElem?_cons_succ, List.getElem?_nil, List.set_cons_zero, List.set_cons_succ, List.map_cons, List.map_nil, List.length_cons, List.length_nil, List.cons_append, List.nil_append, getV, getO, wipeE, startE, List.replicate, Nat.reduceAdd, Nat.reduceSub, Nat.reduceLT, Nat.reduceLeDiff, if_true, if_false, Bool.false_eq_true, Bool.true_eq_false, reduceIte, endOf_next, endOf_ret, endOf_exc, decide_true, decide_false, Bool.not_true, Bool.not_false, eb, Hs1, A1]) ?_
  have ej : (1 + (j : Int) - 1) = j := by omega
  refine wp_if0 (st' := T) (by simp only [EV, lift_some, R.bind_ok, R.s_ok, R.s_exc, w_noExc_ok, List.getElem?_cons_zero, List.getElem?_cons_succ, List.getElem?_nil, List.set_cons_zero, List.set_cons_succ, List.map_cons, List.map_nil, List.length_cons, List.length_nil, List.cons_append, List.nil_append, getV, getO, wipeE, startE, List.replicate, Nat.reduceAdd, Nat.reduceSub, Nat.reduceLT, Nat.reduceLeDiff, if_true, if_false, Bool.false_eq_true, Bool.true_eq_false, reduceIte, endOf_next, endOf_ret, endOf_exc, decide_true, decide_false, Bool.not_true, Bool.not_false, SV, c_isnB, ej, ne_eq, not_true_eq_false]) ?_
  have Hs2 := H.hits T ([1, 1].map letr) (.str s_bb) (signs_of s_bb_eq (by decide)) rfl
  have ok2 : ∀ e ∈ [Ev.hit (letr 1), .hit (letr 1)], e.ok (K c m) := by
    intro e he
    simp only [List.mem_cons, List.not_mem_nil, or_false] at he
    rcases he with rfl | rfl <;> exact hit_ok5 (by decide)
  have S2 := H.story T (K c m) _ [.hit (letr 1), .hit (letr 1)] _ kk I1 ok2 (by decide)
  have A2 := H.after T (K c m) _ [.hit (letr 1), .hit (letr 1)] _ kk I1 ok2
  have I2 := after_inv hk [.hit (letr 1), .hit (letr 1)] _ I1
  obtain ⟨l2, b2, h2, e2, w2⟩ := bb20 (c := c) (m := m) (p := p1) (lck := j) (bn := b1) h1
  rw [e2] at A2 I2
  simp only [List.map_cons, List.map_nil] at Hs2 A2 S2
  have hc := fun (a6 a7 a8 a11 a12 a13 a14 a15 : B.Slot) => words_comp (Φ := Φ) (st := T) (w0 := Bt.story (K c m) (on1 p1 j (ball 1 l1 b1 true)) [.hit (letr 1), .hit (letr 1)]) (it := .val (.call ix.i_story (.cons (.var 4) (.cons (.var 9) (.cons (.call ix.i__law_hits (.cons (.con (.str s_bb)) .nil)) .nil))))) (ρ := [.val (.scr ns), .val (.int k), .val (.int c), .val (.int m), .val (eBook (K c m)), .val (.int (1 + (j : Nat))), a6, a7, a8, .val (eSt (on1 p1 j (ball 1 l1 b1 true))), .val (.ref base.length), a11, a12, a13, a14, a15]) (i := 12) (j := 13) (l := 14) (m := 15) (r := fun _ => s_a)
    (it_val eTold4 (by simp only [EV, lift_some, R.bind_ok, R.s_ok, R.s_exc, w_noExc_ok, List.getElem?_cons_zero, List.getElem?_cons_succ, List.getElem?_nil, List.set_cons_zero, List.set_cons_succ, List.map_cons, List.map_nil, List.length_cons, List.length_nil, List.cons_append, List.nil_append, getV, getO, wipeE, startE, List.replicate, Nat.reduceAdd, Nat.reduceSub, Nat.reduceLT, Nat.reduceLeDiff, if_true, if_false, Bool.false_eq_true, Bool.true_eq_false, reduceIte, endOf_next, endOf_ret, endOf_exc, decide_true, decide_false, Bool.not_true, Bool.not_false, Hs2, S2])) (fun w _ => by simp only [EV, lift_some, R.bind_ok, R.s_ok, R.s_exc, w_noExc_ok, List.getElem?_cons_zero, List.getElem?_cons_succ, List.getElem?_nil, List.set_cons_zero, List.set_cons_succ, List.map_cons, List.map_nil, List.length_cons, List.length_nil, List.cons_append, List.nil_append, getV, getO, wipeE, startE, List.replicate, Nat.reduceAdd, Nat.reduceSub, Nat.reduceLT, Nat.reduceLeDiff, if_true, if_false, Bool.false_eq_true, Bool.true_eq_false, reduceIte, endOf_next, endOf_ret, endOf_exc, decide_true, decide_false, Bool.not_true, Bool.not_false, eTold4])
  rw [w2] at hc
  refine wp_step (ρ' := [.val (.scr ns), .val (.int k), .val (.int c), .val (.int m), .val (eBook (K c m)), .val (.int (1 + (j : Nat))), a6, a7, a8, .val (eSt (on1 p1 j (ball 1 l1 b1 true))), .val (.ref base.length), .val (.lst ((if (j : Int) + 1 = m then told4 else told3).map .str)), a12, a13, a14, a15]) (st' := T) (by simp only [EV, lift_some, R.bind_ok, R.s_ok, R.s_exc, w_noExc_ok, List.getElem?_cons_zero, List.getElem?_cons_succ, List.getElem?_nil, List.set_cons_zero, List.set_cons_succ, List.map_cons, List.map_nil, List.length_cons, List.length_nil, List.cons_append, List.nil_append, getV, getO, wipeE, startE, List.replicate, Nat.reduceAdd, Nat.reduceSub, Nat.reduceLT, Nat.reduceLeDiff, if_true, if_false, Bool.false_eq_true, Bool.true_eq_false, reduceIte, endOf_next, endOf_ret, endOf_exc, decide_true, decide_false, Bool.not_true, Bool.not_false, hc]) ?_
  generalize hp2 : p1 + (tgt5 c 1).pt + (tgt5 c 1).pt = p2 at A2 I2
  refine wp_step (ρ' := [.val (.scr ns), .val (.int k), .val (.int c), .val (.int m), .val (eBook (K c m)), .val (.int (1 + (j : Nat))), a6, a7, a8, .val (eSt (on1 p2 (if (j : Int) + 1 = m then 0 else (j : Int) + 1) (ball (if (j : Int) + 1 = m then m else 1) l2 b2 false))), .val (.ref base.length), .val (.lst ((if (j : Int) + 1 = m then told4 else told3).map .str)), a12, a13, a14, a15]) (st' := T) (by simp only [EV, lift_some, R.bind_ok, R.s_ok, R.s_exc, w_noExc_ok, List.getElem?_cons_zero, List.getElem?_cons_succ, List.getElem?_nil, List.set_cons_zero, List.set_cons_succ, List.map_cons, List.map_nil, List.length_cons, List.length_nil, List.cons_append, List.nil_append, getV, getO, wipeE, startE, List.replicate, Nat.reduceAdd, Nat.reduceSub, Nat.reduceLT, Nat.reduceLeDiff, if_true, if_false, Bool.false_eq_true, Bool.true_eq_false, reduceIte, endOf_next, endOf_ret, endOf_exc, decide_true, decide_false, Bool.not_true, Bool.not_false, Hs2, A2]) ?_
  have g : T[base.length]? = some (.lst (nmD j)) := by rw [← hT]; simp
  have en : nmD j ++ [.str s_b, .str s_a, .str s_b, .str s_b] = nmD (j + 1) := by
    simp only [nmD, NL, List.map_append, List.map_cons, List.map_nil, s_a_eq, s_b_eq]
  have pl : putL T (.ref base.length) (nmD j ++ [.str s_b, .str s_a, .str s_b, .str s_b]) = base ++ [.lst (nmD (j + 1))] := by
    rw [← hT, put_last, en]
  have hx := fun (a6 a7 a8 a12 a13 a14 a15 : B.Slot) => e_ext (Φ := Φ) (o := .var 10) (e := .frz (.disp (.cons (.con (.str s_b)) (.cons (.con (.str s_a)) (.cons (.con (.str s_b)) (.cons (.con (.str s_b)) .nil)))))) (ρ := [.val (.scr ns), .val (.int k), .val (.int c), .val (.int m), .val (eBook (K c m)), .val (.int (1 + (j : Nat))), a6, a7, a8, .val (eSt (on1 p2 (if (j : Int) + 1 = m then 0 else (j : Int) + 1) (ball (if (j : Int) + 1 = m then m else 1) l2 b2 false))), .val (.ref base.length), .val (.lst ((if (j : Int) + 1 = m then told4 else told3).map .str)), a12, a13, a14, a15]) (st := T) (by simp only [EV, lift_some, R.bind_ok, R.s_ok, R.s_exc, w_noExc_ok, List.getElem?_cons_zero, List.getElem?_cons_succ, List.getElem?_nil, List.set_cons_zero, List.set_cons_succ, List.map_cons, List.map_nil, List.length_cons, List.length_nil, List.cons_append, List.nil_append, getV, getO, wipeE, startE, List.replicate, Nat.reduceAdd, Nat.reduceSub, Nat.reduceLT, Nat.reduceLeDiff, if_true, if_false, Bool.false_eq_true, Bool.true_eq_false, reduceIte, endOf_next, endOf_ret, endOf_exc, decide_true, decide_false, Bool.not_true, Bool.not_false]) g (ys := [.str s_b, .str s_a, .str s_b, .str s_b]) (by simp only [EV, lift_some, R.bind_ok, R.s_ok, R.s_exc, w_noExc_ok, List.getElem?_cons_zero, List.getElem?_cons_succ, List.getElem?_nil, List.set_cons_zero, List.set_cons_succ, List.map_cons, List.map_nil, List.length_cons, List.length_nil, List.cons_append, List.nil_append, getV, getO, wipeE, startE, List.replicate, Nat.reduceAdd, Nat.reduceSub, Nat.reduceLT, Nat.reduceLeDiff, if_true, if_false, Bool.false_eq_true, Bool.true_eq_false, reduceIte, endOf_next, endOf_ret, endOf_exc, decide_true, decide_false, Bool.not_true, Bool.not_false]) (small (by rw [nm_len]; simp only [List.length_cons, List.length_nil]; omega)) pl
  refine wp_step (ρ' := [.val (.scr ns), .val (.int k), .val (.int c), .val (.int m), .val (eBook (K c m)), .val (.int (1 + (j : Nat))), a6, a7, a8, .val (eSt (on1 p2 (if (j : Int) + 1 = m then 0 else (j : Int) + 1) (ball (if (j : Int) + 1 = m then m else 1) l2 b2 false))), .val (.ref base.length), .val (.lst ((if (j : Int) + 1 = m then told4 else told3).map .str)), a12, a13, a14, a15]) (st' := base ++ [.lst (nmD (j + 1))]) (by simp only [EV, lift_some, R.bind_ok, R.s_ok, R.s_exc, w_noExc_ok, List.getElem?_cons_zero, List.getElem?_cons_succ, List.getElem?_nil, List.set_cons_zero, List.set_cons_succ, List.map_cons, List.map_nil, List.length_cons, List.length_nil, List.cons_append, List.nil_append, getV, getO, wipeE, startE, List.replicate, Nat.reduceAdd, Nat.reduceSub, Nat.reduceLT, Nat.reduceLeDiff, if_true, if_false, Bool.false_eq_true, Bool.true_eq_false, reduceIte, endOf_next, endOf_ret, endOf_exc, decide_true, decide_false, Bool.not_true, Bool.not_false, hx]) ?_
  have n3 : eqOk 60 (.lst [D.str s_hit, .str s_lock, .str s_hit]) = true := by decide +kernel
  have n4 : eqOk 60 (.lst [D.str s_hit, .str s_lock, .str s_all, .str s_hit]) = true := by decide +kernel
  have hl1 : (j : Int) + 1 = m → ¬ (1 + (j : Int) < m) := fun h => by omega
  have hl2 : (j : Int) + 1 ≠ m → 1 + (j : Int) < m := fun h => by omega
  refine wp_if0 (st' := base ++ [.lst (nmD (j + 1))]) (by
    by_cases h : (j : Int) + 1 = m
    · simp only [EV, lift_some, R.bind_ok, R.s_ok, R.s_exc, w_noExc_ok, List.getElem?_cons_zero, List.getElem?_cons_succ, List.getElem?_nil, List.set_cons_zero, List.set_cons_succ, List.map_cons, List.map_nil, List.length_cons, List.length_nil, List.cons_append, List.nil_append, getV, getO, wipeE, startE, List.replicate, Nat.reduceAdd, Nat.reduceSub, Nat.reduceLT, Nat.reduceLeDiff, if_true, if_false, Bool.false_eq_true, Bool.true_eq_false, reduceIte, endOf_next, endOf_ret, endOf_exc, decide_true, decide_false, Bool.not_true, Bool.not_false, if_pos h, hl1 h, told4, ne_same n4]
    · simp only [EV, lift_some, R.bind_ok, R.s_ok, R.s_exc, w_noExc_ok, List.getElem?_cons_zero, List.getElem?_cons_succ, List.getElem?_nil, List.set_cons_zero, List.set_cons_succ, List.map_cons, List.map_nil, List.length_cons, List.length_nil, List.cons_append, List.nil_append, getV, getO, wipeE, startE, List.replicate, Nat.reduceAdd, Nat.reduceSub, Nat.reduceLT, Nat.reduceLeDiff, if_true, if_false, Bool.false_eq_true, Bool.true_eq_false, reduceIte, endOf_next, endOf_ret, endOf_exc, decide_true, decide_false, Bool.not_true, Bool.not_false, if_neg h, hl2 h, told3, ne_same n3]) ?_
  have md1 : (j : Int) + 1 = m → (1 + (j : Int)) % m = 0 := fun h => by
    rw [Int.add_comm, h]
    exact Int.emod_self
  have md2 : (j : Int) + 1 ≠ m → (1 + (j : Int)) % m = (j : Int) + 1 := fun h => by
    rw [Int.add_comm]
    exact Int.emod_eq_of_lt (by omega) (by omega)
  refine wp_if0 (st' := base ++ [.lst (nmD (j + 1))]) (by
    by_cases h : (j : Int) + 1 = m
    · simp only [EV, lift_some, R.bind_ok, R.s_ok, R.s_exc, w_noExc_ok, List.getElem?_cons_zero, List.getElem?_cons_succ, List.getElem?_nil, List.set_cons_zero, List.set_cons_succ, List.map_cons, List.map_nil, List.length_cons, List.length_nil, List.cons_append, List.nil_append, getV, getO, wipeE, startE, List.replicate, Nat.reduceAdd, Nat.reduceSub, Nat.reduceLT, Nat.reduceLeDiff, if_true, if_false, Bool.false_eq_true, Bool.true_eq_false, reduceIte, endOf_next, endOf_ret, endOf_exc, decide_true, decide_false, Bool.not_true, Bool.not_false, SV, c_isnB, o_mod (show 0 < m by omega), if_pos h, hl1 h, md1 h, ne_eq, not_true_eq_false]
    · simp only [EV, lift_some, R.bind_ok, R.s_ok, R.s_exc, w_noExc_ok, List.getElem?_cons_zero, List.getElem?_cons_succ, List.getElem?_nil, List.set_cons_zero, List.set_cons_succ, List.map_cons, List.map_nil, List.length_cons, List.length_nil, List.cons_append, List.nil_append, getV, getO, wipeE, startE, List.replicate, Nat.reduceAdd, Nat.reduceSub, Nat.reduceLT, Nat.reduceLeDiff, if_true, if_false, Bool.false_eq_true, Bool.true_eq_false, reduceIte, endOf_next, endOf_ret, endOf_exc, decide_true, decide_false, Bool.not_true, Bool.not_false, SV, c_isnB, o_mod (show 0 < m by omega), if_neg h, hl2 h, md2 h, ne_eq, not_true_eq_false]) (wp_nil ?_)
  have ep : p2 = ptsOf c (NL (j + 1)) := by rw [NL_pts, ← hp2, ← hp1]
  rw [ep] at I2 ⊢
  exact hq l2 b2 _ _ _ _ _ _ _ _ _ h2 I2
theorem turn (H : Sps Φ) (ns : List Int) (k : Nat) (hk10 : k < 10) (st : Store) (a1 a2 a3 a4 a5 a6 a7 a8 a9 a10 a11 a12 a13 a14 a15 : B.Slot) {Q : Fl → Store → Prop} (hq : ∀ (st : Store) (a1 a2 a3 a4 a5 a6 a7 a8 a9 a10 a11 a12 a13 a14 a15 : B.Slot), Q (.next [.val (.scr ns), a1, a2, a3, a4, a5, a6, a7, a8, a9, a10, a11, a12, a13, a14, a15]) st) :
    Wp (evSs Φ (match d_law with
      | .cons (.for _ _ b) _ => b
      | _ => .nil) [.val (.scr ns), .val (.int k), a2, a3, a4, a5, a6, a7, a8, a9, a10, a11, a12, a13, a14, a15] st) Q := by
  have IN := fun c m => inner (c := c) (m := m) (Φ := Φ) H ns k st
  unfold d_law at IN ⊢
  dsimp only at IN ⊢
  generalize hc : cellP ns (k % 9) + 41 * k = c
  have C1 := H.cell ns (k % 9) st
  have e9 : (k : Int) % 9 = ((k % 9 : Nat) : Int) := by omega
  have K41 : mulOk 41 (k : Int) = true := mulL
  refine wp_step (ρ' := [.val (.scr ns), .val (.int k), .val (.int c), a3, a4, a5, a6, a7, a8, a9, a10, a11, a12, a13, a14, a15]) (st' := st) (by simp only [EV, lift_some, R.bind_ok, R.s_ok, R.s_exc, w_noExc_ok, List.getElem?_cons_zero, List.getElem?_cons_succ, List.getElem?_nil, List.set_cons_zero, List.set_cons_succ, List.map_cons, List.map_nil, List.length_cons, List.length_nil, List.cons_append, List.nil_append, getV, getO, wipeE, startE, List.replicate, Nat.reduceAdd, Nat.reduceSub, Nat.reduceLT, Nat.reduceLeDiff, if_true, if_false, Bool.false_eq_true, Bool.true_eq_false, reduceIte, endOf_next, endOf_ret, endOf_exc, decide_true, decide_false, Bool.not_true, Bool.not_false, o_mod (show (0 : Int) < 9 by decide), e9, C1, o_mul K41, hc]) ?_
  have Mx := H.mix c 9629 2 st (by decide) (by decide) (by decide)
  have l2 : (mixN c 9629 2 : Int) < 2 := mixN_lt (by decide)
  generalize mixN c 9629 2 = mx at Mx l2
  obtain ⟨m, hmx⟩ : ∃ m : Int, 2 + (mx : Int) = m := ⟨_, rfl⟩
  have hm : 2 ≤ m ∧ m ≤ 3 := by omega
  refine wp_step (ρ' := [.val (.scr ns), .val (.int k), .val (.int c), .val (.int m), a4, a5, a6, a7, a8, a9, a10, a11, a12, a13, a14, a15]) (st' := st) (by simp only [EV, lift_some, R.bind_ok, R.s_ok, R.s_exc, w_noExc_ok, List.getElem?_cons_zero, List.getElem?_cons_succ, List.getElem?_nil, List.set_cons_zero, List.set_cons_succ, List.map_cons, List.map_nil, List.length_cons, List.length_nil, List.cons_append, List.nil_append, getV, getO, wipeE, startE, List.replicate, Nat.reduceAdd, Nat.reduceSub, Nat.reduceLT, Nat.reduceLeDiff, if_true, if_false, Bool.false_eq_true, Bool.true_eq_false, reduceIte, endOf_next, endOf_ret, endOf_exc, decide_true, decide_false, Bool.not_true, Bool.not_false, Mx, hmx]) ?_
  have T1 := H.table st c [⟨[letr 0], s_open⟩] (some (letr 1, m)) 0 1 1 none
  simp only [eO, List.map_cons, List.map_nil, eBank, ePair] at T1
  refine wp_step (ρ' := [.val (.scr ns), .val (.int k), .val (.int c), .val (.int m), .val (eBook (K c m)), a5, a6, a7, a8, a9, a10, a11, a12, a13, a14, a15]) (st' := st) (by simp only [EV, lift_some, R.bind_ok, R.s_ok, R.s_exc, w_noExc_ok, List.getElem?_cons_zero, List.getElem?_cons_succ, List.getElem?_nil, List.set_cons_zero, List.set_cons_succ, List.map_cons, List.map_nil, List.length_cons, List.length_nil, List.cons_append, List.nil_append, getV, getO, wipeE, startE, List.replicate, Nat.reduceAdd, Nat.reduceSub, Nat.reduceLT, Nat.reduceLeDiff, if_true, if_false, Bool.false_eq_true, Bool.true_eq_false, reduceIte, endOf_next, endOf_ret, endOf_exc, decide_true, decide_false, Bool.not_true, Bool.not_false, s_a_eq, s_b_eq, T1]) ?_
  have hk : BookOk (K c m) := table_ok c (by simp) (some (letr 1, m)) (by decide) 1 1 none
  have kk := keeps hk
  have B1 := H.begun st (K c m) 1 (by decide)
  rw [show ((1 : Nat) : Int) = 1 from rfl, begun20] at B1
  have I0 : Bt.Inv (K c m) (on1 0 0 (ball 1 [] 0 false)) := begun_inv hk (n := 1) (by decide) (by decide)
  refine wp_step (ρ' := [.val (.scr ns), .val (.int k), .val (.int c), .val (.int m), .val (eBook (K c m)), a5, a6, a7, a8, .val (eSt (on1 0 0 (ball 1 [] 0 false))), .val (.ref st.length), a11, a12, a13, a14, a15]) (st' := st ++ [.lst (nmD 0)]) (by
    simp only [EV, lift_some, R.bind_ok, R.s_ok, R.s_exc, w_noExc_ok, List.getElem?_cons_zero, List.getElem?_cons_succ, List.getElem?_nil, List.set_cons_zero, List.set_cons_succ, List.map_cons, List.map_nil, List.length_cons, List.length_nil, List.cons_append, List.nil_append, getV, getO, wipeE, startE, List.replicate, Nat.reduceAdd, Nat.reduceSub, Nat.reduceLT, Nat.reduceLeDiff, if_true, if_false, Bool.false_eq_true, Bool.true_eq_false, reduceIte, endOf_next, endOf_ret, endOf_exc, decide_true, decide_false, Bool.not_true, Bool.not_false, B1]
    rfl) ?_
  have rok : rngOk 1 (m + 1) = true := by
    rcases (show m = 2 ∨ m = 3 by omega) with rfl | rfl
    · exact rng1_ok (n := 2) (by decide)
    · exact rng1_ok (n := 3) (by decide)
  refine wp_for (Φ := Φ) (fun j : Nat => D.int (1 + (j : Nat))) (List.range m.toNat) (okf := fun _ => true) (fun d ρ T => T = st ++ [.lst (nmD d.length)] ∧ ∃ (l : List Str) (bn : Int) (a5 a6 a7 a8 a11 a12 a13 a14 a15 : B.Slot), letr 0 ∉ l ∧ Bt.Inv (K c m) (on1 (ptsOf c (NL d.length)) (if (d.length : Int) = m then 0 else (d.length : Int)) (ball (if (d.length : Int) = m then m else 1) l bn false)) ∧
      ρ = [.val (.scr ns), .val (.int k), .val (.int c), .val (.int m), .val (eBook (K c m)), a5, a6, a7, a8, .val (eSt (on1 (ptsOf c (NL d.length)) (if (d.length : Int) = m then 0 else (d.length : Int)) (ball (if (d.length : Int) = m then m else 1) l bn false))), .val (.ref st.length), a11, a12, a13, a14, a15]) (st' := st ++ [.lst (nmD 0)])
    (it_rng2 (i := 1) (j := m + 1) (st1 := st ++ [.lst (nmD 0)]) (by simp only [EV, lift_some, R.bind_ok, R.s_ok, R.s_exc, w_noExc_ok, List.getElem?_cons_zero, List.getElem?_cons_succ, List.getElem?_nil, List.set_cons_zero, List.set_cons_succ, List.map_cons, List.map_nil, List.length_cons, List.length_nil, List.cons_append, List.nil_append, getV, getO, wipeE, startE, List.replicate, Nat.reduceAdd, Nat.reduceSub, Nat.reduceLT, Nat.reduceLeDiff, if_true, if_false, Bool.false_eq_true, Bool.true_eq_false, reduceIte, endOf_next, endOf_ret, endOf_exc, decide_true, decide_false, Bool.not_true, Bool.not_false]) (by simp only [EV, lift_some, R.bind_ok, R.s_ok, R.s_exc, w_noExc_ok, List.getElem?_cons_zero, List.getElem?_cons_succ, List.getElem?_nil, List.set_cons_zero, List.set_cons_succ, List.map_cons, List.map_nil, List.length_cons, List.length_nil, List.cons_append, List.nil_append, getV, getO, wipeE, startE, List.replicate, Nat.reduceAdd, Nat.reduceSub, Nat.reduceLT, Nat.reduceLeDiff, if_true, if_false, Bool.false_eq_true, Bool.true_eq_false, reduceIte, endOf_next, endOf_ret, endOf_exc, decide_true, decide_false, Bool.not_true, Bool.not_false]) rok (by omega)) (fun _ _ _ _ => rfl) ⟨rfl, [], 0, _, _, _, _, _, _, _, _, _, by simp, by
      have : ¬ ((([] : List Nat).length : Nat) : Int) = m := by simp only [List.length_nil]; omega
      rw [if_neg this, if_neg this]
      exact I0, by
      have : ¬ ((([] : List Nat).length : Nat) : Int) = m := by simp only [List.length_nil]; omega
      rw [if_neg this, if_neg this]
      rfl⟩ ?_ ?_
  · rintro d j r ρ T hd ⟨hT, l, bn, a5, a6, a7, a8, a11, a12, a13, a14, a15, h0, hI, rfl⟩
    obtain ⟨hd1, hj⟩ := range_split hd
    have hdl : d.length = j := by rw [hd1]; exact List.length_range
    have hj' : (j : Int) < m := by omega
    rw [hdl, if_neg (by omega), if_neg (by omega)] at hI ⊢
    rw [hdl] at hT
    rw [hT]
    refine ⟨_, _, by simp only [EV, lift_some, R.bind_ok, R.s_ok, R.s_exc, w_noExc_ok, List.getElem?_cons_zero, List.getElem?_cons_succ, List.getElem?_nil, List.set_cons_zero, List.set_cons_succ, List.map_cons, List.map_nil, List.length_cons, List.length_nil, List.cons_append, List.nil_append, getV, getO, wipeE, startE, List.replicate, Nat.reduceAdd, Nat.reduceSub, Nat.reduceLT, Nat.reduceLeDiff, if_true, if_false, Bool.false_eq_true, Bool.true_eq_false, reduceIte, endOf_next, endOf_ret, endOf_exc, decide_true, decide_false, Bool.not_true, Bool.not_false], IN c m j hj' hm l bn h0 hI B.Slot.no B.Slot.no B.Slot.no B.Slot.no B.Slot.no a6 a7 a8 B.Slot.no B.Slot.no a11 a12 a13 a14 a15 ?_⟩
    intro l' bn' a5 a6 a7 a8 a11 a12 a13 a14 a15 h1 hI'
    have e : (d ++ [j]).length = j + 1 := by rw [List.length_append, hdl]; rfl
    have e' : ((j + 1 : Nat) : Int) = (j : Int) + 1 := by omega
    refine ⟨by rw [e], l', bn', a5, a6, a7, a8, a11, a12, a13, a14, a15, h1, ?_, ?_⟩
    · rw [e, e']
      exact hI'
    · rw [e, e']
  rintro ρ T ⟨hT, l, bn, a5, a6, a7, a8, a11, a12, a13, a14, a15, h0, hI, rfl⟩
  have em : ((List.range m.toNat).length : Int) = m := by rw [List.length_range]; omega
  rw [if_pos em, if_pos em] at hI ⊢
  rw [List.length_range] at hT hI ⊢
  generalize hn : m.toNat = n at hT hI
  have hn3 : n ≤ 3 := by omega
  have P1 := H.pts T (K c m) c (NL n) (.ref st.length) rfl (NL_lt n) (fun y => by rw [hT]; simp [itemsOf, view]) (fun y => by rw [hT]; simp [srcOk])
  have Sc : ∀ p l b, Φ ix.i_scores [eSt (on1 p l b)] T = .ok (.tup [.int p]) T := fun p l b => H.scores T (on1 p l b)
  have n5 : ∀ p : Int, eqOk 60 (.tup [.int p]) = true := fun p => by simp [eqOk]
  generalize ptsOf c (NL n) = p0 at P1 hI
  clear IN hT
  refine wp_if0 (st' := T) (by simp only [EV, lift_some, R.bind_ok, R.s_ok, R.s_exc, w_noExc_ok, List.getElem?_cons_zero, List.getElem?_cons_succ, List.getElem?_nil, List.set_cons_zero, List.set_cons_succ, List.map_cons, List.map_nil, List.length_cons, List.length_nil, List.cons_append, List.nil_append, getV, getO, wipeE, startE, List.replicate, Nat.reduceAdd, Nat.reduceSub, Nat.reduceLT, Nat.reduceLeDiff, if_true, if_false, Bool.false_eq_true, Bool.true_eq_false, reduceIte, endOf_next, endOf_ret, endOf_exc, decide_true, decide_false, Bool.not_true, Bool.not_false, Sc, P1, ne_same (n5 _)]) ?_
  have Hs3 := H.hits T ([0, 4, 1, 4].map letr) (.str s_aebe) (signs_of s_aebe_eq (by decide)) rfl
  have ok3 : ∀ e ∈ [Ev.hit (letr 0), .hit (letr 4), .hit (letr 1), .hit (letr 4)], e.ok (K c m) := by
    intro e he
    simp only [List.mem_cons, List.not_mem_nil, or_false] at he
    rcases he with rfl | rfl | rfl | rfl <;> exact hit_ok5 (by decide)
  have A3 := H.after T (K c m) _ _ _ kk hI ok3
  have I3 := after_inv hk [Ev.hit (letr 0), .hit (letr 4), .hit (letr 1), .hit (letr 4)] _ hI
  obtain ⟨l3, b3, h3, e3⟩ := aebe20 (c := c) (m := m) (p := p0) (bn := bn) (by omega) h0
  rw [e3] at A3 I3
  simp only [List.map_cons, List.map_nil] at Hs3 A3
  refine wp_step (ρ' := [.val (.scr ns), .val (.int k), .val (.int c), .val (.int m), .val (eBook (K c m)), a5, .val (eSt (on1 (p0 + ptsOf c [0, 4, 1, 4] + 2 * jkp c) 0 (ball m l3 b3 true))), a7, a8, .val (eSt (on1 p0 0 (ball m l bn false))), .val (.ref st.length), a11, a12, a13, a14, a15]) (st' := T) (by simp only [EV, lift_some, R.bind_ok, R.s_ok, R.s_exc, w_noExc_ok, List.getElem?_cons_zero, List.getElem?_cons_succ, List.getElem?_nil, List.set_cons_zero, List.set_cons_succ, List.map_cons, List.map_nil, List.length_cons, List.length_nil, List.cons_append, List.nil_append, getV, getO, wipeE, startE, List.replicate, Nat.reduceAdd, Nat.reduceSub, Nat.reduceLT, Nat.reduceLeDiff, if_true, if_false, Bool.false_eq_true, Bool.true_eq_false, reduceIte, endOf_next, endOf_ret, endOf_exc, decide_true, decide_false, Bool.not_true, Bool.not_false, Hs3, A3]) ?_
  have P2 := H.pts T (K c m) c [0, 4, 1, 4] (.str s_aebe) rfl (by simp) (fun y => signs_of s_aebe_eq (by decide)) (fun _ => rfl)
  have ib3 : idxD T (eBook (K c m)) (.int 3) = some (ePair (s_e, jkp c)) := by
    unfold eBook
    simp only [EV, lift_some, R.bind_ok, R.s_ok, R.s_exc, w_noExc_ok, List.getElem?_cons_zero, List.getElem?_cons_succ, List.getElem?_nil, List.set_cons_zero, List.set_cons_succ, List.map_cons, List.map_nil, List.length_cons, List.length_nil, List.cons_append, List.nil_append, getV, getO, wipeE, startE, List.replicate, Nat.reduceAdd, Nat.reduceSub, Nat.reduceLT, Nat.reduceLeDiff, if_true, if_false, Bool.false_eq_true, Bool.true_eq_false, reduceIte, endOf_next, endOf_ret, endOf_exc, decide_true, decide_false, Bool.not_true, Bool.not_false, tableP]
  have K2 : ∀ z, mulOk 2 z = true := fun z => mulL
  refine wp_if0 (st' := T) (by simp only [EV, lift_some, R.bind_ok, R.s_ok, R.s_exc, w_noExc_ok, List.getElem?_cons_zero, List.getElem?_cons_succ, List.getElem?_nil, List.set_cons_zero, List.set_cons_succ, List.map_cons, List.map_nil, List.length_cons, List.length_nil, List.cons_append, List.nil_append, getV, getO, wipeE, startE, List.replicate, Nat.reduceAdd, Nat.reduceSub, Nat.reduceLT, Nat.reduceLeDiff, if_true, if_false, Bool.false_eq_true, Bool.true_eq_false, reduceIte, endOf_next, endOf_ret, endOf_exc, decide_true, decide_false, Bool.not_true, Bool.not_false, SV, Sc, P2, ib3, ePair, o_mul (K2 _), ne_eq, not_true_eq_false]) ?_
  generalize p0 + ptsOf c [0, 4, 1, 4] + 2 * jkp c = p3 at I3
  have rok3 : rngOk 0 (m - 1) = true := by
    rw [show m - 1 = (((m - 1).toNat : Nat) : Int) by omega]
    exact rng0_ok (by omega)
  refine wp_for (Φ := Φ) (fun j : Nat => D.int (m - 1 - (j : Nat))) (List.range (m - 1).toNat) (okf := fun _ => true) (fun d ρ U => U = T ∧ ∃ (a5 a7 a8 a11 a12 a13 a14 a15 : B.Slot), Bt.Inv (K c m) (on1 p3 0 (ball (m - (d.length : Nat)) l3 b3 true)) ∧
      ρ = [.val (.scr ns), .val (.int k), .val (.int c), .val (.int m), .val (eBook (K c m)), a5, .val (eSt (on1 p3 0 (ball (m - (d.length : Nat)) l3 b3 true))), a7, a8, .val (eSt (on1 p0 0 (ball m l bn false))), .val (.ref st.length), a11, a12, a13, a14, a15]) (st' := T)
    (it_rng3 (i := m - 1) (j := 0) (st1 := T) (by simp only [EV, lift_some, R.bind_ok, R.s_ok, R.s_exc, w_noExc_ok, List.getElem?_cons_zero, List.getElem?_cons_succ, List.getElem?_nil, List.set_cons_zero, List.set_cons_succ, List.map_cons, List.map_nil, List.length_cons, List.length_nil, List.cons_append, List.nil_append, getV, getO, wipeE, startE, List.replicate, Nat.reduceAdd, Nat.reduceSub, Nat.reduceLT, Nat.reduceLeDiff, if_true, if_false, Bool.false_eq_true, Bool.true_eq_false, reduceIte, endOf_next, endOf_ret, endOf_exc, decide_true, decide_false, Bool.not_true, Bool.not_false]) (by simp only [EV, lift_some, R.bind_ok, R.s_ok, R.s_exc, w_noExc_ok, List.getElem?_cons_zero, List.getElem?_cons_succ, List.getElem?_nil, List.set_cons_zero, List.set_cons_succ, List.map_cons, List.map_nil, List.length_cons, List.length_nil, List.cons_append, List.nil_append, getV, getO, wipeE, startE, List.replicate, Nat.reduceAdd, Nat.reduceSub, Nat.reduceLT, Nat.reduceLeDiff, if_true, if_false, Bool.false_eq_true, Bool.true_eq_false, reduceIte, endOf_next, endOf_ret, endOf_exc, decide_true, decide_false, Bool.not_true, Bool.not_false]) rok3 (by omega)) (fun _ _ _ _ => rfl) ⟨rfl, _, _, _, _, _, _, _, _, by
      simpa using I3, by rw [show m - ((([] : List Nat).length : Nat) : Int) = m by simp]⟩ ?_ ?_
  · rintro d j r ρ U hd ⟨rfl, a5, a7, a8, a11, a12, a13, a14, a15, hI, rfl⟩
    obtain ⟨hd1, hj⟩ := range_split hd
    have hdl : d.length = j := by rw [hd1]; exact List.length_range
    rw [hdl] at hI ⊢
    refine ⟨[.val (.scr ns), .val (.int k), .val (.int c), .val (.int m), .val (eBook (K c m)), a5, .val (eSt (on1 p3 0 (ball (m - (j : Nat)) l3 b3 true))), .val (.int (m - 1 - (j : Nat))), a8, .val (eSt (on1 p0 0 (ball m l bn false))), .val (.ref st.length), a11, a12, a13, a14, a15], U, by simp only [EV, lift_some, R.bind_ok, R.s_ok, R.s_exc, w_noExc_ok, List.getElem?_cons_zero, List.getElem?_cons_succ, List.getElem?_nil, List.set_cons_zero, List.set_cons_succ, List.map_cons, List.map_nil, List.length_cons, List.length_nil, List.cons_append, List.nil_append, getV, getO, wipeE, startE, List.replicate, Nat.reduceAdd, Nat.reduceSub, Nat.reduceLT, Nat.reduceLeDiff, if_true, if_false, Bool.false_eq_true, Bool.true_eq_false, reduceIte, endOf_next, endOf_ret, endOf_exc, decide_true, decide_false, Bool.not_true, Bool.not_false], ?_⟩
    have A4 := H.after U (K c m) _ [.drain] _ kk hI (by
      intro e he
      rw [List.mem_singleton] at he
      rw [he]
      trivial)
    have I4 := after_inv hk [.drain] _ hI
    rw [drain20 (by omega)] at A4 I4
    simp only [List.map_cons, List.map_nil, eEv] at A4
    have ec : m - (j : Int) - 1 = m - 1 - (j : Nat) := by omega
    rw [ec] at A4 I4
    refine wp_step (ρ' := [.val (.scr ns), .val (.int k), .val (.int c), .val (.int m), .val (eBook (K c m)), a5, .val (eSt (on1 p3 0 (ball (m - 1 - (j : Nat)) l3 b3 true))), .val (.int (m - 1 - (j : Nat))), a8, .val (eSt (on1 p0 0 (ball m l bn false))), .val (.ref st.length), a11, a12, a13, a14, a15]) (st' := U) (by simp only [EV, lift_some, R.bind_ok, R.s_ok, R.s_exc, w_noExc_ok, List.getElem?_cons_zero, List.getElem?_cons_succ, List.getElem?_nil, List.set_cons_zero, List.set_cons_succ, List.map_cons, List.map_nil, List.length_cons, List.length_nil, List.cons_append, List.nil_append, getV, getO, wipeE, startE, List.replicate, Nat.reduceAdd, Nat.reduceSub, Nat.reduceLT, Nat.reduceLeDiff, if_true, if_false, Bool.false_eq_true, Bool.true_eq_false, reduceIte, endOf_next, endOf_ret, endOf_exc, decide_true, decide_false, Bool.not_true, Bool.not_false, A4]) ?_
    refine wp_if0 (st' := U) (by simp only [EV, lift_some, R.bind_ok, R.s_ok, R.s_exc, w_noExc_ok, List.getElem?_cons_zero, List.getElem?_cons_succ, List.getElem?_nil, List.set_cons_zero, List.set_cons_succ, List.map_cons, List.map_nil, List.length_cons, List.length_nil, List.cons_append, List.nil_append, getV, getO, wipeE, startE, List.replicate, Nat.reduceAdd, Nat.reduceSub, Nat.reduceLT, Nat.reduceLeDiff, if_true, if_false, Bool.false_eq_true, Bool.true_eq_false, reduceIte, endOf_next, endOf_ret, endOf_exc, decide_true, decide_false, Bool.not_true, Bool.not_false, SV, (show ((0 : Nat) : Int) = 0 from rfl), ne_eq, not_true_eq_false]) (wp_nil ?_)
    have e : (d ++ [j]).length = j + 1 := by rw [List.length_append, hdl]; rfl
    have e' : m - ((j + 1 : Nat) : Int) = m - 1 - (j : Nat) := by omega
    refine ⟨rfl, a5, .val (.int (m - 1 - (j : Nat))), a8, a11, a12, a13, a14, a15, ?_, ?_⟩
    · rw [e, e']
      exact I4
    · rw [e, e']
  rintro ρ U ⟨rfl, a5, a7, a8, a11, a12, a13, a14, a15, hI, rfl⟩
  have e1 : m - ((List.range (m - 1).toNat).length : Nat) = 1 := by rw [List.length_range]; omega
  rw [e1] at hI ⊢
  have Hs4 := H.hits U ([4].map letr) (.str s_e) (signs_of s_el_eq (by decide)) rfl
  have A5 := H.after U (K c m) _ [Ev.hit (letr 4)] _ kk hI (by
    intro e he
    rw [List.mem_singleton] at he
    rw [he]
    exact hit_ok5 (by decide))
  have I5 := after_inv hk [Ev.hit (letr 4)] _ hI
  obtain ⟨l4, b4, h4, e4⟩ := hitE (c := c) (m := m) (p := p3) (lck := 0) (many := 1) (bn := b3) (opn := true) h3
  rw [if_neg (by decide), Int.add_zero] at e4
  have e4' : Bt.after (K c m) (on1 p3 0 (ball 1 l3 b3 true)) [.hit (letr 4)] = on1 (p3 + (tgt5 c 4).pt) 0 (ball 1 l4 b4 true) := e4
  rw [e4'] at A5 I5
  simp only [List.map_cons, List.map_nil] at Hs4 A5
  refine wp_step (ρ' := [.val (.scr ns), .val (.int k), .val (.int c), .val (.int m), .val (eBook (K c m)), a5, .val (eSt (on1 p3 0 (ball 1 l3 b3 true))), a7, .val (eSt (on1 (p3 + (tgt5 c 4).pt) 0 (ball 1 l4 b4 true))), .val (eSt (on1 p0 0 (ball m l bn false))), .val (.ref st.length), a11, a12, a13, a14, a15]) (st' := U) (by simp only [EV, lift_some, R.bind_ok, R.s_ok, R.s_exc, w_noExc_ok, List.getElem?_cons_zero, List.getElem?_cons_succ, List.getElem?_nil, List.set_cons_zero, List.set_cons_succ, List.map_cons, List.map_nil, List.length_cons, List.length_nil, List.cons_append, List.nil_append, getV, getO, wipeE, startE, List.replicate, Nat.reduceAdd, Nat.reduceSub, Nat.reduceLT, Nat.reduceLeDiff, if_true, if_false, Bool.false_eq_true, Bool.true_eq_false, reduceIte, endOf_next, endOf_ret, endOf_exc, decide_true, decide_false, Bool.not_true, Bool.not_false, Hs4, A5]) ?_
  have P3 := H.pts U (K c m) c [4] (.str s_e) rfl (by simp) (fun y => signs_of s_el_eq (by decide)) (fun _ => rfl)
  have e4p : ptsOf c [4] = (tgt5 c 4).pt := by simp [ptsOf]
  rw [e4p] at P3
  refine wp_if0 (st' := U) (by simp only [EV, lift_some, R.bind_ok, R.s_ok, R.s_exc, w_noExc_ok, List.getElem?_cons_zero, List.getElem?_cons_succ, List.getElem?_nil, List.set_cons_zero, List.set_cons_succ, List.map_cons, List.map_nil, List.length_cons, List.length_nil, List.cons_append, List.nil_append, getV, getO, wipeE, startE, List.replicate, Nat.reduceAdd, Nat.reduceSub, Nat.reduceLT, Nat.reduceLeDiff, if_true, if_false, Bool.false_eq_true, Bool.true_eq_false, reduceIte, endOf_next, endOf_ret, endOf_exc, decide_true, decide_false, Bool.not_true, Bool.not_false, SV, Sc, P3, ne_eq, not_true_eq_false]) ?_
  have A6 := H.after U (K c m) _ [.drain] _ kk I5 (by
    intro e he
    rw [List.mem_singleton] at he
    rw [he]
    trivial)
  obtain ⟨ps, e6⟩ := over20 (c := c) (m := m) (p := p3 + (tgt5 c 4).pt) (bn := b4) (l := l4) (opn := true)
  rw [e6] at A6
  simp only [List.map_cons, List.map_nil, eEv] at A6
  exact wp_if0 (st' := U) (by simp only [EV, lift_some, R.bind_ok, R.s_ok, R.s_exc, w_noExc_ok, List.getElem?_cons_zero, List.getElem?_cons_succ, List.getElem?_nil, List.set_cons_zero, List.set_cons_succ, List.map_cons, List.map_nil, List.length_cons, List.length_nil, List.cons_append, List.nil_append, getV, getO, wipeE, startE, List.replicate, Nat.reduceAdd, Nat.reduceSub, Nat.reduceLT, Nat.reduceLeDiff, if_true, if_false, Bool.false_eq_true, Bool.true_eq_false, reduceIte, endOf_next, endOf_ret, endOf_exc, decide_true, decide_false, Bool.not_true, Bool.not_false, SV, A6, ne_eq, not_true_eq_false]) (wp_nil (hq U _ _ _ _ _ _ _ _ _ _ _ _ _ _ _))
theorem law_run (H : Sps Φ) (ns : List Int) : Wp (evSs Φ d_law (startE 16 [.scr ns]) []) (fun f _ => f = .ret (.bl true)) := by
  have T := turn (Φ := Φ) H ns
  unfold d_law at T ⊢
  dsimp only at T
  obtain ⟨a1, a2, a3, a4, a5, a6, a7, a8, a9, a10, a11, a12, a13, a14, a15, ha⟩ : ∃ a1 a2 a3 a4 a5 a6 a7 a8 a9 a10 a11 a12 a13 a14 a15 : B.Slot, startE 16 [.scr ns] = [.val (.scr ns), a1, a2, a3, a4, a5, a6, a7, a8, a9, a10, a11, a12, a13, a14, a15] := ⟨_, _, _, _, _, _, _, _, _, _, _, _, _, _, _, rfl⟩
  rw [ha]
  refine wp_for (Φ := Φ) (fun i : Nat => D.int (i : Nat)) (List.range 10) (okf := fun _ => true) (fun _ ρ _ => ∃ a1 a2 a3 a4 a5 a6 a7 a8 a9 a10 a11 a12 a13 a14 a15, ρ = [.val (.scr ns), a1, a2, a3, a4, a5, a6, a7, a8, a9, a10, a11, a12, a13, a14, a15]) (st' := [])
    (it_rng1 (n := 10) (by simp only [EV, lift_some, R.bind_ok, R.s_ok, R.s_exc, w_noExc_ok, List.getElem?_cons_zero, List.getElem?_cons_succ, List.getElem?_nil, List.set_cons_zero, List.set_cons_succ, List.map_cons, List.map_nil, List.length_cons, List.length_nil, List.cons_append, List.nil_append, getV, getO, wipeE, startE, List.replicate, Nat.reduceAdd, Nat.reduceSub, Nat.reduceLT, Nat.reduceLeDiff, if_true, if_false, Bool.false_eq_true, Bool.true_eq_false, reduceIte, endOf_next, endOf_ret, endOf_exc, decide_true, decide_false, Bool.not_true, Bool.not_false]; rfl) (rng0_ok (by decide)) rfl) (fun _ _ _ _ => rfl) ⟨_, _, _, _, _, _, _, _, _, _, _, _, _, _, _, rfl⟩ ?_ ?_
  · rintro d i r ρ st hd ⟨a1, a2, a3, a4, a5, a6, a7, a8, a9, a10, a11, a12, a13, a14, a15, rfl⟩
    exact ⟨_, _, by simp only [EV, lift_some, R.bind_ok, R.s_ok, R.s_exc, w_noExc_ok, List.getElem?_cons_zero, List.getElem?_cons_succ, List.getElem?_nil, List.set_cons_zero, List.set_cons_succ, List.map_cons, List.map_nil, List.length_cons, List.length_nil, List.cons_append, List.nil_append, getV, getO, wipeE, startE, List.replicate, Nat.reduceAdd, Nat.reduceSub, Nat.reduceLT, Nat.reduceLeDiff, if_true, if_false, Bool.false_eq_true, Bool.true_eq_false, reduceIte, endOf_next, endOf_ret, endOf_exc, decide_true, decide_false, Bool.not_true, Bool.not_false]; rfl, T i (range_split hd).2 st B.Slot.no _ _ _ _ _ _ _ _ _ _ _ _ _ _ (fun st1 a1 a2 a3 a4 a5 a6 a7 a8 a9 a10 a11 a12 a13 a14 a15 => ⟨a1, a2, a3, a4, a5, a6, a7, a8, a9, a10, a11, a12, a13, a14, a15, rfl⟩)⟩
  · rintro ρ st ⟨a1, a2, a3, a4, a5, a6, a7, a8, a9, a10, a11, a12, a13, a14, a15, rfl⟩
    exact wp_ret (e_ret (by simp only [EV, lift_some, R.bind_ok, R.s_ok, R.s_exc, w_noExc_ok, List.getElem?_cons_zero, List.getElem?_cons_succ, List.getElem?_nil, List.set_cons_zero, List.set_cons_succ, List.map_cons, List.map_nil, List.length_cons, List.length_nil, List.cons_append, List.nil_append, getV, getO, wipeE, startE, List.replicate, Nat.reduceAdd, Nat.reduceSub, Nat.reduceLT, Nat.reduceLeDiff, if_true, if_false, Bool.false_eq_true, Bool.true_eq_false, reduceIte, endOf_next, endOf_ret, endOf_exc, decide_true, decide_false, Bool.not_true, Bool.not_false]; rfl)) rfl
end Law


set_option Elab.async false
set_option linter.all false
set_option maxRecDepth 100000
set_option maxHeartbeats 4000000
namespace Law
open PySem P B Bt
theorem run_wpE {Φ : Phi} {st : Store} {d : Def} {ds : List D} {v : D} (ha : ds.length = d.ar) (hd : d.drop = false) (h : Wp (evSs Φ d.body (startE d.sz ds) st) fun f _ => f = .ret v) : ∃ st', runD Φ d ds st = .ok v st' := by
  obtain ⟨f, st1, e, rfl⟩ := h
  exact ⟨st1, run_ret ha hd e⟩
theorem has : HasPlay defs ix := ⟨rfl, rfl, rfl, rfl, rfl, rfl, rfl, rfl, rfl, rfl, rfl, rfl, rfl, rfl, rfl, rfl, rfl, rfl, rfl⟩
theorem sps : Sps (sem defs 9) where
  cell := sp_cell rfl 8
  mix := sp_mix rfl 8
  table := sp_table rfl rfl 7
  hits := sp_hits rfl 8
  begun := sp_begun has rfl 7
  after := sp_after has rfl rfl 3
  scores := sp_scores rfl 8
  story := sp_story has rfl 4
  pts := sp_pts rfl 8
theorem law_true : ∀ ns : List Int, ns.length ≤ 63 → ∃ st, sem (defsOf Ls) 10 ix.i_law [.scr ns] [] = .ok (.bl true) st := fun ns _ => by
  rw [defs_eq]
  show ∃ st, sem defs (9 + 1) ix.i_law _ _ = _
  rw [sem_at (d := ⟨1, 16, d_law, false⟩) rfl]
  exact run_wpE rfl rfl (law_run sps ns)
end Law


set_option Elab.async false
set_option linter.all false
set_option maxRecDepth 100000
set_option maxHeartbeats 4000000
namespace Law
set_option autoImplicit false
open PySem PySem.Spec L2 B P
open PyProof.Rows hiding St
theorem all_mk {l : PySem.W.OpenLaw} {w : World} {K : PySem.W.Frag} {h : Heap} {mg : Str → Option Value} {fa f0 f1 f2 f3 f4 f5 f6 f7 f8 f9 f10 f11 f12 f13 f14 f15 f16 f17 f18 f19 f20 f21 f22 f23 f24 f25 f26 f27 f28 f29 C0 E1 : Addr}
    {od0 an0 : Option Addr} {sl0 : Array (Option Value)} {oc0 kV0 dc0 pm0 cd0 ct0 : Value}
    {od1 an1 : Option Addr} {sl1 : Array (Option Value)} {oc1 kV1 dc1 pm1 cd1 ct1 : Value}
    {od2 an2 : Option Addr} {sl2 : Array (Option Value)} {oc2 kV2 dc2 pm2 cd2 ct2 : Value}
    {od3 an3 : Option Addr} {sl3 : Array (Option Value)} {oc3 kV3 dc3 pm3 cd3 ct3 : Value}
    {od4 an4 : Option Addr} {sl4 : Array (Option Value)} {oc4 kV4 dc4 pm4 cd4 ct4 : Value}
    {od5 an5 : Option Addr} {sl5 : Array (Option Value)} {oc5 kV5 dc5 pm5 cd5 ct5 : Value}
    {od6 an6 : Option Addr} {sl6 : Array (Option Value)} {oc6 kV6 dc6 pm6 cd6 ct6 : Value}
    {od7 an7 : Option Addr} {sl7 : Array (Option Value)} {oc7 kV7 dc7 pm7 cd7 ct7 : Value}
    {od8 an8 : Option Addr} {sl8 : Array (Option Value)} {oc8 kV8 dc8 pm8 cd8 ct8 : Value}
    {od9 an9 : Option Addr} {sl9 : Array (Option Value)} {oc9 kV9 dc9 pm9 cd9 ct9 : Value}
    {od10 an10 : Option Addr} {sl10 : Array (Option Value)} {oc10 kV10 dc10 pm10 cd10 ct10 : Value}
    {od11 an11 : Option Addr} {sl11 : Array (Option Value)} {oc11 kV11 dc11 pm11 cd11 ct11 : Value}
    {od12 an12 : Option Addr} {sl12 : Array (Option Value)} {oc12 kV12 dc12 pm12 cd12 ct12 : Value}
    {od13 an13 : Option Addr} {sl13 : Array (Option Value)} {oc13 kV13 dc13 pm13 cd13 ct13 : Value}
    {od14 an14 : Option Addr} {sl14 : Array (Option Value)} {oc14 kV14 dc14 pm14 cd14 ct14 : Value}
    {od15 an15 : Option Addr} {sl15 : Array (Option Value)} {oc15 kV15 dc15 pm15 cd15 ct15 : Value}
    {od16 an16 : Option Addr} {sl16 : Array (Option Value)} {oc16 kV16 dc16 pm16 cd16 ct16 : Value}
    {od17 an17 : Option Addr} {sl17 : Array (Option Value)} {oc17 kV17 dc17 pm17 cd17 ct17 : Value}
    {od18 an18 : Option Addr} {sl18 : Array (Option Value)} {oc18 kV18 dc18 pm18 cd18 ct18 : Value}
    {od19 an19 : Option Addr} {sl19 : Array (Option Value)} {oc19 kV19 dc19 pm19 cd19 ct19 : Value}
    {od20 an20 : Option Addr} {sl20 : Array (Option Value)} {oc20 kV20 dc20 pm20 cd20 ct20 : Value}
    {od21 an21 : Option Addr} {sl21 : Array (Option Value)} {oc21 kV21 dc21 pm21 cd21 ct21 : Value}
    {od22 an22 : Option Addr} {sl22 : Array (Option Value)} {oc22 kV22 dc22 pm22 cd22 ct22 : Value}
    {od23 an23 : Option Addr} {sl23 : Array (Option Value)} {oc23 kV23 dc23 pm23 cd23 ct23 : Value}
    {od24 an24 : Option Addr} {sl24 : Array (Option Value)} {oc24 kV24 dc24 pm24 cd24 ct24 : Value}
    {od25 an25 : Option Addr} {sl25 : Array (Option Value)} {oc25 kV25 dc25 pm25 cd25 ct25 : Value}
    {od26 an26 : Option Addr} {sl26 : Array (Option Value)} {oc26 kV26 dc26 pm26 cd26 ct26 : Value}
    {od27 an27 : Option Addr} {sl27 : Array (Option Value)} {oc27 kV27 dc27 pm27 cd27 ct27 : Value}
    {od28 an28 : Option Addr} {sl28 : Array (Option Value)} {oc28 kV28 dc28 pm28 cd28 ct28 : Value}
    {od29 an29 : Option Addr} {sl29 : Array (Option Value)} {oc29 kV29 dc29 pm29 cd29 ct29 : Value}
    {tk_DOUBLE : Tok}
    {tk_MOST_FACTOR : Tok}
    {tk_MOST_BONUS : Tok}
    {tk_ONCE_MORE : Tok}
    {tk_NO_LOCK : Tok}
    {tk_CALM : Tok}
    {tk_WORTH : Tok} (X : K.In h) (G : h.Ns mainGlobals mg) (hfa : mg "law" = some (.ref fa))
    (aC0 : PySem.W.nsIn K mainGlobals "Play" = some (some (.ref C0)))
    (a0 : PySem.W.findIn K (.ref C0) "__init__" = some (some (.ref f0)))
    (i0 : PySem.W.isFn K (.ref f0) = true)
    (l0 : K.lookup f0 = some ⟨oc0, od0, .func (PySem.W.fnOf "__init__" "Play.__init__" (defArgs st0) (defBody st0) (defScope st0) .none kV0 dc0 pm0 an0 cd0 ct0), sl0⟩)
    (c0 : PySem.W.codeIn K cd0 "Play.__init__" = true)
    (k0 : PySem.W.keepIn K (.ref f0) = true)
    (a1 : PySem.W.findIn K (.ref C0) "set_ball" = some (some (.ref f1)))
    (i1 : PySem.W.isFn K (.ref f1) = true)
    (l1 : K.lookup f1 = some ⟨oc1, od1, .func (PySem.W.fnOf "set_ball" "Play.set_ball" (defArgs st1) (defBody st1) (defScope st1) .none kV1 dc1 pm1 an1 cd1 ct1), sl1⟩)
    (c1 : PySem.W.codeIn K cd1 "Play.set_ball" = true)
    (k1 : PySem.W.keepIn K (.ref f1) = true)
    (a2 : PySem.W.findIn K (.ref C0) "ball" = some (some (.ref f2)))
    (i2 : PySem.W.isFn K (.ref f2) = true)
    (l2 : K.lookup f2 = some ⟨oc2, od2, .func (PySem.W.fnOf "ball" "Play.ball" (defArgs st2) (defBody st2) (defScope st2) .none kV2 dc2 pm2 an2 cd2 ct2), sl2⟩)
    (c2 : PySem.W.codeIn K cd2 "Play.ball" = true)
    (k2 : PySem.W.keepIn K (.ref f2) = true)
    (a3 : PySem.W.findIn K (.ref C0) "state" = some (some (.ref f3)))
    (i3 : PySem.W.isFn K (.ref f3) = true)
    (l3 : K.lookup f3 = some ⟨oc3, od3, .func (PySem.W.fnOf "state" "Play.state" (defArgs st3) (defBody st3) (defScope st3) .none kV3 dc3 pm3 an3 cd3 ct3), sl3⟩)
    (c3 : PySem.W.codeIn K cd3 "Play.state" = true)
    (k3 : PySem.W.keepIn K (.ref f3) = true)
    (a4 : PySem.W.findIn K (.ref C0) "tell" = some (some (.ref f4)))
    (i4 : PySem.W.isFn K (.ref f4) = true)
    (l4 : K.lookup f4 = some ⟨oc4, od4, .func (PySem.W.fnOf "tell" "Play.tell" (defArgs st4) (defBody st4) (defScope st4) .none kV4 dc4 pm4 an4 cd4 ct4), sl4⟩)
    (c4 : PySem.W.codeIn K cd4 "Play.tell" = true)
    (k4 : PySem.W.keepIn K (.ref f4) = true)
    (a5 : PySem.W.findIn K (.ref C0) "doubled" = some (some (.ref f5)))
    (i5 : PySem.W.isFn K (.ref f5) = true)
    (l5 : K.lookup f5 = some ⟨oc5, od5, .func (PySem.W.fnOf "doubled" "Play.doubled" (defArgs st5) (defBody st5) (defScope st5) .none kV5 dc5 pm5 an5 cd5 ct5), sl5⟩)
    (c5 : PySem.W.codeIn K cd5 "Play.doubled" = true)
    (k5 : PySem.W.keepIn K (.ref f5) = true)
    (a6 : PySem.W.findIn K (.ref C0) "look_for_aim" = some (some (.ref f6)))
    (i6 : PySem.W.isFn K (.ref f6) = true)
    (l6 : K.lookup f6 = some ⟨oc6, od6, .func (PySem.W.fnOf "look_for_aim" "Play.look_for_aim" (defArgs st6) (defBody st6) (defScope st6) .none kV6 dc6 pm6 an6 cd6 ct6), sl6⟩)
    (c6 : PySem.W.codeIn K cd6 "Play.look_for_aim" = true)
    (k6 : PySem.W.keepIn K (.ref f6) = true)
    (a7 : PySem.W.findIn K (.ref C0) "hit" = some (some (.ref f7)))
    (i7 : PySem.W.isFn K (.ref f7) = true)
    (l7 : K.lookup f7 = some ⟨oc7, od7, .func (PySem.W.fnOf "hit" "Play.hit" (defArgs st7) (defBody st7) (defScope st7) .none kV7 dc7 pm7 an7 cd7 ct7), sl7⟩)
    (c7 : PySem.W.codeIn K cd7 "Play.hit" = true)
    (k7 : PySem.W.keepIn K (.ref f7) = true)
    (a8 : PySem.W.findIn K (.ref C0) "look_for_lock" = some (some (.ref f8)))
    (i8 : PySem.W.isFn K (.ref f8) = true)
    (l8 : K.lookup f8 = some ⟨oc8, od8, .func (PySem.W.fnOf "look_for_lock" "Play.look_for_lock" (defArgs st8) (defBody st8) (defScope st8) .none kV8 dc8 pm8 an8 cd8 ct8), sl8⟩)
    (c8 : PySem.W.codeIn K cd8 "Play.look_for_lock" = true)
    (k8 : PySem.W.keepIn K (.ref f8) = true)
    (a9 : PySem.W.findIn K (.ref C0) "award" = some (some (.ref f9)))
    (i9 : PySem.W.isFn K (.ref f9) = true)
    (l9 : K.lookup f9 = some ⟨oc9, od9, .func (PySem.W.fnOf "award" "Play.award" (defArgs st9) (defBody st9) (defScope st9) .none kV9 dc9 pm9 an9 cd9 ct9), sl9⟩)
    (c9 : PySem.W.codeIn K cd9 "Play.award" = true)
    (k9 : PySem.W.keepIn K (.ref f9) = true)
    (a10 : PySem.W.findIn K (.ref C0) "nudge" = some (some (.ref f10)))
    (i10 : PySem.W.isFn K (.ref f10) = true)
    (l10 : K.lookup f10 = some ⟨oc10, od10, .func (PySem.W.fnOf "nudge" "Play.nudge" (defArgs st10) (defBody st10) (defScope st10) .none kV10 dc10 pm10 an10 cd10 ct10), sl10⟩)
    (c10 : PySem.W.codeIn K cd10 "Play.nudge" = true)
    (k10 : PySem.W.keepIn K (.ref f10) = true)
    (a11 : PySem.W.findIn K (.ref C0) "tick" = some (some (.ref f11)))
    (i11 : PySem.W.isFn K (.ref f11) = true)
    (l11 : K.lookup f11 = some ⟨oc11, od11, .func (PySem.W.fnOf "tick" "Play.tick" (defArgs st11) (defBody st11) (defScope st11) .none kV11 dc11 pm11 an11 cd11 ct11), sl11⟩)
    (c11 : PySem.W.codeIn K cd11 "Play.tick" = true)
    (k11 : PySem.W.keepIn K (.ref f11) = true)
    (a12 : PySem.W.findIn K (.ref C0) "is_still" = some (some (.ref f12)))
    (i12 : PySem.W.isFn K (.ref f12) = true)
    (l12 : K.lookup f12 = some ⟨oc12, od12, .func (PySem.W.fnOf "is_still" "Play.is_still" (defArgs st12) (defBody st12) (defScope st12) .none kV12 dc12 pm12 an12 cd12 ct12), sl12⟩)
    (c12 : PySem.W.codeIn K cd12 "Play.is_still" = true)
    (k12 : PySem.W.keepIn K (.ref f12) = true)
    (a13 : PySem.W.nsIn K mainGlobals "target_of" = some (some (.ref f13)))
    (l13 : K.lookup f13 = some ⟨oc13, od13, .func (PySem.W.fnOf "target_of" "target_of" (defArgs st13) (defBody st13) (defScope st13) .none kV13 dc13 pm13 an13 cd13 ct13), sl13⟩)
    (c13 : PySem.W.codeIn K cd13 "target_of" = true)
    (k13 : PySem.W.keepIn K (.ref f13) = true)
    (a14 : PySem.W.nsIn K mainGlobals "fresh" = some (some (.ref f14)))
    (l14 : K.lookup f14 = some ⟨oc14, od14, .func (PySem.W.fnOf "fresh" "fresh" (defArgs st14) (defBody st14) (defScope st14) .none kV14 dc14 pm14 an14 cd14 ct14), sl14⟩)
    (c14 : PySem.W.codeIn K cd14 "fresh" = true)
    (k14 : PySem.W.keepIn K (.ref f14) = true)
    (a15 : PySem.W.nsIn K mainGlobals "begun" = some (some (.ref f15)))
    (l15 : K.lookup f15 = some ⟨oc15, od15, .func (PySem.W.fnOf "begun" "begun" (defArgs st15) (defBody st15) (defScope st15) .none kV15 dc15 pm15 an15 cd15 ct15), sl15⟩)
    (c15 : PySem.W.codeIn K cd15 "begun" = true)
    (k15 : PySem.W.keepIn K (.ref f15) = true)
    (a16 : PySem.W.nsIn K mainGlobals "scores" = some (some (.ref f16)))
    (l16 : K.lookup f16 = some ⟨oc16, od16, .func (PySem.W.fnOf "scores" "scores" (defArgs st16) (defBody st16) (defScope st16) .none kV16 dc16 pm16 an16 cd16 ct16), sl16⟩)
    (c16 : PySem.W.codeIn K cd16 "scores" = true)
    (k16 : PySem.W.keepIn K (.ref f16) = true)
    (a17 : PySem.W.nsIn K mainGlobals "is_over" = some (some (.ref f17)))
    (l17 : K.lookup f17 = some ⟨oc17, od17, .func (PySem.W.fnOf "is_over" "is_over" (defArgs st17) (defBody st17) (defScope st17) .none kV17 dc17 pm17 an17 cd17 ct17), sl17⟩)
    (c17 : PySem.W.codeIn K cd17 "is_over" = true)
    (k17 : PySem.W.keepIn K (.ref f17) = true)
    (a18 : PySem.W.nsIn K mainGlobals "next_player" = some (some (.ref f18)))
    (l18 : K.lookup f18 = some ⟨oc18, od18, .func (PySem.W.fnOf "next_player" "next_player" (defArgs st18) (defBody st18) (defScope st18) .none kV18 dc18 pm18 an18 cd18 ct18), sl18⟩)
    (c18 : PySem.W.codeIn K cd18 "next_player" = true)
    (k18 : PySem.W.keepIn K (.ref f18) = true)
    (a19 : PySem.W.nsIn K mainGlobals "drain" = some (some (.ref f19)))
    (l19 : K.lookup f19 = some ⟨oc19, od19, .func (PySem.W.fnOf "drain" "drain" (defArgs st19) (defBody st19) (defScope st19) .none kV19 dc19 pm19 an19 cd19 ct19), sl19⟩)
    (c19 : PySem.W.codeIn K cd19 "drain" = true)
    (k19 : PySem.W.keepIn K (.ref f19) = true)
    (a20 : PySem.W.nsIn K mainGlobals "step" = some (some (.ref f20)))
    (l20 : K.lookup f20 = some ⟨oc20, od20, .func (PySem.W.fnOf "step" "step" (defArgs st20) (defBody st20) (defScope st20) .none kV20 dc20 pm20 an20 cd20 ct20), sl20⟩)
    (c20 : PySem.W.codeIn K cd20 "step" = true)
    (k20 : PySem.W.keepIn K (.ref f20) = true)
    (a21 : PySem.W.nsIn K mainGlobals "gone" = some (some (.ref f21)))
    (l21 : K.lookup f21 = some ⟨oc21, od21, .func (PySem.W.fnOf "gone" "gone" (defArgs st21) (defBody st21) (defScope st21) .none kV21 dc21 pm21 an21 cd21 ct21), sl21⟩)
    (c21 : PySem.W.codeIn K cd21 "gone" = true)
    (k21 : PySem.W.keepIn K (.ref f21) = true)
    (a22 : PySem.W.nsIn K mainGlobals "after" = some (some (.ref f22)))
    (l22 : K.lookup f22 = some ⟨oc22, od22, .func (PySem.W.fnOf "after" "after" (defArgs st22) (defBody st22) (defScope st22) .none kV22 dc22 pm22 an22 cd22 ct22), sl22⟩)
    (c22 : PySem.W.codeIn K cd22 "after" = true)
    (k22 : PySem.W.keepIn K (.ref f22) = true)
    (a23 : PySem.W.nsIn K mainGlobals "story" = some (some (.ref f23)))
    (l23 : K.lookup f23 = some ⟨oc23, od23, .func (PySem.W.fnOf "story" "story" (defArgs st23) (defBody st23) (defScope st23) .none kV23 dc23 pm23 an23 cd23 ct23), sl23⟩)
    (c23 : PySem.W.codeIn K cd23 "story" = true)
    (k23 : PySem.W.keepIn K (.ref f23) = true)
    (a24 : PySem.W.nsIn K mainGlobals "_law_cell" = some (some (.ref f24)))
    (l24 : K.lookup f24 = some ⟨oc24, od24, .func (PySem.W.fnOf "_law_cell" "_law_cell" (defArgs st24) (defBody st24) (defScope st24) .none kV24 dc24 pm24 an24 cd24 ct24), sl24⟩)
    (c24 : PySem.W.codeIn K cd24 "_law_cell" = true)
    (k24 : PySem.W.keepIn K (.ref f24) = true)
    (a25 : PySem.W.nsIn K mainGlobals "_law_mix" = some (some (.ref f25)))
    (l25 : K.lookup f25 = some ⟨oc25, od25, .func (PySem.W.fnOf "_law_mix" "_law_mix" (defArgs st25) (defBody st25) (defScope st25) .none kV25 dc25 pm25 an25 cd25 ct25), sl25⟩)
    (c25 : PySem.W.codeIn K cd25 "_law_mix" = true)
    (k25 : PySem.W.keepIn K (.ref f25) = true)
    (a26 : PySem.W.nsIn K mainGlobals "_law_table" = some (some (.ref f26)))
    (l26 : K.lookup f26 = some ⟨oc26, od26, .func (PySem.W.fnOf "_law_table" "_law_table" (defArgs st26) (defBody st26) (defScope st26) .none kV26 dc26 pm26 an26 cd26 ct26), sl26⟩)
    (c26 : PySem.W.codeIn K cd26 "_law_table" = true)
    (k26 : PySem.W.keepIn K (.ref f26) = true)
    (a27 : PySem.W.nsIn K mainGlobals "_law_hits" = some (some (.ref f27)))
    (l27 : K.lookup f27 = some ⟨oc27, od27, .func (PySem.W.fnOf "_law_hits" "_law_hits" (defArgs st27) (defBody st27) (defScope st27) .none kV27 dc27 pm27 an27 cd27 ct27), sl27⟩)
    (c27 : PySem.W.codeIn K cd27 "_law_hits" = true)
    (k27 : PySem.W.keepIn K (.ref f27) = true)
    (a28 : PySem.W.nsIn K mainGlobals "_law_points_of" = some (some (.ref f28)))
    (l28 : K.lookup f28 = some ⟨oc28, od28, .func (PySem.W.fnOf "_law_points_of" "_law_points_of" (defArgs st28) (defBody st28) (defScope st28) .none kV28 dc28 pm28 an28 cd28 ct28), sl28⟩)
    (c28 : PySem.W.codeIn K cd28 "_law_points_of" = true)
    (k28 : PySem.W.keepIn K (.ref f28) = true)
    (a29 : PySem.W.nsIn K mainGlobals "law" = some (some (.ref f29)))
    (l29 : K.lookup f29 = some ⟨oc29, od29, .func (PySem.W.fnOf "law" "law" (defArgs st29) (defBody st29) (defScope st29) .none kV29 dc29 pm29 an29 cd29 ct29), sl29⟩)
    (c29 : PySem.W.codeIn K cd29 "law" = true)
    (k29 : PySem.W.keepIn K (.ref f29) = true)
    (pg0 : PySem.W.plainGet K C0 Str.empty = true)
    (hd0 : PySem.W.hasDictIn K C0 = true)
    (po0 : PySem.W.plainOver K C0 = true)
    (sa0 : PySem.W.findIn K (.ref C0) "__setattr__" = some (some (.builtin "object.__setattr__")))
    (mk0 : PySem.W.makesIn K C0 = true)
    (kc0 : PySem.W.keepIn K (.ref C0) = true)
    (n0_bonus : PySem.W.findIn K (.ref C0) "bonus" = some none)
    (n0_book : PySem.W.findIn K (.ref C0) "book" = some none)
    (n0_calm : PySem.W.findIn K (.ref C0) "calm" = some none)
    (n0_double : PySem.W.findIn K (.ref C0) "double" = some none)
    (n0_factor : PySem.W.findIn K (.ref C0) "factor" = some none)
    (n0_had_extra : PySem.W.findIn K (.ref C0) "had_extra" = some none)
    (n0_happened : PySem.W.findIn K (.ref C0) "happened" = some none)
    (n0_is_open : PySem.W.findIn K (.ref C0) "is_open" = some none)
    (n0_is_tilted : PySem.W.findIn K (.ref C0) "is_tilted" = some none)
    (n0_lit : PySem.W.findIn K (.ref C0) "lit" = some none)
    (n0_many : PySem.W.findIn K (.ref C0) "many" = some none)
    (n0_players : PySem.W.findIn K (.ref C0) "players" = some none)
    (n0_saves : PySem.W.findIn K (.ref C0) "saves" = some none)
    (n0_turn : PySem.W.findIn K (.ref C0) "turn" = some none)
    (n0_warns : PySem.W.findIn K (.ref C0) "warns" = some none)
    (z_all : PySem.W.nsIn K mainGlobals "all" = some none)
    (z_dict : PySem.W.nsIn K mainGlobals "dict" = some none)
    (z_enumerate : PySem.W.nsIn K mainGlobals "enumerate" = some none)
    (z_int : PySem.W.nsIn K mainGlobals "int" = some none)
    (z_len : PySem.W.nsIn K mainGlobals "len" = some none)
    (z_list : PySem.W.nsIn K mainGlobals "list" = some none)
    (z_max : PySem.W.nsIn K mainGlobals "max" = some none)
    (z_min : PySem.W.nsIn K mainGlobals "min" = some none)
    (z_range : PySem.W.nsIn K mainGlobals "range" = some none)
    (z_set : PySem.W.nsIn K mainGlobals "set" = some none)
    (z_sorted : PySem.W.nsIn K mainGlobals "sorted" = some none)
    (z_sum : PySem.W.nsIn K mainGlobals "sum" = some none)
    (z_tuple : PySem.W.nsIn K mainGlobals "tuple" = some none)
    (aE1 : PySem.W.nsIn K mainGlobals "NoName" = some (some (.ref E1)))
    (xE1 : PySem.W.excIn K E1 [.type "ValueError", .type "Exception", .type "BaseException", .type "object"] "ValueError.__new__" = true)
    (kE1 : PySem.W.keepIn K (.ref E1) = true)
    (bE1 : PySem.W.subIn K (.ref E1) (.type "BaseException") = some true)
    (tE1 : PySem.W.typeIn K (.ref E1) = some (.type "type"))
    (q_DOUBLE : PySem.W.nsIn K mainGlobals "DOUBLE" = some (some (.int 20 tk_DOUBLE)))
    (q_MOST_FACTOR : PySem.W.nsIn K mainGlobals "MOST_FACTOR" = some (some (.int 5 tk_MOST_FACTOR)))
    (q_MOST_BONUS : PySem.W.nsIn K mainGlobals "MOST_BONUS" = some (some (.int 99 tk_MOST_BONUS)))
    (q_ONCE_MORE : PySem.W.nsIn K mainGlobals "ONCE_MORE" = some (some (.int 500 tk_ONCE_MORE)))
    (q_NO_LOCK : PySem.W.nsIn K mainGlobals "NO_LOCK" = some (some (.int 250 tk_NO_LOCK)))
    (q_CALM : PySem.W.nsIn K mainGlobals "CALM" = some (some (.int 30 tk_CALM)))
    (q_WORTH : PySem.W.nsIn K mainGlobals "WORTH" = some (some (.int 10 tk_WORTH))) :
    ∃ fd : FuncData, (∀ (s : Shared) (v : Value), BindsTo s fd ⟨[v], []⟩ [("_law_script", v)]) ∧ ∀ base : Heap, K.In base → base.Ns mainGlobals mg → FnOk l.prog w K mg base (L2.CX l.prog w) 20 fa fd ["_law_script"] (B.spLaw K) := by
  have e := hfa.symm.trans (PySem.W.mg_of X G a29)
  cases e
  have F0 := fun_mk (st := st0) l0 c0 k0
  have b0 := F0.binds (ps := x0.ps) fun _ _ _ _ _ _ us hl => match us, hl with | [_, _, _], _ => rfl
  have F1 := fun_mk (st := st1) l1 c1 k1
  have b1 := F1.binds (ps := x1.ps) fun _ _ _ _ _ _ us hl => match us, hl with | [_, _], _ => rfl
  have F2 := fun_mk (st := st2) l2 c2 k2
  have b2 := F2.binds (ps := x2.ps) fun _ _ _ _ _ _ us hl => match us, hl with | [_], _ => rfl
  have F3 := fun_mk (st := st3) l3 c3 k3
  have b3 := F3.binds (ps := x3.ps) fun _ _ _ _ _ _ us hl => match us, hl with | [_], _ => rfl
  have F4 := fun_mk (st := st4) l4 c4 k4
  have b4 := F4.binds (ps := x4.ps) fun _ _ _ _ _ _ us hl => match us, hl with | [_, _, _], _ => rfl
  have F5 := fun_mk (st := st5) l5 c5 k5
  have b5 := F5.binds (ps := x5.ps) fun _ _ _ _ _ _ us hl => match us, hl with | [_, _], _ => rfl
  have F6 := fun_mk (st := st6) l6 c6 k6
  have b6 := F6.binds (ps := x6.ps) fun _ _ _ _ _ _ us hl => match us, hl with | [_], _ => rfl
  have F7 := fun_mk (st := st7) l7 c7 k7
  have b7 := F7.binds (ps := x7.ps) fun _ _ _ _ _ _ us hl => match us, hl with | [_, _], _ => rfl
  have F8 := fun_mk (st := st8) l8 c8 k8
  have b8 := F8.binds (ps := x8.ps) fun _ _ _ _ _ _ us hl => match us, hl with | [_, _], _ => rfl
  have F9 := fun_mk (st := st9) l9 c9 k9
  have b9 := F9.binds (ps := x9.ps) fun _ _ _ _ _ _ us hl => match us, hl with | [_, _], _ => rfl
  have F10 := fun_mk (st := st10) l10 c10 k10
  have b10 := F10.binds (ps := x10.ps) fun _ _ _ _ _ _ us hl => match us, hl with | [_], _ => rfl
  have F11 := fun_mk (st := st11) l11 c11 k11
  have b11 := F11.binds (ps := x11.ps) fun _ _ _ _ _ _ us hl => match us, hl with | [_], _ => rfl
  have F12 := fun_mk (st := st12) l12 c12 k12
  have b12 := F12.binds (ps := x12.ps) fun _ _ _ _ _ _ us hl => match us, hl with | [_], _ => rfl
  have F13 := fun_mk (st := st13) l13 c13 k13
  have b13 := F13.binds (ps := x13.ps) fun _ _ _ _ _ _ us hl => match us, hl with | [_, _], _ => rfl
  have F14 := fun_mk (st := st14) l14 c14 k14
  have b14 := F14.binds (ps := x14.ps) fun _ _ _ _ _ _ us hl => match us, hl with | [_], _ => rfl
  have F15 := fun_mk (st := st15) l15 c15 k15
  have b15 := F15.binds (ps := x15.ps) fun _ _ _ _ _ _ us hl => match us, hl with | [_, _], _ => rfl
  have F16 := fun_mk (st := st16) l16 c16 k16
  have b16 := F16.binds (ps := x16.ps) fun _ _ _ _ _ _ us hl => match us, hl with | [_], _ => rfl
  have F17 := fun_mk (st := st17) l17 c17 k17
  have b17 := F17.binds (ps := x17.ps) fun _ _ _ _ _ _ us hl => match us, hl with | [_], _ => rfl
  have F18 := fun_mk (st := st18) l18 c18 k18
  have b18 := F18.binds (ps := x18.ps) fun _ _ _ _ _ _ us hl => match us, hl with | [_], _ => rfl
  have F19 := fun_mk (st := st19) l19 c19 k19
  have b19 := F19.binds (ps := x19.ps) fun _ _ _ _ _ _ us hl => match us, hl with | [_], _ => rfl
  have F20 := fun_mk (st := st20) l20 c20 k20
  have b20 := F20.binds (ps := x20.ps) fun _ _ _ _ _ _ us hl => match us, hl with | [_, _, _], _ => rfl
  have F21 := fun_mk (st := st21) l21 c21 k21
  have b21 := F21.binds (ps := x21.ps) fun _ _ _ _ _ _ us hl => match us, hl with | [_, _, _], _ => rfl
  have F22 := fun_mk (st := st22) l22 c22 k22
  have b22 := F22.binds (ps := x22.ps) fun _ _ _ _ _ _ us hl => match us, hl with | [_, _, _], _ => rfl
  have F23 := fun_mk (st := st23) l23 c23 k23
  have b23 := F23.binds (ps := x23.ps) fun _ _ _ _ _ _ us hl => match us, hl with | [_, _, _], _ => rfl
  have F24 := fun_mk (st := st24) l24 c24 k24
  have b24 := F24.binds (ps := x24.ps) fun _ _ _ _ _ _ us hl => match us, hl with | [_, _], _ => rfl
  have F25 := fun_mk (st := st25) l25 c25 k25
  have b25 := F25.binds (ps := x25.ps) fun _ _ _ _ _ _ us hl => match us, hl with | [_, _, _], _ => rfl
  have F26 := fun_mk (st := st26) l26 c26 k26
  have b26 := F26.binds (ps := x26.ps) fun _ _ _ _ _ _ us hl => match us, hl with | [_, _, _, _], _ => rfl
  have F27 := fun_mk (st := st27) l27 c27 k27
  have b27 := F27.binds (ps := x27.ps) fun _ _ _ _ _ _ us hl => match us, hl with | [_], _ => rfl
  have F28 := fun_mk (st := st28) l28 c28 k28
  have b28 := F28.binds (ps := x28.ps) fun _ _ _ _ _ _ us hl => match us, hl with | [_, _], _ => rfl
  have F29 := fun_mk (st := st29) l29 c29 k29
  have b29 := F29.binds (ps := x29.ps) fun _ _ _ _ _ _ us hl => match us, hl with | [_], _ => rfl
  have R : Rows K Ls _ := .cons F0 b0 (.cons F1 b1 (.cons F2 b2 (.cons F3 b3 (.cons F4 b4 (.cons F5 b5 (.cons F6 b6 (.cons F7 b7 (.cons F8 b8 (.cons F9 b9 (.cons F10 b10 (.cons F11 b11 (.cons F12 b12 (.cons F13 b13 (.cons F14 b14 (.cons F15 b15 (.cons F16 b16 (.cons F17 b17 (.cons F18 b18 (.cons F19 b19 (.cons F20 b20 (.cons F21 b21 (.cons F22 b22 (.cons F23 b23 (.cons F24 b24 (.cons F25 b25 (.cons F26 b26 (.cons F27 b27 (.cons F28 b28 (.cons F29 b29 (.nil))))))))))))))))))))))))))))))
  have T : TopL ⟨K, fun i => if i = 0 then C0 else 0, fun i => if i = 1 then E1 else 0, fun i => i = 0⟩ tb mg (adL [f0, f1, f2, f3, f4, f5, f6, f7, f8, f9, f10, f11, f12, f13, f14, f15, f16, f17, f18, f19, f20, f21, f22, f23, f24, f25, f26, f27, f28, fa]) Ls := {
    fns := in_cons (⟨by decide, PySem.W.mg_of X G a13⟩) (in_cons (⟨by decide, PySem.W.mg_of X G a14⟩) (in_cons (⟨by decide, PySem.W.mg_of X G a15⟩) (in_cons (⟨by decide, PySem.W.mg_of X G a16⟩) (in_cons (⟨by decide, PySem.W.mg_of X G a17⟩) (in_cons (⟨by decide, PySem.W.mg_of X G a18⟩) (in_cons (⟨by decide, PySem.W.mg_of X G a19⟩) (in_cons (⟨by decide, PySem.W.mg_of X G a20⟩) (in_cons (⟨by decide, PySem.W.mg_of X G a21⟩) (in_cons (⟨by decide, PySem.W.mg_of X G a22⟩) (in_cons (⟨by decide, PySem.W.mg_of X G a23⟩) (in_cons (⟨by decide, PySem.W.mg_of X G a24⟩) (in_cons (⟨by decide, PySem.W.mg_of X G a25⟩) (in_cons (⟨by decide, PySem.W.mg_of X G a26⟩) (in_cons (⟨by decide, PySem.W.mg_of X G a27⟩) (in_cons (⟨by decide, PySem.W.mg_of X G a28⟩) (in_nil))))))))))))))))
    mts := in_cons (⟨by decide, ⟨pg0, hd0, po0, sa0⟩, ⟨a1, i1, k1⟩⟩) (in_cons (⟨by decide, ⟨pg0, hd0, po0, sa0⟩, ⟨a2, i2, k2⟩⟩) (in_cons (⟨by decide, ⟨pg0, hd0, po0, sa0⟩, ⟨a3, i3, k3⟩⟩) (in_cons (⟨by decide, ⟨pg0, hd0, po0, sa0⟩, ⟨a4, i4, k4⟩⟩) (in_cons (⟨by decide, ⟨pg0, hd0, po0, sa0⟩, ⟨a5, i5, k5⟩⟩) (in_cons (⟨by decide, ⟨pg0, hd0, po0, sa0⟩, ⟨a6, i6, k6⟩⟩) (in_cons (⟨by decide, ⟨pg0, hd0, po0, sa0⟩, ⟨a7, i7, k7⟩⟩) (in_cons (⟨by decide, ⟨pg0, hd0, po0, sa0⟩, ⟨a8, i8, k8⟩⟩) (in_cons (⟨by decide, ⟨pg0, hd0, po0, sa0⟩, ⟨a9, i9, k9⟩⟩) (in_cons (⟨by decide, ⟨pg0, hd0, po0, sa0⟩, ⟨a10, i10, k10⟩⟩) (in_cons (⟨by decide, ⟨pg0, hd0, po0, sa0⟩, ⟨a11, i11, k11⟩⟩) (in_cons (⟨by decide, ⟨pg0, hd0, po0, sa0⟩, ⟨a12, i12, k12⟩⟩) (in_nil))))))))))))
    mks := in_cons (⟨by decide, rfl, ⟨mk0, a0, i0, kc0⟩, PySem.W.mg_of X G aC0⟩) (in_nil)
    flds := fun c hc => by
      obtain rfl := hc
      · exact in_cons (⟨⟨pg0, hd0, po0, sa0⟩, n0_bonus⟩) (in_cons (⟨⟨pg0, hd0, po0, sa0⟩, n0_book⟩) (in_cons (⟨⟨pg0, hd0, po0, sa0⟩, n0_calm⟩) (in_cons (⟨⟨pg0, hd0, po0, sa0⟩, n0_double⟩) (in_cons (⟨⟨pg0, hd0, po0, sa0⟩, n0_factor⟩) (in_cons (⟨⟨pg0, hd0, po0, sa0⟩, n0_had_extra⟩) (in_cons (⟨⟨pg0, hd0, po0, sa0⟩, n0_happened⟩) (in_cons (⟨⟨pg0, hd0, po0, sa0⟩, n0_is_open⟩) (in_cons (⟨⟨pg0, hd0, po0, sa0⟩, n0_is_tilted⟩) (in_cons (⟨⟨pg0, hd0, po0, sa0⟩, n0_lit⟩) (in_cons (⟨⟨pg0, hd0, po0, sa0⟩, n0_many⟩) (in_cons (⟨⟨pg0, hd0, po0, sa0⟩, n0_players⟩) (in_cons (⟨⟨pg0, hd0, po0, sa0⟩, n0_saves⟩) (in_cons (⟨⟨pg0, hd0, po0, sa0⟩, n0_turn⟩) (in_cons (⟨⟨pg0, hd0, po0, sa0⟩, n0_warns⟩) (in_nil)))))))))))))))
    blt := in_cons (PySem.W.mg_none_of X G z_all) (in_cons (PySem.W.mg_none_of X G z_dict) (in_cons (PySem.W.mg_none_of X G z_enumerate) (in_cons (PySem.W.mg_none_of X G z_int) (in_cons (PySem.W.mg_none_of X G z_len) (in_cons (PySem.W.mg_none_of X G z_list) (in_cons (PySem.W.mg_none_of X G z_max) (in_cons (PySem.W.mg_none_of X G z_min) (in_cons (PySem.W.mg_none_of X G z_range) (in_cons (PySem.W.mg_none_of X G z_set) (in_cons (PySem.W.mg_none_of X G z_sorted) (in_cons (PySem.W.mg_none_of X G z_sum) (in_cons (PySem.W.mg_none_of X G z_tuple) (in_nil)))))))))))))
    gl := in_cons (⟨_, .int 20, PySem.W.mg_of X G q_DOUBLE, ⟨tk_DOUBLE, rfl⟩, fun _ _ => .int _⟩) (in_cons (⟨_, .int 5, PySem.W.mg_of X G q_MOST_FACTOR, ⟨tk_MOST_FACTOR, rfl⟩, fun _ _ => .int _⟩) (in_cons (⟨_, .int 99, PySem.W.mg_of X G q_MOST_BONUS, ⟨tk_MOST_BONUS, rfl⟩, fun _ _ => .int _⟩) (in_cons (⟨_, .int 500, PySem.W.mg_of X G q_ONCE_MORE, ⟨tk_ONCE_MORE, rfl⟩, fun _ _ => .int _⟩) (in_cons (⟨_, .int 250, PySem.W.mg_of X G q_NO_LOCK, ⟨tk_NO_LOCK, rfl⟩, fun _ _ => .int _⟩) (in_cons (⟨_, .int 30, PySem.W.mg_of X G q_CALM, ⟨tk_CALM, rfl⟩, fun _ _ => .int _⟩) (in_cons (⟨_, .int 10, PySem.W.mg_of X G q_WORTH, ⟨tk_WORTH, rfl⟩, fun _ _ => .int _⟩) (in_nil)))))))
    exs := in_cons (⟨_, _, _, _, PySem.F.excBase_ValueError, xE1, PySem.W.mg_of X G aE1, kE1, bE1, tE1⟩) (in_nil) }
  refine ⟨PySem.W.fnOf "law" "law" (defArgs st29) (defBody st29) (defScope st29) .none kV29 dc29 pm29 an29 cd29 ct29, fun s v => .of_eq rfl, fun base _ _ => ?_⟩
  have z := B.whole (P := l.prog) (w := w) (base := base) (T := ⟨K, fun i => if i = 0 then C0 else 0, fun i => if i = 1 then E1 else 0, fun i => i = 0⟩) (fd0 := PySem.W.fnOf "law" "law" (defArgs st29) (defBody st29) (defScope st29) .none kV29 dc29 pm29 an29 cd29 ct29) (n := 10) (i := 29) (x := x29) ls_ok ls_ar R T rfl rfl law_true
  exact z
theorem walk {l : PySem.W.OpenLaw} {q : Program} {loose : List Str} {XP : (Str → Option Value) → Heap → Prop} {YP : World → Heap → Prop} {d : DefRec} {K : Params → PySem.W.Frag} (hn : l.most = some 63) (hdf : d.params.defaults = [])
    (hY : ∀ (w : World) (h : Heap), YP w h → (K w.params).In h)
    (F : ∀ (w : World) (mg : Str → Option Value) (fa : Addr) (h : Heap), (K w.params).In h → h.Ns mainGlobals mg → mg d.name = some (.ref fa) →
      ∃ fd : FuncData, (∀ (s : Shared) (u : Value), BindsTo s fd ⟨[u], []⟩ [("_law_script", u)]) ∧ ∀ base : Heap, (K w.params).In base → base.Ns mainGlobals mg → FnOk l.prog w (K w.params) mg base (L2.CX l.prog w) 20 fa fd ["_law_script"] (B.spLaw (K w.params))) :
    PySem.W.WalkO q loose XP YP l.row.toRowW d [] (fun f vs => PySem.call f vs) :=
  L2.walk_of (n := 63) (k := 20) (x := "_law_script") (CX := fun w => L2.CX l.prog w) (sp := fun w => B.spLaw (K w.params)) hn (by decide) hdf ⟨rfl, by decide, by decide⟩ hY F (fun _ _ a ns hl _ hS => ⟨a, ns, rfl, hS, hl, fun _ => rfl⟩) fun _ _ _ _ _ z => by
    obtain ⟨_, _, _, _, _, _, _, _, _, _, _, _, z⟩ := z
    exact z
end Law

open PySem PySem.W PyProof.Rows in
set_option maxRecDepth 100000 in
set_option maxHeartbeats 0 in
theorem PySem.Challenge.cw_balltables_k20_whole_balls_locked_holds : PySem.Challenge.rw_balltables_k20_whole_balls_locked.Holds := by
  w_on; o_law; k_head; (case hw => w_witness2)
  k_fill
  refine Law.walk (l := PySem.Challenge.rw_balltables_k20_whole_balls_locked) rfl rfl (fun w h Y => PySem.W.kIn_of Y) ?F
  case F =>
    intro w mg fa h KX G hmg
    refine' Law.all_mk KX G hmg ?aC0 ?a0 ?i0 ?l0 ?c0 ?k0 ?a1 ?i1 ?l1 ?c1 ?k1 ?a2 ?i2 ?l2 ?c2 ?k2 ?a3 ?i3 ?l3 ?c3 ?k3 ?a4 ?i4 ?l4 ?c4 ?k4 ?a5 ?i5 ?l5 ?c5 ?k5 ?a6 ?i6 ?l6 ?c6 ?k6 ?a7 ?i7 ?l7 ?c7 ?k7 ?a8 ?i8 ?l8 ?c8 ?k8 ?a9 ?i9 ?l9 ?c9 ?k9 ?a10 ?i10 ?l10 ?c10 ?k10 ?a11 ?i11 ?l11 ?c11 ?k11 ?a12 ?i12 ?l12 ?c12 ?k12 ?a13 ?l13 ?c13 ?k13 ?a14 ?l14 ?c14 ?k14 ?a15 ?l15 ?c15 ?k15 ?a16 ?l16 ?c16 ?k16 ?a17 ?l17 ?c17 ?k17 ?a18 ?l18 ?c18 ?k18 ?a19 ?l19 ?c19 ?k19 ?a20 ?l20 ?c20 ?k20 ?a21 ?l21 ?c21 ?k21 ?a22 ?l22 ?c22 ?k22 ?a23 ?l23 ?c23 ?k23 ?a24 ?l24 ?c24 ?k24 ?a25 ?l25 ?c25 ?k25 ?a26 ?l26 ?c26 ?k26 ?a27 ?l27 ?c27 ?k27 ?a28 ?l28 ?c28 ?k28 ?a29 ?l29 ?c29 ?k29 ?pg0 ?hd0 ?po0 ?sa0 ?mk0 ?kc0 ?n0_bonus ?n0_book ?n0_calm ?n0_double ?n0_factor ?n0_had_extra ?n0_happened ?n0_is_open ?n0_is_tilted ?n0_lit ?n0_many ?n0_players ?n0_saves ?n0_turn ?n0_warns ?z_all ?z_dict ?z_enumerate ?z_int ?z_len ?z_list ?z_max ?z_min ?z_range ?z_set ?z_sorted ?z_sum ?z_tuple ?aE1 ?xE1 ?kE1 ?bE1 ?tE1 ?q_DOUBLE ?q_MOST_FACTOR ?q_MOST_BONUS ?q_ONCE_MORE ?q_NO_LOCK ?q_CALM ?q_WORTH
    (case aC0 => k_is)
    (case a0 => k_is)
    (case i0 => k_is)
    (case l0 => k_is)
    (case c0 => k_is)
    (case k0 => k_is)
    (case a1 => k_is)
    (case i1 => k_is)
    (case l1 => k_is)
    (case c1 => k_is)
    (case k1 => k_is)
    (case a2 => k_is)
    (case i2 => k_is)
    (case l2 => k_is)
    (case c2 => k_is)
    (case k2 => k_is)
    (case a3 => k_is)
    (case i3 => k_is)
    (case l3 => k_is)
    (case c3 => k_is)
    (case k3 => k_is)
    (case a4 => k_is)
    (case i4 => k_is)
    (case l4 => k_is)
    (case c4 => k_is)
    (case k4 => k_is)
    (case a5 => k_is)
    (case i5 => k_is)
    (case l5 => k_is)
    (case c5 => k_is)
    (case k5 => k_is)
    (case a6 => k_is)
    (case i6 => k_is)
    (case l6 => k_is)
    (case c6 => k_is)
    (case k6 => k_is)
    (case a7 => k_is)
    (case i7 => k_is)
    (case l7 => k_is)
    (case c7 => k_is)
    (case k7 => k_is)
    (case a8 => k_is)
    (case i8 => k_is)
    (case l8 => k_is)
    (case c8 => k_is)
    (case k8 => k_is)
    (case a9 => k_is)
    (case i9 => k_is)
    (case l9 => k_is)
    (case c9 => k_is)
    (case k9 => k_is)
    (case a10 => k_is)
    (case i10 => k_is)
    (case l10 => k_is)
    (case c10 => k_is)
    (case k10 => k_is)
    (case a11 => k_is)
    (case i11 => k_is)
    (case l11 => k_is)
    (case c11 => k_is)
    (case k11 => k_is)
    (case a12 => k_is)
    (case i12 => k_is)
    (case l12 => k_is)
    (case c12 => k_is)
    (case k12 => k_is)
    (case a13 => k_is)
    (case l13 => k_is)
    (case c13 => k_is)
    (case k13 => k_is)
    (case a14 => k_is)
    (case l14 => k_is)
    (case c14 => k_is)
    (case k14 => k_is)
    (case a15 => k_is)
    (case l15 => k_is)
    (case c15 => k_is)
    (case k15 => k_is)
    (case a16 => k_is)
    (case l16 => k_is)
    (case c16 => k_is)
    (case k16 => k_is)
    (case a17 => k_is)
    (case l17 => k_is)
    (case c17 => k_is)
    (case k17 => k_is)
    (case a18 => k_is)
    (case l18 => k_is)
    (case c18 => k_is)
    (case k18 => k_is)
    (case a19 => k_is)
    (case l19 => k_is)
    (case c19 => k_is)
    (case k19 => k_is)
    (case a20 => k_is)
    (case l20 => k_is)
    (case c20 => k_is)
    (case k20 => k_is)
    (case a21 => k_is)
    (case l21 => k_is)
    (case c21 => k_is)
    (case k21 => k_is)
    (case a22 => k_is)
    (case l22 => k_is)
    (case c22 => k_is)
    (case k22 => k_is)
    (case a23 => k_is)
    (case l23 => k_is)
    (case c23 => k_is)
    (case k23 => k_is)
    (case a24 => k_is)
    (case l24 => k_is)
    (case c24 => k_is)
    (case k24 => k_is)
    (case a25 => k_is)
    (case l25 => k_is)
    (case c25 => k_is)
    (case k25 => k_is)
    (case a26 => k_is)
    (case l26 => k_is)
    (case c26 => k_is)
    (case k26 => k_is)
    (case a27 => k_is)
    (case l27 => k_is)
    (case c27 => k_is)
    (case k27 => k_is)
    (case a28 => k_is)
    (case l28 => k_is)
    (case c28 => k_is)
    (case k28 => k_is)
    (case a29 => k_is)
    (case l29 => k_is)
    (case c29 => k_is)
    (case k29 => k_is)
    (case pg0 => k_is)
    (case hd0 => k_is)
    (case po0 => k_is)
    (case sa0 => k_is)
    (case mk0 => k_is)
    (case kc0 => k_is)
    (case n0_bonus => k_is)
    (case n0_book => k_is)
    (case n0_calm => k_is)
    (case n0_double => k_is)
    (case n0_factor => k_is)
    (case n0_had_extra => k_is)
    (case n0_happened => k_is)
    (case n0_is_open => k_is)
    (case n0_is_tilted => k_is)
    (case n0_lit => k_is)
    (case n0_many => k_is)
    (case n0_players => k_is)
    (case n0_saves => k_is)
    (case n0_turn => k_is)
    (case n0_warns => k_is)
    (case z_all => k_is)
    (case z_dict => k_is)
    (case z_enumerate => k_is)
    (case z_int => k_is)
    (case z_len => k_is)
    (case z_list => k_is)
    (case z_max => k_is)
    (case z_min => k_is)
    (case z_range => k_is)
    (case z_set => k_is)
    (case z_sorted => k_is)
    (case z_sum => k_is)
    (case z_tuple => k_is)
    (case aE1 => k_is)
    (case xE1 => k_exc)
    (case kE1 => k_is)
    (case bE1 => k_is)
    (case tE1 => k_is)
    (case q_DOUBLE => k_is)
    (case q_MOST_FACTOR => k_is)
    (case q_MOST_BONUS => k_is)
    (case q_ONCE_MORE => k_is)
    (case q_NO_LOCK => k_is)
    (case q_CALM => k_is)
    (case q_WORTH => k_is)

