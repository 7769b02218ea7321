import PyProof.Rows.All
import PyProof.ReprReads
import PyProof.P3Eq
import KE.SortData
import KE.DataCmp
import Wide.All
import OpenK.AllK
import Wide.FinOn
import HandS.ForMost
import HandS.Walk
import HandS.IsInst
import HandS.Deep
import HandS.Wide
import HandS.SortOrd
import HandS.Exc
import HandS.Style
import HandS.SortInts
import HandS.WideBits
import PyProof.ZipIter
import KE.GoesEnumKw
import KE.KExcSuper
import HandS.ForExc
import KE.KExcIs
import HandS.ExcOwn
import HandS.Conv
import HandS.Ends
import HandS.SetFor
import HandS.Strs
import KE.SortKeyed
import KE.KDictCopyH
import HandS.SortKw
import HandS.DictComp
import HandS.Text
import HandS.Iter
import HandS.Codes
import HandS.SetKeys
import PySem.Challenge.RW_escapehall_k81_whole_wished_orders
/-! ## DSem -/
/-! DSem: plain data of Python as a Lean type, and what the constructs of a def do with it. No heap here. -/
set_option autoImplicit false
namespace DL
open PySem

/-- plain data -/
inductive D where
  | non | bl (b : Bool) | int (i : Int) | str (x : Str)
  | lst (xs : List D) | tup (xs : List D) | dct (kvs : List (D × D))
  | gen | fn (x : Str) | exc (c : Str) (d : D)
  /-- raised -/
  | thr (c : Str) (d : D)
  /-- read alone, of what stood at the call -/
  | bor (d : D)
  /-- a dict from tuples of ints and texts to True -/
  | dset (ks : List (List (Int ⊕ Str)))
  deriving Inhabited

mutual
def D.py : D → PyData
  | .non => .none
  | .bl b => .bool b
  | .int i => .int i
  | .str x => .str x
  | .lst xs => .list (pys xs)
  | .tup xs => .tuple (pys xs)
  | .dct kvs => .dict (pyKv kvs)
  | .gen => .none
  | .fn _ => .none
  | .exc _ _ => .none
  | .thr _ _ => .none
  | .bor _ => .none
  | .dset _ => .none
def pys : List D → List PyData
  | [] => []
  | x :: xs => x.py :: pys xs
def pyKv : List (D × D) → List (PyData × PyData)
  | [] => []
  | (k, v) :: r => (k.py, v.py) :: pyKv r
end
theorem pys_map : ∀ xs : List D, pys xs = xs.map D.py
  | [] => rfl
  | x :: xs => by rw [pys, pys_map xs]; rfl

/-- data that == and repr serve: None, bools, ints, texts, lists and tuples, at most so deep -/
def D.cl : Nat → D → Bool
  | _, .non => true
  | _, .bl _ => true
  | _, .int i => decide (i.natAbs.log2 < 1920)
  | _, .str x => PyData.strOk x
  | n + 1, .lst xs => xs.all (D.cl n)
  | n + 1, .tup xs => xs.all (D.cl n)
  | _, _ => false
/-- a value that is no object -/
def D.imm : D → Bool
  | .non | .bl _ | .int _ | .str _ => true
  | _ => false
/-- an item of what is read alone -/
def wrapB (d : D) : D := if d.imm then d else .bor d
def D.isLst : D → Bool
  | .lst _ => true
  | _ => false

/-! ### what a def does: a state (the generator's three numbers), an exception, or a value; none: not said -/
abbrev Exn := Str × D
abbrev Gs := List Int
def M (α : Type) : Type := Gs → Option (Except Exn α × Gs)
def M.pure {α : Type} (a : α) : M α := fun g => some (.ok a, g)
def M.bind {α β : Type} (m : M α) (f : α → M β) : M β := fun g => match m g with
  | none => none
  | some (.error e, g') => some (.error e, g')
  | some (.ok a, g') => f a g'
instance : Monad M where
  pure := M.pure
  bind := M.bind
def stuck {α : Type} : M α := fun _ => none
def raiseM {α : Type} (c : Str) (d : D) : M α := fun g => some (.error (c, d), g)
theorem M.ext {α : Type} {m n : M α} (h : ∀ g, m g = n g) : m = n := funext h
instance : LawfulMonad M := LawfulMonad.mk' M
  (id_map := fun m => by
    funext g
    show M.bind m (fun a => M.pure a) g = m g
    unfold M.bind M.pure
    cases h : m g with
    | none => rfl
    | some r => obtain ⟨e, g'⟩ := r; cases e <;> rfl)
  (pure_bind := fun a f => rfl)
  (bind_assoc := fun m f k => by
    funext g
    show M.bind (M.bind m f) k g = M.bind m (fun a => M.bind (f a) k) g
    unfold M.bind
    cases h : m g with
    | none => rfl
    | some r => obtain ⟨e, g'⟩ := r; cases e <;> rfl)
theorem pure_def {α : Type} (a : α) : (pure a : M α) = M.pure a := rfl
theorem bind_def {α β : Type} (m : M α) (f : α → M β) : (m >>= f) = M.bind m f := rfl
theorem stuck_bind {α β : Type} (f : α → M β) : (stuck >>= f) = (stuck : M β) := rfl
/-- ok at a state -/
def Ok {α : Type} (m : M α) (g : Gs) (a : α) (g' : Gs) : Prop := m g = some (.ok a, g')
theorem ok_pure {α : Type} {a b : α} {g g' : Gs} : Ok (pure a) g b g' ↔ a = b ∧ g = g' := by
  show (some (Except.ok a, g) : Option (Except Exn α × Gs)) = some (.ok b, g') ↔ _
  constructor
  · intro h; cases h; exact ⟨rfl, rfl⟩
  · rintro ⟨rfl, rfl⟩; rfl
theorem ok_bind {α β : Type} {m : M α} {f : α → M β} {g g2 : Gs} {b : β} : Ok (m >>= f) g b g2 ↔ ∃ a g1, Ok m g a g1 ∧ Ok (f a) g1 b g2 := by
  show M.bind m f g = _ ↔ _
  unfold M.bind Ok
  cases h : m g with
  | none => constructor
            · intro q; cases q
            · rintro ⟨_, _, q, _⟩; cases q
  | some r =>
    obtain ⟨e, g'⟩ := r
    cases e with
    | error e => constructor
                 · intro q; cases q
                 · rintro ⟨_, _, q, _⟩; cases q
    | ok a => constructor
              · intro q; exact ⟨a, g', rfl, q⟩
              · rintro ⟨_, _, q, z⟩; cases q; exact z
theorem not_ok_stuck {α : Type} {g g' : Gs} {a : α} : ¬ Ok (stuck : M α) g a g' := fun h => by cases h

/-! ### values -/
def lim (n : Nat) : Bool := decide (n ≤ 16777216)
def big (i : Int) : Nat := i.natAbs.log2
def liftB (b : Option Bool) : M D := match b with
  | some b => pure (.bl b)
  | none => stuck

/-- a text's order -/
def strLt (x y : Str) : Bool := decide (x.cps.toList < y.cps.toList)

/-- == -/
def dEqB (d e : D) : Option Bool := match d, e with
  | .str x, .str y => some (decide (x = y))
  | .int i, .int j => some (decide (i = j))
  | .bl a, .bl b => some (decide (a = b))
  | d, e => if d.cl 60 && e.cl 60 then some (PyData.eqv d.py e.py) else none
def dEq (d e : D) : M D := liftB (dEqB d e)
def dNe (d e : D) : M D := liftB ((dEqB d e).map (!·))
def dIs (d : D) : M D := match d with
  | .non => pure (.bl true)
  | .fn _ | .gen | .exc _ _ => pure (.bl false)
  | _ => pure (.bl false)
def dIsNot (d : D) : M D := match d with
  | .non => pure (.bl false)
  | _ => pure (.bl true)

def dAdd (d e : D) : M D := match d, e with
  | .int i, .int j => pure (.int (i + j))
  | .str x, .str y => if lim (x.length + y.length) then pure (.str (x ++ y)) else stuck
  | .lst xs, .lst ys => if lim (xs.length + ys.length) then pure (.lst (xs ++ ys)) else stuck
  | _, _ => stuck
def dSub (d e : D) : M D := match d, e with
  | .int i, .int j => pure (.int (i - j))
  | _, _ => stuck
def dMul (d e : D) : M D := match d, e with
  | .int i, .int j => if big i + big j < 1000000 then pure (.int (i * j)) else stuck
  | .lst xs, .int k => if 0 ≤ k ∧ k < 1000000 ∧ lim (xs.length * k.toNat) = true then pure (.lst (List.replicate k.toNat xs).flatten) else stuck
  | _, _ => stuck
def dFdiv (d e : D) : M D := match d, e with
  | .int i, .int j => if 0 < j ∧ big j < 9000 then pure (.int (i / j)) else stuck
  | _, _ => stuck
def dMod (d e : D) : M D := match d, e with
  | .int i, .int j => if 0 < j then pure (.int (i % j)) else stuck
  | _, _ => stuck
def D.isNon : D → Bool
  | .non => true
  | .bor d => d.isNon
  | _ => false
def cmpB (d e : D) : Bool := d.cl 60 && e.cl 60 && PySem.W.alike d.py e.py && !d.isNon
def dLt (d e : D) : M D := match d, e with
  | .int i, .int j => pure (.bl (decide (i < j)))
  | d, e => if cmpB d e then pure (.bl (PySem.W.dataLt d.py e.py)) else stuck
def dLe (d e : D) : M D := match d, e with
  | .int i, .int j => pure (.bl (decide (i ≤ j)))
  | d, e => if cmpB d e then pure (.bl (!PySem.W.dataLt e.py d.py)) else stuck
def dGt (d e : D) : M D := match d, e with
  | .int i, .int j => pure (.bl (decide (j < i)))
  | d, e => if cmpB d e then pure (.bl (PySem.W.dataLt e.py d.py)) else stuck
def dGe (d e : D) : M D := match d, e with
  | .int i, .int j => pure (.bl (decide (j ≤ i)))
  | d, e => if cmpB d e then pure (.bl (!PySem.W.dataLt d.py e.py)) else stuck
def dNot (d : D) : M D := match d with
  | .bl b => pure (.bl (!b))
  | _ => stuck
def dAbs (d : D) : M D := match d with
  | .int i => pure (.int (if i < 0 then -i else i))
  | _ => stuck
def dLen (d : D) : M D := match d with
  | .lst xs => pure (.int xs.length)
  | .tup xs => pure (.int xs.length)
  | .str x => if lim x.length then pure (.int x.length) else stuck
  | _ => stuck

/-- a place in a row of n -/
def place (n : Nat) (i : Int) : Option Nat := if 0 ≤ i then (if i < n then some i.toNat else none) else if -(n : Int) ≤ i then some (i + n).toNat else none
def dIx (d e : D) : M D := match d, e with
  | .lst xs, .int i => match (place xs.length i).bind fun j => xs[j]? with
    | some v => pure v
    | none => stuck
  | .tup xs, .int i => match (place xs.length i).bind fun j => xs[j]? with
    | some v => pure v
    | none => stuck
  | _, _ => stuck
/-- a slice's end -/
def cutEnd (n d : Nat) : Option Int → Nat
  | none => d
  | some i => if i < 0 then (i + n).toNat else min i.toNat n
def cut {α : Type} (xs : List α) (lo hi : Option Int) : List α := (xs.drop (cutEnd xs.length 0 lo)).take (cutEnd xs.length xs.length hi - cutEnd xs.length 0 lo)
def dCut (d : D) (lo hi : Option Int) : M D := match d with
  | .lst xs => pure (.lst (cut xs lo hi))
  | _ => stuck
def dRev (d : D) : M D := match d with
  | .lst xs => pure (.lst xs.reverse)
  | _ => stuck

/-- x in xs -/
def inB (x : D) (ys : List D) : Option Bool :=
  if x.imm && ys.all D.imm then some (ys.any fun y => PyData.eqv y.py x.py)
  else if x.cl 60 && ys.all (D.cl 59) then some (ys.any fun y => PyData.eqv y.py x.py) else none
def dIn (x d : D) : M D := match d with
  | .lst ys => liftB (inB x ys)
  | .tup ys => if x.imm && ys.all D.imm then liftB (inB x ys) else stuck
  | _ => stuck
def dNotIn (x d : D) : M D := match d with
  | .lst ys => liftB ((inB x ys).map (!·))
  | .tup ys => if x.imm && ys.all D.imm then liftB ((inB x ys).map (!·)) else stuck
  | _ => stuck

/-- isinstance(d, T), T by its name -/
def D.ty : D → Option String
  | .non => some "NoneType"
  | .bl _ => some "bool"
  | .int _ => some "int"
  | .str _ => some "str"
  | .lst _ => some "list"
  | .tup _ => some "tuple"
  | .dct _ => some "dict"
  | _ => none
def isTy (d : D) (t : String) : Bool := match d, t with
  | .bl _, "bool" => true
  | .bl _, "int" => true
  | .int _, "int" => true
  | .str _, "str" => true
  | .lst _, "list" => true
  | .tup _, "tuple" => true
  | .dct _, "dict" => true
  | _, _ => false
def dIsI (d : D) (t : String) : M D := match d.ty with
  | some _ => pure (.bl (isTy d t))
  | none => stuck
def dIsI2 (d : D) (t u : String) : M D := match d.ty with
  | some _ => pure (.bl (isTy d t || isTy d u))
  | none => stuck

def bools? : List D → Option (List Bool)
  | [] => some []
  | .bl b :: r => (bools? r).map (b :: ·)
  | _ :: _ => none
def ints? : List D → Option (List Int)
  | [] => some []
  | .int i :: r => (ints? r).map (i :: ·)
  | _ :: _ => none
def strs? : List D → Option (List Str)
  | [] => some []
  | .str x :: r => (strs? r).map (x :: ·)
  | _ :: _ => none
def dAll (d : D) : M D := match d with
  | .lst xs => match bools? xs with
    | some bs => pure (.bl (bs.all id))
    | none => stuck
  | _ => stuck
def dAny (d : D) : M D := match d with
  | .lst xs => match bools? xs with
    | some bs => pure (.bl (bs.any id))
    | none => stuck
  | _ => stuck
def dSum (d : D) : M D := match d with
  | .lst xs => match ints? xs with
    | some ns => pure (.int ns.sum)
    | none => stuck
  | _ => stuck
def dList (d : D) : M D := match d with
  | .lst xs => pure (.lst xs)
  | .tup xs => pure (.lst xs)
  | _ => stuck
def dTuple (d : D) : M D := match d with
  | .lst xs => pure (.tup xs)
  | .tup xs => pure (.tup xs)
  | _ => stuck
/-- the place of the first like one -/
def idxOf? (x : D) : List D → Option Nat
  | [] => none
  | y :: ys => if PyData.eqv y.py x.py then some 0 else (idxOf? x ys).map (· + 1)
def dIndex (d x : D) : M D := match d with
  | .lst ys => if x.imm && ys.all D.imm then (match idxOf? x ys with
    | some j => pure (.int j)
    | none => stuck) else stuck
  | _ => stuck
def D.rp (d : D) : Bool := match d with
  | .dct [] => true
  | d => d.cl 60
def dRepr (d : D) : M D := if d.rp && lim d.py.shown.length then pure (.str d.py.shown) else stuck

/-- a flat list that is read alone -/
def dUnB (d : D) : M D := match d with
  | .bor (.lst xs) => if xs.all D.imm then pure (.lst xs) else stuck
  | d => pure d

/-! ### order, of data of one kind -/
/-- not greater -/
def leD (a b : D) : Bool := !PySem.W.dataLt b.py a.py
def D.tupled : D → Bool
  | .tup (_ :: _) => true
  | _ => false
def D.plainK : D → Bool
  | .non => false
  | .tup _ => false
  | _ => true
def sortableB (xs : List D) : Bool := (xs.all fun a => a.cl 60) && (xs.all fun a => xs.all fun b => PySem.W.alike a.py b.py) && (xs.all D.tupled || xs.all D.plainK)
def dSorted (d : D) : M D := match d with
  | .lst xs => if sortableB xs then pure (.lst (xs.mergeSort leD)) else stuck
  | _ => stuck

/-! ### slots -/
inductive Sl where
  | no
  | val (d : D)
  | own (xs : List D)
abbrev Dlt := List Sl
abbrev E := Dlt → M D
abbrev Es := Dlt → M (List D)
def wipeD (δ : Dlt) : List Nat → Dlt
  | [] => δ
  | i :: r => (wipeD δ r).set i .no
def eK (d : D) : E := fun _ => pure d
def eV (i : Nat) : E := fun δ => match δ[i]? with
  | some (.val d) => pure d
  | some (.own xs) => pure (.lst xs)
  | _ => stuck
def eF (f : D → M D) (a : E) : E := fun δ => a δ >>= f
def eO (f : D → D → M D) (a b : E) : E := fun δ => a δ >>= fun x => b δ >>= fun y => f x y
def esN : Es := fun _ => pure []
def esC (a : E) (r : Es) : Es := fun δ => a δ >>= fun x => r δ >>= fun xs => pure (x :: xs)
def eLst (es : Es) : E := fun δ => es δ >>= fun xs => if lim xs.length then pure (.lst xs) else stuck
def eTup (es : Es) : E := fun δ => es δ >>= fun xs => if lim xs.length then pure (.tup xs) else stuck
def eCall (f : List D → M D) (es : Es) : E := fun δ => es δ >>= f
def eAnd (a b : E) : E := fun δ => a δ >>= fun x => match x with
  | .bl true => b δ
  | .bl false => pure (.bl false)
  | _ => stuck
def eOr (a b : E) : E := fun δ => a δ >>= fun x => match x with
  | .bl false => b δ
  | .bl true => pure (.bl true)
  | _ => stuck
def eIf (c a b : E) : E := fun δ => c δ >>= fun x => match x with
  | .bl true => a δ
  | .bl false => b δ
  | _ => stuck
/-- an end of a slice -/
def eNo : Dlt → M (Option Int) := fun _ => pure none
def eAt (a : E) : Dlt → M (Option Int) := fun δ => a δ >>= fun x => match x with
  | .int i => pure (some i)
  | _ => stuck
def eCut (a : E) (lo hi : Dlt → M (Option Int)) : E := fun δ => a δ >>= fun x => lo δ >>= fun l => hi δ >>= fun h => dCut x l h

/-! ### targets, sources, comprehensions -/
abbrev G := D → Dlt → Option Dlt
def gN (i : Nat) : G := fun d δ => some (δ.set i (.val d))
def gGo : List G → List D → Dlt → Option Dlt
  | [], [], δ => some δ
  | g :: gs, d :: ds, δ => (g d δ).bind fun δ' => gGo gs ds δ'
  | _, _, _ => none
def gT (gs : List G) : G := fun d δ => match d with
  | .tup ds => gGo gs ds δ
  | _ => none
def liftG (o : Option Dlt) : M Dlt := match o with
  | some δ => pure δ
  | none => stuck
def rowOf (d : D) : M (List D) := match d with
  | .lst xs => pure xs
  | .bor (.lst xs) => pure (xs.map wrapB)
  | _ => stuck
def rowOfT (d : D) : M (List D) := match d with
  | .tup xs => pure xs
  | _ => stuck
def xL (a : E) : Es := fun δ => a δ >>= rowOf
def xT (a : E) : Es := fun δ => a δ >>= rowOfT
def xR (a : E) : Es := fun δ => a δ >>= fun x => match x with
  | .int j => if -1000000 < j ∧ j < 1000000 then pure ((List.range j.toNat).map fun k => .int (k : Nat)) else stuck
  | _ => stuck
def xR2 (a b : E) : Es := fun δ => a δ >>= fun x => b δ >>= fun y => match x, y with
  | .int i, .int j => if -1000000 < i ∧ i < 1000000 ∧ -1000000 < j ∧ j < 1000000 then pure ((List.range (j - i).toNat).map fun k => .int (i + (k : Nat))) else stuck
  | _, _ => stuck
def numFrom : Nat → List D → List D
  | _, [] => []
  | n, x :: xs => .tup [.int n, x] :: numFrom (n + 1) xs
def xE (a : E) : Es := fun δ => a δ >>= fun x => match x with
  | .lst xs => pure (numFrom 0 xs)
  | _ => stuck
def xV (a : E) : Es := fun δ => a δ >>= fun x => match x with
  | .lst xs => pure xs.reverse
  | _ => stuck
def zip2 : List D → List D → List D
  | x :: xs, y :: ys => .tup [x, y] :: zip2 xs ys
  | _, _ => []
def zip3 : List D → List D → List D → List D
  | x :: xs, y :: ys, z :: zs => .tup [x, y, z] :: zip3 xs ys zs
  | _, _, _ => []
def xZ (a b : E) : Es := fun δ => a δ >>= fun x => b δ >>= fun y => match x, y with
  | .lst xs, .lst ys => pure (zip2 xs ys)
  | _, _ => stuck
/-- strict: of one length -/
def xZs (a b : E) : Es := fun δ => a δ >>= fun x => b δ >>= fun y => match x, y with
  | .lst xs, .lst ys => if xs.length = ys.length then pure (zip2 xs ys) else stuck
  | _, _ => stuck
def xZ3 (a b c : E) : Es := fun δ => a δ >>= fun x => b δ >>= fun y => c δ >>= fun z => match x, y, z with
  | .lst xs, .lst ys, .lst zs => pure (zip3 xs ys zs)
  | _, _, _ => stuck
def lcGo (g : G) (tt te : E) (δ : Dlt) : List D → M (List D)
  | [] => pure []
  | x :: xs => liftG (g x δ) >>= fun δ' => tt δ' >>= fun b => match b with
    | .bl true => te δ' >>= fun y => lcGo g tt te δ xs >>= fun ys => pure (y :: ys)
    | .bl false => lcGo g tt te δ xs
    | _ => stuck
def eLc (vs : List Nat) (g : G) (src : Es) (tt te : E) : E := fun δ => src δ >>= fun xs => lcGo g tt te (wipeD δ vs) xs >>= fun ys => if lim ys.length then pure (.lst ys) else stuck
def lc2Go (g : G) (tt : E) (in1 : Es) (δ : Dlt) : List D → M (List D)
  | [] => pure []
  | x :: xs => liftG (g x δ) >>= fun δ' => tt δ' >>= fun b => match b with
    | .bl true => in1 δ' >>= fun zs => lc2Go g tt in1 δ xs >>= fun ys => pure (zs ++ ys)
    | .bl false => lc2Go g tt in1 δ xs
    | _ => stuck
def eLc2 (vs vs1 : List Nat) (g : G) (src : Es) (tt : E) (g1 : G) (src1 : Es) (tt1 te : E) : E := fun δ => src δ >>= fun xs =>
  lc2Go g tt (fun δ' => src1 δ' >>= fun zs => lcGo g1 tt1 te (wipeD δ' vs1) zs) (wipeD δ vs) xs >>= fun ys => if lim ys.length then pure (.lst ys) else stuck

/-! ### statements -/
inductive Fl where
  | nx (δ : Dlt)
  | rt (d : D)
  | bk (δ : Dlt)
  | ct (δ : Dlt)
abbrev S := Dlt → M Fl
def sSkip : S := fun δ => pure (.nx δ)
def sSeq (a b : S) : S := fun δ => a δ >>= fun r => match r with
  | .nx δ' => b δ'
  | r => pure r
def sAsg (g : G) (e : E) : S := fun δ => e δ >>= fun d => liftG (g d δ) >>= fun δ' => pure (.nx δ')
/-- a new list of one's own: x = [..], x = list(..) -/
def sOwn (i : Nat) (e : E) : S := fun δ => e δ >>= fun d => match d with
  | .lst xs => pure (.nx (δ.set i (.own xs)))
  | _ => stuck
/-- a list of one's own is shared from here on -/
def sFrz (i : Nat) : S := fun δ => match δ[i]? with
  | some (.own xs) => pure (.nx (δ.set i (.val (.lst xs))))
  | _ => stuck
/-- x.append(e) -/
def sApp (i : Nat) (e : E) : S := fun δ => e δ >>= fun d => match δ[i]? with
  | some (.own xs) => if lim (xs.length + 1) then pure (.nx (δ.set i (.own (xs ++ [d])))) else stuck
  | _ => stuck
def sPar (i j : Nat) (a b : E) : S := fun δ => a δ >>= fun x => b δ >>= fun y => pure (.nx ((δ.set i (.val x)).set j (.val y)))
def sIf (c : E) (a b : S) : S := fun δ => c δ >>= fun x => match x with
  | .bl true => a δ
  | .bl false => b δ
  | _ => stuck
def sRet (e : E) : S := fun δ => e δ >>= fun d => pure (.rt d)
def sRetN : S := fun _ => pure (.rt .non)
def sDo (e : E) : S := fun δ => e δ >>= fun _ => pure (.nx δ)
def sRaise (c : Str) (e : E) : S := fun δ => e δ >>= fun d => raiseM c d
def sBreak : S := fun δ => pure (.bk δ)
def sCont : S := fun δ => pure (.ct δ)
def forGo (g : G) (body : S) : List D → Dlt → M Fl
  | [], δ => pure (.nx δ)
  | x :: xs, δ => liftG (g x δ) >>= fun δ1 => body δ1 >>= fun r => match r with
    | .nx δ' => forGo g body xs δ'
    | .ct δ' => forGo g body xs δ'
    | .bk δ' => pure (.nx δ')
    | .rt d => pure (.rt d)
def sFor (g : G) (src : Es) (body : S) : S := fun δ => src δ >>= fun xs => forGo g body xs δ
def whGo (c : E) (body : S) : Nat → Dlt → M Fl
  | 0, _ => stuck
  | n + 1, δ => c δ >>= fun x => match x with
    | .bl true => body δ >>= fun r => match r with
      | .nx δ' => whGo c body n δ'
      | .ct δ' => whGo c body n δ'
      | .bk δ' => pure (.nx δ')
      | .rt d => pure (.rt d)
    | .bl false => pure (.nx δ)
    | _ => stuck
def sWh (n : Nat) (c : E) (body : S) : S := fun δ => whGo c body n δ
/-- a def: its slots, its parameters' number, its body -/
def startD (n : Nat) (ds : List D) : Dlt := ds.map Sl.val ++ List.replicate (n - ds.length) .no
def fn (n : Nat) (p : Nat) (body : S) : List D → M D := fun ds => if ds.length = p then (body (startD n ds) >>= fun r => match r with
  | .nx _ => pure .non
  | .rt d => pure d
  | _ => stuck) else stuck
end DL

/-! ## DCore -/
set_option Elab.async false
set_option autoImplicit false
set_option linter.all false
set_option maxRecDepth 100000
set_option maxHeartbeats 2000000
/-! DCore: plain data on the abstract heap; steps; readings that speak of plain data alone. -/
namespace DL
open PySem PySem.Spec PyProof.Rows L2

/-- where one stands: the written part, the module's names, the generator's address -/
structure C where
  K : PySem.W.Frag
  mg : Str → Option Value
  ga : Option Addr
  bo : Hp
  prog : Program
  w : World

/-- at a: an error of the class at C that has been caught, its dict at dd -/
def exq (a C dd : Addr) : HO := .ext fun h => ∃ (oe : Obj) (vs : Array Value), h.get? a = some oe ∧ Zc (.ref C) (some dd) oe ∧ oe.data = .fields vs
/-- at a: a dict from tuples to True, the tuples at their places -/
def dsO (P : Program) (w : World) (a : Addr) (xs : List (List L2.Key × Addr)) : HO := .ext fun h => (a == sysModules) = false ∧ ∃ o es ep, h.get? a = some o ∧ o.ExactDict ∧ o.data = .dict es ep ∧ es.toList = xs.map (fun x => entryOfKey (tupleKind (mixKind P w)) (x.1, x.2, Value.bool true)) ∧ (xs.map (·.1)).Nodup
mutual
/-- the value v stands for the datum d, by the objects of F alone -/
inductive Rep (c : C) : Hp → V → D → Prop
  | non {F : Hp} : Rep c F .non .non
  | bl {F : Hp} (b : Bool) : Rep c F (.bl b) (.bl b)
  | int {F : Hp} (i : Int) : Rep c F (.int i) (.int i)
  | str {F : Hp} (x : Str) : Rep c F (.str x) (.str x)
  | lst {F : Hp} {a : Addr} {vs : List V} {ds : List D} : F a = some (.lst vs) → RepAll c F vs ds → Rep c F (.ref a) (.lst ds)
  | tup {F : Hp} {a : Addr} {vs : List V} {ds : List D} : F a = some (.tup vs) → RepAll c F vs ds → Rep c F (.ref a) (.tup ds)
  | dct0 {F : Hp} {a : Addr} : F a = some (.dK []) → Rep c F (.ref a) (.dct [])
  | gen {F : Hp} {a : Addr} : c.ga = some a → Rep c F (.ref a) .gen
  | fn {F : Hp} {a : Addr} {x : Str} : c.mg x = some (.ref a) → Rep c F (.ref a) (.fn x)
  | exc {F : Hp} {a C dd : Addr} {x : Str} {u : V} {d : D} : c.mg x = some (.ref C) → F a = some (exq a C dd) → F dd = some (.xd [(PySem.Str.ofString "value", u)]) → Rep c F u d → Rep c F (.ref a) (.exc x d)
  | bor {F : Hp} {v : V} {d : D} : Rep c c.bo v d → Rep c F v (.bor d)
  | dset {F : Hp} {a : Addr} {xs : List (List L2.Key × Addr)} {ks : List (List (Int ⊕ Str))} : F a = some (dsO c.prog c.w a xs) → (∀ x ∈ xs, F x.2 = some (.tup (x.1.map kV))) → ks = xs.map (·.1) → Rep c F (.ref a) (.dset ks)
inductive RepAll (c : C) : Hp → List V → List D → Prop
  | nil {F : Hp} : RepAll c F [] []
  | cons {F : Hp} {v : V} {vs : List V} {d : D} {ds : List D} : Rep c F v d → RepAll c F vs ds → RepAll c F (v :: vs) (d :: ds)
end
section
variable {c : C} {F F' H H' : Hp}
mutual
theorem Rep.mono (s : Same F F') : ∀ (d : D) (v : V), Rep c F v d → Rep c F' v d
  | .non, _, h => by cases h; exact .non
  | .bl b, _, h => by cases h; exact .bl b
  | .int i, _, h => by cases h; exact .int i
  | .str x, _, h => by cases h; exact .str x
  | .lst ds, _, h => by
    cases h with
    | lst e q => exact .lst (s _ _ e) (RepAll.mono s ds _ q)
  | .tup ds, _, h => by
    cases h with
    | tup e q => exact .tup (s _ _ e) (RepAll.mono s ds _ q)
  | .dct kvs, _, h => by
    cases h with
    | dct0 e => exact .dct0 (s _ _ e)
  | .gen, _, h => by
    cases h with
    | gen e => exact .gen e
  | .fn x, _, h => by
    cases h with
    | fn e => exact .fn e
  | .exc _ d, _, h => by
    cases h with
    | exc e1 e2 e3 q => exact .exc e1 (s _ _ e2) (s _ _ e3) (Rep.mono s d _ q)
  | .thr _ _, _, h => by cases h
  | .bor d, _, h => by
    cases h with
    | bor q => exact .bor q
  | .dset ks, _, h => by
    cases h with
    | dset e1 e2 e3 => exact .dset (s _ _ e1) (fun x hx => s _ _ (e2 x hx)) e3
theorem RepAll.mono (s : Same F F') : ∀ (ds : List D) (vs : List V), RepAll c F vs ds → RepAll c F' vs ds
  | [], _, h => by cases h; exact .nil
  | d :: ds, _, h => by
    cases h with
    | cons q r => exact .cons (Rep.mono s d _ q) (RepAll.mono s ds _ r)
end
theorem Rep.up (s : Same F F') {d : D} {v : V} (h : Rep c F v d) : Rep c F' v d := Rep.mono s d v h
theorem RepAll.up (s : Same F F') {ds : List D} {vs : List V} (h : RepAll c F vs ds) : RepAll c F' vs ds := RepAll.mono s ds vs h
theorem RepAll.length : ∀ {vs : List V} {ds : List D}, RepAll c F vs ds → vs.length = ds.length
  | _, _, .nil => rfl
  | _, _, .cons _ t => by simp [RepAll.length t]
theorem RepAll.append : ∀ {vs us : List V} {ds es : List D}, RepAll c F vs ds → RepAll c F us es → RepAll c F (vs ++ us) (ds ++ es)
  | _, _, _, _, .nil, s => s
  | _, _, _, _, .cons r t, s => .cons r (RepAll.append t s)
theorem RepAll.get : ∀ {vs : List V} {ds : List D} {i : Nat} {d : D}, RepAll c F vs ds → ds[i]? = some d → ∃ v, vs[i]? = some v ∧ Rep c F v d
  | _, _, _, _, .nil, e => by simp at e
  | _, _, 0, _, .cons r _, e => by simp at e; subst e; exact ⟨_, rfl, r⟩
  | _, _, i + 1, d, .cons _ t, e => by
    obtain ⟨v, h1, h2⟩ := RepAll.get (i := i) (d := d) t (by simpa using e)
    exact ⟨v, by simpa using h1, h2⟩
theorem RepAll.getV : ∀ {vs : List V} {ds : List D} {i : Nat} {v : V}, RepAll c F vs ds → vs[i]? = some v → ∃ d, ds[i]? = some d ∧ Rep c F v d
  | _, _, _, _, .nil, e => by simp at e
  | _, _, 0, _, .cons r _, e => by simp at e; subst e; exact ⟨_, rfl, r⟩
  | _, _, i + 1, d, .cons _ t, e => by
    obtain ⟨v, h1, h2⟩ := RepAll.getV (i := i) (v := d) t (by simpa using e)
    exact ⟨v, by simpa using h1, h2⟩
theorem RepAll.take : ∀ {vs : List V} {ds : List D} (n : Nat), RepAll c F vs ds → RepAll c F (vs.take n) (ds.take n)
  | _, _, 0, _ => by simp; exact .nil
  | _, _, _ + 1, .nil => .nil
  | _, _, n + 1, .cons r t => .cons r (RepAll.take n t)
theorem RepAll.drop : ∀ {vs : List V} {ds : List D} (n : Nat), RepAll c F vs ds → RepAll c F (vs.drop n) (ds.drop n)
  | _, _, 0, r => r
  | _, _, _ + 1, .nil => .nil
  | _, _, n + 1, .cons _ t => RepAll.drop n t
theorem RepAll.reverse {vs : List V} {ds : List D} (h : RepAll c F vs ds) : RepAll c F vs.reverse ds.reverse := by
  induction vs generalizing ds with
  | nil => cases h; exact .nil
  | cons v vs ih =>
    cases h with
    | cons r t =>
      rw [List.reverse_cons, List.reverse_cons]
      exact (ih t).append (.cons r .nil)
theorem RepAll.ints : ∀ ns : List Int, RepAll c F (ns.map V.int) (ns.map D.int)
  | [] => .nil
  | n :: ns => .cons (.int n) (RepAll.ints ns)
theorem RepAll.ofInts : ∀ {ns : List Int} {vs : List V}, RepAll c F vs (ns.map D.int) → vs = ns.map V.int
  | [], _, h => by cases h; rfl
  | n :: ns, _, h => by
    cases h with
    | cons r t => cases r; rw [RepAll.ofInts t]; rfl
theorem ints_map : ∀ {xs : List D} {ns : List Int}, ints? xs = some ns → xs = ns.map D.int
  | [], _, h => by cases h; rfl
  | .int i :: r, _, h => by
    unfold ints? at h
    obtain ⟨ms, e, rfl⟩ := Option.map_eq_some_iff.mp h
    rw [ints_map e]
    rfl
theorem bools_map : ∀ {xs : List D} {ns : List Bool}, bools? xs = some ns → xs = ns.map D.bl
  | [], _, h => by cases h; rfl
  | .bl i :: r, _, h => by
    unfold bools? at h
    obtain ⟨ms, e, rfl⟩ := Option.map_eq_some_iff.mp h
    rw [bools_map e]
    rfl
theorem RepAll.ofBools : ∀ {ns : List Bool} {vs : List V}, RepAll c F vs (ns.map D.bl) → vs = ns.map V.bl
  | [], _, h => by cases h; rfl
  | n :: ns, _, h => by
    cases h with
    | cons r t => cases r; rw [RepAll.ofBools t]; rfl
end

/-- the generator's list -/
structure GenOk (c : C) (F H : Hp) (g : Gs) : Prop where
  gen : ∀ a, c.ga = some a → F a = none ∧ H a = some (.lst (g.map V.int))
  bo : Same c.bo H
  nb : ∀ a, c.ga = some a → c.bo a = none
/-- from (F, H) on: what was relied on stands, what was tracked stands but for the generator, what is newly relied on is new -/
structure Stp (c : C) (F H F' H' : Hp) (g : Gs) : Prop where
  sub : Same F F'
  ext : ∀ a o, c.ga ≠ some a → H a = some o → H' a = some o
  new : ∀ a, F' a ≠ none → F a = none → H a = none
  le : Same F' H'
  gen : GenOk c F' H' g
section
variable {c : C} {F H F1 H1 F2 H2 : Hp} {g g1 g2 : Gs}
theorem Stp.refl (le : Same F H) (gen : GenOk c F H g) : Stp c F H F H g := ⟨Same.refl F, fun _ _ _ e => e, fun _ h1 h2 => absurd h2 h1, le, gen⟩
theorem Stp.trans (x : Stp c F H F1 H1 g1) (y : Stp c F1 H1 F2 H2 g2) : Stp c F H F2 H2 g2 := by
  refine ⟨x.sub.trans y.sub, fun a o n e => y.ext a o n (x.ext a o n e), fun a h1 h2 => ?_, y.le, y.gen⟩
  by_cases h : F1 a = none
  · have q := y.new a h1 h
    cases e : H a with
    | none => rfl
    | some o =>
      by_cases n : c.ga = some a
      · exact absurd (y.gen.gen a n).1 h1
      · rw [x.ext a o n e] at q; cases q
  · exact x.new a h h2
/-- a new object is laid and relied on -/
theorem Stp.lay {p : Addr} {o : HO} (le : Same F H) (gen : GenOk c F H g) (hp : H p = none) : Stp c F H (upd F p o) (upd H p o) g := by
  have fp : F p = none := by
    cases e : F p with
    | none => rfl
    | some u => rw [le p u e] at hp; cases hp
  refine ⟨fun b u e => ?_, fun a u _ e => ?_, fun a h1 h2 => ?_, fun b u e => ?_, ⟨fun a n => ?_, fun b u e => by rw [upd_ne (ne_of_none (gen.bo b u e) hp)]; exact gen.bo b u e, gen.nb⟩⟩
  · rw [upd_ne (ne_of_none e fp)]; exact e
  · rw [upd_ne (ne_of_none e hp)]; exact e
  · by_cases h : a = p
    · rw [h]; exact hp
    · rw [upd_ne h] at h1; exact absurd h2 h1
  · by_cases h : b = p
    · subst h; rw [upd_same] at e ⊢; exact e
    · rw [upd_ne h] at e ⊢; exact le b u e
  · obtain ⟨q1, q2⟩ := gen.gen a n
    have h : a ≠ p := ne_of_none q2 hp
    rw [upd_ne h, upd_ne h]; exact ⟨q1, q2⟩
/-- a new object is laid, not relied on -/
theorem Stp.tmp {p : Addr} {o : HO} (le : Same F H) (gen : GenOk c F H g) (hp : H p = none) : Stp c F H F (upd H p o) g := by
  refine ⟨Same.refl F, fun a u _ e => ?_, fun a h1 h2 => absurd h2 h1, fun b u e => ?_, ⟨fun a n => ?_, fun b u e => by rw [upd_ne (ne_of_none (gen.bo b u e) hp)]; exact gen.bo b u e, gen.nb⟩⟩
  · rw [upd_ne (ne_of_none e hp)]; exact e
  · rw [upd_ne (ne_of_none (le b u e) hp)]; exact le b u e
  · obtain ⟨q1, q2⟩ := gen.gen a n
    have h : a ≠ p := ne_of_none q2 hp
    rw [upd_ne h]; exact ⟨q1, q2⟩
end

/-- a value that is read now: relied on, or a list of one's own whose items are relied on -/
def RepB (c : C) (F H : Hp) (v : V) (d : D) : Prop := Rep c F v d ∨ ∃ a vs ds, v = .ref a ∧ d = .lst ds ∧ H a = some (.lst vs) ∧ c.ga ≠ some a ∧ RepAll c F vs ds
theorem RepB.step {c : C} {F H F' H' : Hp} {g : Gs} {v : V} {d : D} (r : RepB c F H v d) (s : Stp c F H F' H' g) : RepB c F' H' v d := by
  rcases r with r | ⟨a, vs, ds, e1, e2, e3, e4, r⟩
  · exact .inl (r.up s.sub)
  · exact .inr ⟨a, vs, ds, e1, e2, s.ext _ _ e4 e3, e4, r.up s.sub⟩
theorem Rep.b {c : C} {F H : Hp} {v : V} {d : D} (r : Rep c F v d) : RepB c F H v d := .inl r
/-- the list that is read -/
theorem RepB.lst {c : C} {F H : Hp} {v : V} {ds : List D} (r : RepB c F H v (.lst ds)) (le : Same F H) : ∃ a vs, v = .ref a ∧ H a = some (.lst vs) ∧ RepAll c F vs ds := by
  rcases r with r | ⟨a, vs, ds', e1, e2, e3, e4, r⟩
  · cases r with
    | lst e q => exact ⟨_, _, rfl, le _ _ e, q⟩
  · cases e2
    exact ⟨a, vs, e1, e3, r⟩
theorem RepB.rep {c : C} {F H : Hp} {v : V} {d : D} (r : RepB c F H v d) (h : d.isLst = false) : Rep c F v d := by
  rcases r with r | ⟨a, vs, ds', e1, e2, e3, e4, r⟩
  · exact r
  · subst e2; cases h

/-- the slots and the heap at a place of a def that was entered at H0 -/
structure Wd (c : C) (H0 F H : Hp) (σ : L2.St) (δ : Dlt) (g : Gs) : Prop where
  le : Same F H
  gen : GenOk c F H g
  len : δ.length = σ.length
  val : ∀ (i : Nat) (d : D), δ[i]? = some (Sl.val d) → ∃ v, σ[i]? = some (some v) ∧ Rep c F v d
  own : ∀ (i : Nat) (xs : List D), δ[i]? = some (Sl.own xs) → ∃ a vs, σ[i]? = some (some (V.ref a)) ∧ H a = some (.lst vs) ∧ F a = none ∧ H0 a = none ∧ c.ga ≠ some a ∧ RepAll c F vs xs
  apart : ∀ (i j : Nat) (xs ys : List D), i ≠ j → δ[i]? = some (Sl.own xs) → δ[j]? = some (Sl.own ys) → σ[i]? ≠ σ[j]?
  bo0 : Same c.bo H0
section
variable {c : C} {H0 F H F' H' : Hp} {σ : L2.St} {δ : Dlt} {g g' : Gs}
theorem Wd.step (w : Wd c H0 F H σ δ g) (s : Stp c F H F' H' g') : Wd c H0 F' H' σ δ g' := by
  refine ⟨s.le, s.gen, w.len, fun i d e => ?_, fun i xs e => ?_, w.apart, w.bo0⟩
  · obtain ⟨v, e1, r⟩ := w.val i d e
    exact ⟨v, e1, r.up s.sub⟩
  · obtain ⟨a, vs, e1, e2, e3, e4, e5, r⟩ := w.own i xs e
    refine ⟨a, vs, e1, s.ext _ _ e5 e2, ?_, e4, e5, r.up s.sub⟩
    by_cases h : F' a = none
    · exact h
    · have q := s.new a h e3
      rw [e2] at q; cases q
theorem Wd.set {i : Nat} {v : V} {d : D} (w : Wd c H0 F H σ δ g) (r : Rep c F v d) : Wd c H0 F H (σ.set i (some v)) (δ.set i (.val d)) g := by
  refine ⟨w.le, w.gen, by simp [w.len], fun j e h => ?_, fun j xs h => ?_, fun j k xs ys ne h1 h2 => ?_, w.bo0⟩
  · by_cases hj : i = j
    · subst hj
      by_cases hl : i < δ.length
      · rw [List.getElem?_set_self hl] at h
        cases h
        exact ⟨v, by rw [List.getElem?_set_self (by rw [← w.len]; exact hl)], r⟩
      · rw [List.getElem?_eq_none (by simpa using hl)] at h; cases h
    · rw [List.getElem?_set_ne hj] at h ⊢
      exact w.val j e h
  · by_cases hj : i = j
    · subst hj
      by_cases hl : i < δ.length
      · rw [List.getElem?_set_self hl] at h; cases h
      · rw [List.getElem?_eq_none (by simpa using hl)] at h; cases h
    · rw [List.getElem?_set_ne hj] at h ⊢
      exact w.own j xs h
  · have nj : ∀ (k : Nat) (zs : List D), (δ.set i (Sl.val d))[k]? = some (Sl.own zs) → i ≠ k := fun k zs h e => by
      subst e
      by_cases hl : i < δ.length
      · rw [List.getElem?_set_self hl] at h; cases h
      · rw [List.getElem?_eq_none (by simpa using hl)] at h; cases h
    have a1 := nj j xs h1
    have a2 := nj k ys h2
    rw [List.getElem?_set_ne a1] at h1 ⊢
    rw [List.getElem?_set_ne a2] at h2 ⊢
    exact w.apart j k xs ys ne h1 h2
theorem Wd.forget {i : Nat} {x : Option V} (w : Wd c H0 F H σ δ g) : Wd c H0 F H (σ.set i x) (δ.set i .no) g := by
  have nj : ∀ (k : Nat) (s : Sl), (δ.set i Sl.no)[k]? = some s → s ≠ .no → i ≠ k := fun k s h hs e => by
    subst e
    by_cases hl : i < δ.length
    · rw [List.getElem?_set_self hl] at h; cases h; exact hs rfl
    · rw [List.getElem?_eq_none (by simpa using hl)] at h; cases h
  refine ⟨w.le, w.gen, by simp [w.len], fun j e h => ?_, fun j xs h => ?_, fun j k xs ys ne h1 h2 => ?_, w.bo0⟩
  · have a := nj j _ h (by simp)
    rw [List.getElem?_set_ne a] at h ⊢
    exact w.val j e h
  · have a := nj j _ h (by simp)
    rw [List.getElem?_set_ne a] at h ⊢
    exact w.own j xs h
  · have a1 := nj j _ h1 (by simp)
    have a2 := nj k _ h2 (by simp)
    rw [List.getElem?_set_ne a1] at h1 ⊢
    rw [List.getElem?_set_ne a2] at h2 ⊢
    exact w.apart j k xs ys ne h1 h2
theorem Wd.wipe (w : Wd c H0 F H σ δ g) : ∀ vs : List Nat, Wd c H0 F H (L2.wipe σ vs) (wipeD δ vs) g
  | [] => w
  | i :: r => (w.wipe r).forget
/-- a new list of one's own -/
theorem Wd.setOwn {i : Nat} {a : Addr} {vs : List V} {xs : List D} (w : Wd c H0 F H σ δ g) (e2 : H a = some (.lst vs)) (e3 : F a = none) (e4 : H0 a = none) (e5 : c.ga ≠ some a) (r : RepAll c F vs xs)
    (e6 : ∀ (j : Nat) (ys : List D), j ≠ i → δ[j]? = some (Sl.own ys) → σ[j]? ≠ some (some (V.ref a))) : Wd c H0 F H (σ.set i (some (.ref a))) (δ.set i (.own xs)) g := by
  refine ⟨w.le, w.gen, by simp [w.len], fun j e h => ?_, fun j ys h => ?_, fun j k ys zs ne h1 h2 => ?_, w.bo0⟩
  · by_cases hj : i = j
    · subst hj
      by_cases hl : i < δ.length
      · rw [List.getElem?_set_self hl] at h; cases h
      · rw [List.getElem?_eq_none (by simpa using hl)] at h; cases h
    · rw [List.getElem?_set_ne hj] at h ⊢
      exact w.val j e h
  · by_cases hj : i = j
    · subst hj
      by_cases hl : i < δ.length
      · rw [List.getElem?_set_self hl] at h
        cases h
        exact ⟨a, vs, by rw [List.getElem?_set_self (by rw [← w.len]; exact hl)], e2, e3, e4, e5, r⟩
      · rw [List.getElem?_eq_none (by simpa using hl)] at h; cases h
    · rw [List.getElem?_set_ne hj] at h ⊢
      exact w.own j ys h
  · have inl : ∀ (k : Nat) (s : Sl), (δ.set i (Sl.own xs))[k]? = some s → k < σ.length := fun k s h => by
      have := List.getElem?_eq_some_iff.mp h
      obtain ⟨hl, _⟩ := this
      rw [List.length_set] at hl
      rw [← w.len]; exact hl
    have l1 := inl j _ h1
    have l2 := inl k _ h2
    by_cases hj : i = j
    · subst hj
      rw [List.getElem?_set_ne ne] at h2 ⊢
      rw [List.getElem?_set_self l1]
      exact fun e => e6 k zs (Ne.symm ne) h2 e.symm
    · by_cases hk : i = k
      · subst hk
        rw [List.getElem?_set_ne hj] at h1 ⊢
        rw [List.getElem?_set_self l2]
        exact e6 j ys (Ne.symm hj) h1
      · rw [List.getElem?_set_ne hj] at h1 ⊢
        rw [List.getElem?_set_ne hk] at h2 ⊢
        exact w.apart j k ys zs ne h1 h2
end

/-! ### readings -/
def tP (c : C) (f : E) : TE := fun σ H Q => ∃ H0 F δ g d g', Wd c H0 F H σ δ g ∧ Ok (f δ) g d g' ∧ ∀ v F' H', Stp c F H F' H' g' → Rep c F' v d → Q v H'
def tR (c : C) (f : E) : TE := fun σ H Q => ∃ H0 F δ g d g', Wd c H0 F H σ δ g ∧ Ok (f δ) g d g' ∧ ∀ v F' H', Stp c F H F' H' g' → RepB c F' H' v d → Q v H'
def tT (c : C) (f : E) : TT := fun σ H Q => ∃ H0 F δ g b g', Wd c H0 F H σ δ g ∧ Ok (f δ) g (.bl b) g' ∧ ∀ F' H', Stp c F H F' H' g' → Q b H'
def tAs (c : C) (f : Es) : TA := fun σ H Q => ∃ H0 F δ g ds g', Wd c H0 F H σ δ g ∧ Ok (f δ) g ds g' ∧ ∀ vs F' H', Stp c F H F' H' g' → RepAll c F' vs ds → Q vs H'
/-- the same with values that are read now -/
inductive RepBs (c : C) (F H : Hp) : List V → List D → Prop
  | nil : RepBs c F H [] []
  | cons {v : V} {vs : List V} {d : D} {ds : List D} : RepB c F H v d → RepBs c F H vs ds → RepBs c F H (v :: vs) (d :: ds)
theorem RepBs.step {c : C} {F H F' H' : Hp} {g : Gs} (s : Stp c F H F' H' g) : ∀ {vs : List V} {ds : List D}, RepBs c F H vs ds → RepBs c F' H' vs ds
  | _, _, .nil => .nil
  | _, _, .cons r t => .cons (r.step s) (RepBs.step s t)
def tRs (c : C) (f : Es) : TA := fun σ H Q => ∃ H0 F δ g ds g', Wd c H0 F H σ δ g ∧ Ok (f δ) g ds g' ∧ ∀ vs F' H', Stp c F H F' H' g' → RepBs c F' H' vs ds → Q vs H'

theorem _root_.L2.PE.imp {X : Cx} {e : Expr} {t t' : TE} (h : PE X e t) (i : ∀ σ H Q, t' σ H Q → t σ H Q) : PE X e t' := ⟨fun pins s σ H Q I q => h.run pins s σ H Q I (i σ H Q q)⟩
theorem _root_.L2.PT.imp {X : Cx} {e : Expr} {t t' : TT} (h : PT X e t) (i : ∀ σ H Q, t' σ H Q → t σ H Q) : PT X e t' := ⟨fun pins s σ H Q I q => h.run pins s σ H Q I (i σ H Q q)⟩
theorem _root_.L2.PA.imp {X : Cx} {e : List Expr} {t t' : TA} (h : PA X e t) (i : ∀ σ H Q, t' σ H Q → t σ H Q) : PA X e t' := ⟨fun pos pins s σ H Q I q => h.run pos pins s σ H Q I (i σ H Q q)⟩
theorem _root_.L2.PS.imp {X : Cx} {e : Stmt} {t t' : TS} (h : PS X e t) (i : ∀ D σ H, t' D σ H → t D σ H) : PS X e t' := ⟨fun pins s σ H D I q => h.run pins s σ H D I (i D σ H q)⟩
theorem _root_.L2.PSs.imp {X : Cx} {e : List Stmt} {t t' : TS} (h : PSs X e t) (i : ∀ D σ H, t' D σ H → t D σ H) : PSs X e t' := ⟨fun pins s σ H D I q => h.run pins s σ H D I (i D σ H q)⟩
section
variable {X : Cx} {c : C} {a b e : Expr} {es : List Expr} {fa fb f : E} {fs : Es}
/-- what is relied on may be read -/
theorem _root_.L2.PE.rd (h : PE X e (tP c f)) : PE X e (tR c f) := h.imp fun σ H Q ⟨H0, F, δ, g, d, g', w, o, q⟩ => ⟨H0, F, δ, g, d, g', w, o, fun v F' H' s r => q v F' H' s r.b⟩
/-- a value that is no list -/
theorem _root_.L2.PE.sol (h : PE X e (tR c f)) : PE X e (tP c (eF (fun d => if d.isLst then stuck else pure d) f)) := h.imp fun σ H Q ⟨H0, F, δ, g, d, g', w, o, q⟩ => by
  obtain ⟨x, g1, o1, o2⟩ := ok_bind.mp o
  cases hx : x.isLst with
  | true => rw [hx] at o2; exact absurd o2 not_ok_stuck
  | false =>
    rw [hx] at o2
    obtain ⟨rfl, rfl⟩ := ok_pure.mp o2
    exact ⟨H0, F, δ, g, x, g1, w, o1, fun v F' H' s r => q v F' H' s (r.rep hx)⟩

theorem d_k {v : V} {d : D} (h : PE X e (tC v)) (r : ∀ F, Rep c F v d) : PE X e (tP c (eK d)) := h.imp fun σ H Q ⟨H0, F, δ, g, x, g', w, o, q⟩ => by
  obtain ⟨rfl, rfl⟩ := ok_pure.mp o
  exact q v F H (.refl w.le w.gen) (r F)
theorem d_non {j pos} : PE X (.Constant .none j pos) (tP c (eK .non)) := d_k pe_non fun _ => .non
theorem d_bl {b j pos} : PE X (.Constant (.bool b) j pos) (tP c (eK (.bl b))) := d_k pe_bl fun _ => .bl b
theorem d_int {i j pos} : PE X (.Constant (.int i) j pos) (tP c (eK (.int i))) := d_k pe_int fun _ => .int i
theorem d_str {x j pos} : PE X (.Constant (.str x) j pos) (tP c (eK (.str x))) := d_k pe_str fun _ => .str x
/-- a name that is read -/
theorem d_rv {i : Nat} (h : PE X e (tVar i)) : PE X e (tR c (eV i)) := h.imp fun σ H Q ⟨H0, F, δ, g, d, g', w, o, q⟩ => by
  unfold eV at o
  split at o
  · rename_i d' e1
    obtain ⟨rfl, rfl⟩ := ok_pure.mp o
    obtain ⟨v, e2, r⟩ := w.val i d' e1
    exact ⟨v, e2, q v F H (.refl w.le w.gen) r.b⟩
  · rename_i xs e1
    obtain ⟨rfl, rfl⟩ := ok_pure.mp o
    obtain ⟨a, vs, e2, e3, e4, e5, e6, r⟩ := w.own i xs e1
    exact ⟨_, e2, q _ F H (.refl w.le w.gen) (.inr ⟨a, vs, xs, rfl, rfl, e3, e6, r⟩)⟩
  · exact absurd o not_ok_stuck
/-- a name whose value is handed on: not a list of one's own -/
def eW (i : Nat) : E := fun δ => match δ[i]? with
  | some (.val d) => pure d
  | _ => stuck
theorem d_v {i : Nat} (h : PE X e (tVar i)) : PE X e (tP c (eW i)) := h.imp fun σ H Q ⟨H0, F, δ, g, d, g', w, o, q⟩ => by
  unfold eW at o
  split at o
  · rename_i d' e1
    obtain ⟨rfl, rfl⟩ := ok_pure.mp o
    obtain ⟨v, e2, r⟩ := w.val i d' e1
    exact ⟨v, e2, q v F H (.refl w.le w.gen) r⟩
  · exact absurd o not_ok_stuck
end
end DL

/-! ## DOps -/
set_option Elab.async false
set_option autoImplicit false
set_option linter.all false
set_option maxRecDepth 100000
set_option maxHeartbeats 2000000
/-! DOps: the operations on values, in terms of plain data. -/
namespace DL
open PySem PySem.Spec PyProof.Rows L2

def uD (c : C) (f : D → M D) : V → Hp → VK → Prop := fun x H Q => ∃ F d d' g g', Same F H ∧ GenOk c F H g ∧ RepB c F H x d ∧ Ok (f d) g d' g' ∧ ∀ v F' H', Stp c F H F' H' g' → Rep c F' v d' → Q v H'
def oD (c : C) (f : D → D → M D) : R2 := fun x y H Q => ∃ F d e d' g g', Same F H ∧ GenOk c F H g ∧ RepB c F H x d ∧ RepB c F H y e ∧ Ok (f d e) g d' g' ∧ ∀ v F' H', Stp c F H F' H' g' → Rep c F' v d' → Q v H'
/-- a call with one value, with two -/
def c1 (c : C) (f : D → M D) : List V → Hp → VK → Prop := fun xs H Q => ∃ x, xs = [x] ∧ uD c f x H Q
def c2 (c : C) (f : D → D → M D) : List V → Hp → VK → Prop := fun xs H Q => ∃ x y, xs = [x, y] ∧ oD c f x y H Q
theorem lim_le {n : Nat} (h : lim n = true) : n ≤ sizeLine := by
  have q : n ≤ 16777216 := of_decide_eq_true h
  rw [sizeLine_eq]; exact q

section
variable {X : Cx} {c : C}
/-! ### arithmetic -/
theorem add_d : OpR X (binaryOp .Add) (oD c dAdd) := by
  intro pins s σ H x y v u Q I rx ry h
  obtain ⟨F, d, e, d', g, g', le, gen, r1, r2, o, q⟩ := h
  unfold dAdd at o
  split at o
  · obtain ⟨rfl, rfl⟩ := ok_pure.mp o
    have a1 := r1.rep rfl
    have a2 := r2.rep rfl
    cases a1; cases a2
    exact op_add pins s σ H _ _ v u Q I rx ry ⟨_, _, rfl, rfl, q _ F H (.refl le gen) (.int _)⟩
  · split at o
    · rename_i hl
      obtain ⟨rfl, rfl⟩ := ok_pure.mp o
      have a1 := r1.rep rfl
      have a2 := r2.rep rfl
      cases a1; cases a2
      exact op_add_str pins s σ H _ _ v u Q I rx ry ⟨_, _, rfl, rfl, lim_le hl, q _ F H (.refl le gen) (.str _)⟩
    · exact absurd o not_ok_stuck
  · split at o
    · rename_i hl
      obtain ⟨rfl, rfl⟩ := ok_pure.mp o
      obtain ⟨a, vs, rfl, ea, ra⟩ := r1.lst le
      obtain ⟨b, us, rfl, eb, rb⟩ := r2.lst le
      refine op_cat pins s σ H _ _ v u Q I rx ry ⟨_, _, vs, us, rfl, rfl, ea, eb, ?_, fun p hp => ?_⟩
      · rw [ra.length, rb.length]; exact lim_le hl
      · have st := Stp.lay (o := .lst (vs ++ us)) le gen hp
        exact q _ _ _ st (.lst upd_same ((ra.append rb).up st.sub))
    · exact absurd o not_ok_stuck
  · exact absurd o not_ok_stuck
theorem sub_d : OpR X (binaryOp .Sub) (oD c dSub) := by
  intro pins s σ H x y v u Q I rx ry h
  obtain ⟨F, d, e, d', g, g', le, gen, r1, r2, o, q⟩ := h
  unfold dSub at o
  split at o
  · obtain ⟨rfl, rfl⟩ := ok_pure.mp o
    have a1 := r1.rep rfl
    have a2 := r2.rep rfl
    cases a1; cases a2
    exact op_sub pins s σ H _ _ v u Q I rx ry ⟨_, _, rfl, rfl, q _ F H (.refl le gen) (.int _)⟩
  · exact absurd o not_ok_stuck
theorem flat_rep {F : Hp} {vs : List V} {ds : List D} (r : RepAll c F vs ds) : ∀ k : Nat, RepAll c F (List.replicate k vs).flatten (List.replicate k ds).flatten
  | 0 => .nil
  | k + 1 => by
    rw [List.replicate_succ, List.replicate_succ, List.flatten_cons, List.flatten_cons]
    exact r.append (flat_rep r k)
theorem mul_d : OpR X (binaryOp .Mult) (oD c dMul) := by
  intro pins s σ H x y v u Q I rx ry h
  obtain ⟨F, d, e, d', g, g', le, gen, r1, r2, o, q⟩ := h
  unfold dMul at o
  split at o
  · split at o
    · rename_i hl
      obtain ⟨rfl, rfl⟩ := ok_pure.mp o
      have a1 := r1.rep rfl
      have a2 := r2.rep rfl
      cases a1; cases a2
      exact op_mulW pins s σ H _ _ v u Q I rx ry ⟨_, _, rfl, rfl, hl, q _ F H (.refl le gen) (.int _)⟩
    · exact absurd o not_ok_stuck
  · split at o
    · rename_i hl
      obtain ⟨h1, h2, h3⟩ := hl
      obtain ⟨rfl, rfl⟩ := ok_pure.mp o
      obtain ⟨a, vs, rfl, ea, ra⟩ := r1.lst le
      have a2 := r2.rep rfl
      cases a2
      refine op_rep pins s σ H _ _ v u Q I rx ry ⟨_, _, vs, rfl, rfl, ea, by omega, by omega, ?_, fun p hp => ?_⟩
      · rw [ra.length]; exact lim_le h3
      · exact q _ _ _ (Stp.lay le gen hp) (.lst upd_same ((flat_rep ra _).up (Stp.lay le gen hp).sub))
    · exact absurd o not_ok_stuck
  · exact absurd o not_ok_stuck
theorem fdiv_d : OpR X (binaryOp .FloorDiv) (oD c dFdiv) := by
  intro pins s σ H x y v u Q I rx ry h
  obtain ⟨F, d, e, d', g, g', le, gen, r1, r2, o, q⟩ := h
  unfold dFdiv at o
  split at o
  · split at o
    · rename_i hl
      obtain ⟨rfl, rfl⟩ := ok_pure.mp o
      have a1 := r1.rep rfl
      have a2 := r2.rep rfl
      cases a1; cases a2
      exact op_fdivW pins s σ H _ _ v u Q I rx ry ⟨_, _, rfl, rfl, hl, q _ F H (.refl le gen) (.int _)⟩
    · exact absurd o not_ok_stuck
  · exact absurd o not_ok_stuck
theorem mod_d : OpR X (binaryOp .Mod) (oD c dMod) := by
  intro pins s σ H x y v u Q I rx ry h
  obtain ⟨F, d, e, d', g, g', le, gen, r1, r2, o, q⟩ := h
  unfold dMod at o
  split at o
  · split at o
    · rename_i hl
      obtain ⟨rfl, rfl⟩ := ok_pure.mp o
      have a1 := r1.rep rfl
      have a2 := r2.rep rfl
      cases a1; cases a2
      exact op_mod pins s σ H _ _ v u Q I rx ry ⟨_, _, rfl, rfl, hl, q _ F H (.refl le gen) (.int _)⟩
    · exact absurd o not_ok_stuck
  · exact absurd o not_ok_stuck

/-! ### data of the library -/
mutual
theorem dp_of (K : PySem.W.Frag) {F H : Hp} (le : Same F H) : ∀ (n : Nat) (d : D) (v : V), d.cl n = true → Rep c F v d → Dp K H v d.py
  | _, .non, _, _, r => by cases r; exact .non
  | _, .bl b, _, _, r => by cases r; exact .bl b
  | _, .int i, _, _, r => by cases r; exact .int i
  | _, .str x, _, _, r => by cases r; exact .str x
  | 0, .lst ds, _, h, _ => by simp [D.cl] at h
  | 0, .tup ds, _, h, _ => by simp [D.cl] at h
  | n + 1, .lst ds, _, h, r => by
    cases r with
    | lst e q => exact .lst (SqL.of (le _ _ e)) (dps_of K le n ds _ (by simpa [D.cl] using h) q)
  | n + 1, .tup ds, _, h, r => by
    cases r with
    | tup e q => exact .tup (SqT.of (le _ _ e)) (dps_of K le n ds _ (by simpa [D.cl] using h) q)
  | _, .dct _, _, h, _ => by simp [D.cl] at h
  | _, .gen, _, h, _ => by simp [D.cl] at h
  | _, .fn _, _, h, _ => by simp [D.cl] at h
  | _, .exc _ _, _, h, _ => by simp [D.cl] at h
  | _, .thr _ _, _, h, _ => by simp [D.cl] at h
  | _, .bor _, _, h, _ => by simp [D.cl] at h
  | _, .dset _, _, h, _ => by simp [D.cl] at h
theorem dps_of (K : PySem.W.Frag) {F H : Hp} (le : Same F H) : ∀ (n : Nat) (ds : List D) (vs : List V), (∀ d ∈ ds, d.cl n = true) → RepAll c F vs ds → DpAll K H vs (pys ds)
  | _, [], _, _, r => by cases r; exact .nil
  | n, d :: ds, _, h, r => by
    cases r with
    | cons r1 r2 => exact .cons (dp_of K le n d _ (h d List.mem_cons_self) r1) (dps_of K le n ds _ (fun e he => h e (List.mem_cons_of_mem _ he)) r2)
end
theorem dp_b {K : PySem.W.Frag} {F H : Hp} (le : Same F H) {n : Nat} {d : D} {v : V} (h : d.cl n = true) (r : RepB c F H v d) : Dp K H v d.py := by
  rcases r with r | ⟨a, vs, ds, rfl, rfl, e, _, r⟩
  · exact dp_of K le n d v h r
  · cases n with
    | zero => simp [D.cl] at h
    | succ n => exact .lst (SqL.of e) (dps_of K le n ds _ (by simpa [D.cl] using h) r)
mutual
theorem cl_lay : ∀ (n : Nat) (d : D), d.cl n = true → d.py.canLay0 = true ∧ d.py.depth ≤ n ∧ d.py.showable = true ∧ d.py.hasDict = false
  | _, .non, _ => by simp [D.py, PyData.canLay0, PyData.depth, PyData.showable, PyData.hasDict]
  | _, .bl b, _ => by simp [D.py, PyData.canLay0, PyData.depth, PyData.showable, PyData.hasDict]
  | _, .int i, h => by
    have q : i.natAbs.log2 < 1920 := by simpa [D.cl] using h
    simp [D.py, PyData.canLay0, PyData.depth, PyData.showable, PyData.hasDict, q]
  | _, .str x, h => by
    have q : PyData.strOk x = true := by simpa [D.cl] using h
    simp [D.py, PyData.canLay0, PyData.depth, PyData.showable, PyData.hasDict, q]
  | 0, .lst ds, h => by simp [D.cl] at h
  | 0, .tup ds, h => by simp [D.cl] at h
  | n + 1, .lst ds, h => by
    obtain ⟨h1, h2, h3, h4⟩ := cl_lays n ds (by simpa [D.cl] using h)
    simp only [D.py, PyData.canLay0, PyData.depth, PyData.showable, PyData.hasDict]
    exact ⟨h1, by omega, h3, h4⟩
  | n + 1, .tup ds, h => by
    obtain ⟨h1, h2, h3, h4⟩ := cl_lays n ds (by simpa [D.cl] using h)
    simp only [D.py, PyData.canLay0, PyData.depth, PyData.showable, PyData.hasDict]
    exact ⟨h1, by omega, h3, h4⟩
  | _, .dct _, h => by simp [D.cl] at h
  | _, .gen, h => by simp [D.cl] at h
  | _, .fn _, h => by simp [D.cl] at h
  | _, .exc _ _, h => by simp [D.cl] at h
  | _, .thr _ _, h => by simp [D.cl] at h
  | _, .bor _, h => by simp [D.cl] at h
  | _, .dset _, h => by simp [D.cl] at h
theorem cl_lays : ∀ (n : Nat) (ds : List D), (∀ d ∈ ds, d.cl n = true) → PyData.canLayAll0 (pys ds) = true ∧ PyData.depthAll (pys ds) ≤ n ∧ PyData.showableAll (pys ds) = true ∧ PyData.hasDictAll (pys ds) = false
  | _, [], _ => by simp [pys, PyData.canLayAll0, PyData.depthAll, PyData.showableAll, PyData.hasDictAll]
  | n, d :: ds, h => by
    obtain ⟨h1, h2, h3, h4⟩ := cl_lay n d (h d List.mem_cons_self)
    obtain ⟨k1, k2, k3, k4⟩ := cl_lays n ds fun e he => h e (List.mem_cons_of_mem _ he)
    simp only [pys, PyData.canLayAll0, PyData.depthAll, PyData.showableAll, PyData.hasDictAll, h1, k1, h3, k3, h4, k4]
    exact ⟨rfl, by omega, rfl, rfl⟩
end
theorem cl_shaped {n : Nat} {d : D} (h : d.cl n = true) (hn : n ≤ 64) : SeqAt.shaped d.py = true := by
  obtain ⟨h1, h2, _⟩ := cl_lay n d h
  unfold SeqAt.shaped
  rw [h1, decide_eq_true (show d.py.depth ≤ 64 by omega)]
  rfl

/-! ### order -/
theorem reads_of {F : Hp} {H : Hp} {pins : List (Addr × Obj)} {s : Shared} {σ : L2.St} (I : Inv X pins σ H s) (le : Same F H) {n : Nat} {d : D} {v : V} {u : Value} (h : d.cl n = true) (r : RepB c F H v d) (rv : RelV v u) : ∃ as, Reads s.heap u d.py as :=
  Dp.reads I d.py v u (dp_b le h r) rv
theorem py_non {d : D} {n : Nat} (h : d.cl n = true) (hn : d.isNon = false) : d.py ≠ .none := by
  cases d with
  | non => cases hn
  | dct _ => simp [D.cl] at h
  | gen => simp [D.cl] at h
  | fn _ => simp [D.cl] at h
  | exc _ _ => simp [D.cl] at h
  | thr _ _ => simp [D.cl] at h
  | bor _ => simp [D.cl] at h
  | dset _ => simp [D.cl] at h
  | bl _ => simp [D.py]
  | int _ => simp [D.py]
  | str _ => simp [D.py]
  | lst _ => simp [D.py]
  | tup _ => simp [D.py]
theorem cmp_run {op : CmpOp} {p : Int → Int → Bool} {k : PyData → PyData → Bool} {f : D → D → M D} (ho : OpR X (compareOp op) (rI0 fun i j => .bl (p i j)))
    (hd : ∀ (A : Around) (E : Value → Shared → Prop) (s : Shared) (a b : Value) (da db : PyData) (as bs : List Addr) (Q : Value → Shared → Prop), Reads s.heap a da as → Reads s.heap b db bs → PySem.W.alike da db = true → da ≠ .none →
      A.units + min da.depth db.depth < cLine → Q (.bool (k da db)) s → wpAny (model X.prog X.w) A (compareOp op a b) Q E s)
    (hu : X.A.units + 64 < cLine)
    (hf : ∀ d e g d' g', Ok (f d e) g d' g' → (∃ i j, d = .int i ∧ e = .int j ∧ d' = .bl (p i j) ∧ g = g') ∨ (cmpB d e = true ∧ d' = .bl (k d.py e.py) ∧ g = g')) : OpR X (compareOp op) (oD c f) := by
  intro pins s σ H x y v u Q I rx ry h
  obtain ⟨F, d, e, d', g, g', le, gen, r1, r2, o, q⟩ := h
  rcases hf _ _ _ _ _ o with ⟨i, j, rfl, rfl, rfl, rfl⟩ | ⟨hc, rfl, rfl⟩
  · have a1 := r1.rep rfl
    have a2 := r2.rep rfl
    cases a1; cases a2
    exact ho pins s σ H _ _ v u Q I rx ry ⟨_, _, rfl, rfl, q _ F H (.refl le gen) (.bl _)⟩
  · simp only [cmpB, Bool.and_eq_true, Bool.not_eq_true'] at hc
    obtain ⟨⟨⟨h1, h2⟩, h3⟩, h4⟩ := hc
    obtain ⟨as, ra⟩ := reads_of I le h1 r1 rx
    obtain ⟨bs, rb⟩ := reads_of I le h2 r2 ry
    have dd := (cl_lay 60 d h1).2.1
    exact hd X.A X.xe s v u _ _ as bs _ ra rb h3 (py_non h1 h4) (by have := Nat.min_le_left d.py.depth e.py.depth; omega) ⟨.bl _, H, I, rfl, q _ F H (.refl le gen) (.bl _)⟩
theorem lt_d (hu : X.A.units + 64 < cLine) : OpR X (compareOp .Lt) (oD c dLt) := cmp_run (k := PySem.W.dataLt) op_lt (fun _ _ _ _ _ _ _ _ _ _ a b h1 h2 h3 h4 => PySem.W.lt_data a b h1 h2 h3 h4) hu fun d e g d' g' o => by
  unfold dLt at o
  split at o
  · obtain ⟨rfl, rfl⟩ := ok_pure.mp o
    exact .inl ⟨_, _, rfl, rfl, rfl, rfl⟩
  · split at o
    · rename_i hc
      obtain ⟨rfl, rfl⟩ := ok_pure.mp o
      exact .inr ⟨hc, rfl, rfl⟩
    · exact absurd o not_ok_stuck
theorem gt_d (hu : X.A.units + 64 < cLine) : OpR X (compareOp .Gt) (oD c dGt) := cmp_run (k := fun a b => PySem.W.dataLt b a) op_gt (fun _ _ _ _ _ _ _ _ _ _ a b h1 h2 h3 h4 => PySem.W.gt_data a b h1 h2 h3 h4) hu fun d e g d' g' o => by
  unfold dGt at o
  split at o
  · obtain ⟨rfl, rfl⟩ := ok_pure.mp o
    exact .inl ⟨_, _, rfl, rfl, rfl, rfl⟩
  · split at o
    · rename_i hc
      obtain ⟨rfl, rfl⟩ := ok_pure.mp o
      exact .inr ⟨hc, rfl, rfl⟩
    · exact absurd o not_ok_stuck
theorem le_d (hu : X.A.units + 64 < cLine) : OpR X (compareOp .LtE) (oD c dLe) := cmp_run (k := fun a b => !PySem.W.dataLt b a) op_le (fun _ _ _ _ _ _ _ _ _ _ a b h1 h2 h3 h4 => PySem.W.le_data a b h1 h2 h3 h4) hu fun d e g d' g' o => by
  unfold dLe at o
  split at o
  · obtain ⟨rfl, rfl⟩ := ok_pure.mp o
    exact .inl ⟨_, _, rfl, rfl, rfl, rfl⟩
  · split at o
    · rename_i hc
      obtain ⟨rfl, rfl⟩ := ok_pure.mp o
      exact .inr ⟨hc, rfl, rfl⟩
    · exact absurd o not_ok_stuck
theorem ge_d (hu : X.A.units + 64 < cLine) : OpR X (compareOp .GtE) (oD c dGe) := cmp_run (k := fun a b => !PySem.W.dataLt a b) op_ge (fun _ _ _ _ _ _ _ _ _ _ a b h1 h2 h3 h4 => PySem.W.ge_data a b h1 h2 h3 h4) hu fun d e g d' g' o => by
  unfold dGe at o
  split at o
  · obtain ⟨rfl, rfl⟩ := ok_pure.mp o
    exact .inl ⟨_, _, rfl, rfl, rfl, rfl⟩
  · split at o
    · rename_i hc
      obtain ⟨rfl, rfl⟩ := ok_pure.mp o
      exact .inr ⟨hc, rfl, rfl⟩
    · exact absurd o not_ok_stuck

/-! ### == -/
theorem eqB_run {op : CmpOp} {k : Bool → Bool} (hs : OpR X (compareOp op) (fun x y H Q => scal x y = true ∧ Q (.bl (k (decide (x = y)))) H))
    (hd : OpR X (compareOp op) (fun x y H Q => ∃ d e, Dp X.K H x d ∧ Dp X.K H y e ∧ SeqAt.shaped d = true ∧ SeqAt.shaped e = true ∧ Q (.bl (k (PyData.eqv d e))) H)) :
    OpR X (compareOp op) (oD c fun d e => liftB ((dEqB d e).map k)) := by
  intro pins s σ H x y v u Q I rx ry h
  obtain ⟨F, d, e, d', g, g', le, gen, r1, r2, o, q⟩ := h
  have o : Ok (liftB ((dEqB d e).map k)) g d' g' := o
  cases hb : dEqB d e with
  | none => rw [hb] at o; exact absurd o not_ok_stuck
  | some b =>
    rw [hb] at o
    obtain ⟨rfl, rfl⟩ := ok_pure.mp o
    unfold dEqB at hb
    split at hb
    · cases hb
      have a1 := r1.rep rfl
      have a2 := r2.rep rfl
      cases a1; cases a2
      refine hs pins s σ H _ _ v u Q I rx ry ⟨rfl, ?_⟩
      have q' := q (.bl (k (decide (_ = _)))) F H (.refl le gen) (.bl _)
      rw [show decide (V.str _ = V.str _) = decide (_ = _) from decide_eq_decide.mpr ⟨fun e => V.str.inj e, fun e => by rw [e]⟩]
      exact q'
    · cases hb
      have a1 := r1.rep rfl
      have a2 := r2.rep rfl
      cases a1; cases a2
      refine hs pins s σ H _ _ v u Q I rx ry ⟨rfl, ?_⟩
      have q' := q (.bl (k (decide (_ = _)))) F H (.refl le gen) (.bl _)
      rw [show decide (V.int _ = V.int _) = decide (_ = _) from decide_eq_decide.mpr ⟨fun e => V.int.inj e, fun e => by rw [e]⟩]
      exact q'
    · cases hb
      have a1 := r1.rep rfl
      have a2 := r2.rep rfl
      cases a1; cases a2
      refine hs pins s σ H _ _ v u Q I rx ry ⟨rfl, ?_⟩
      have q' := q (.bl (k (decide (_ = _)))) F H (.refl le gen) (.bl _)
      rw [show decide (V.bl _ = V.bl _) = decide (_ = _) from decide_eq_decide.mpr ⟨fun e => V.bl.inj e, fun e => by rw [e]⟩]
      exact q'
    · split at hb
      · rename_i hc
        rw [Bool.and_eq_true] at hc
        cases hb
        exact hd pins s σ H _ _ v u Q I rx ry ⟨d.py, e.py, dp_b le hc.1 r1, dp_b le hc.2 r2, cl_shaped hc.1 (by decide), cl_shaped hc.2 (by decide), q _ F H (.refl le gen) (.bl _)⟩
      · cases hb
theorem eq_d (hu : X.A.units + 64 < cLine) : OpR X (compareOp .Eq) (oD c dEq) := by
  have h := eqB_run (c := c) (k := id) (X := X) (op := .Eq) op_eq (op_eqD hu)
  have e : (fun d e => liftB ((dEqB d e).map id)) = dEq := by
    funext d e
    unfold dEq
    cases dEqB d e <;> rfl
  rw [e] at h
  exact h
theorem ne_d (hu : X.A.units + 64 < cLine) : OpR X (compareOp .NotEq) (oD c dNe) := eqB_run (c := c) (k := (!·)) (X := X) (op := .NotEq) op_ne (op_neD hu)
end
end DL

/-! ## DOps2 -/
set_option Elab.async false
set_option autoImplicit false
set_option linter.all false
set_option maxRecDepth 100000
set_option maxHeartbeats 2000000
/-! DOps2: subscripts, slices, in, calls of built-ins, in terms of plain data. -/
namespace DL
open PySem PySem.Spec PyProof.Rows L2
section
variable {X : Cx} {c : C}

/-! ### subscripts, slices -/
theorem ix_d : IxR X (oD c dIx) := by
  intro value slice pins s σ H x y v u Q I rx ry h hs
  obtain ⟨F, d, e, d', g, g', le, gen, r1, r2, o, q⟩ := h
  unfold dIx at o
  split at o
  · rename_i xs i
    split at o
    · rename_i w hw
      obtain ⟨rfl, rfl⟩ := ok_pure.mp o
      obtain ⟨a, vs, rfl, ea, ra⟩ := r1.lst le
      have a2 := r2.rep rfl
      cases a2
      obtain ⟨j, hj, hw⟩ := Option.bind_eq_some_iff.mp hw
      obtain ⟨z, hz, rz⟩ := ra.get hw
      refine ix_list value slice pins s σ H _ _ v u Q I rx ry ⟨a, vs, i, z, rfl, rfl, SqL.of ea, ?_, q z F H (.refl le gen) rz⟩ hs
      show (ixN vs.length i).bind _ = _
      rw [ra.length]
      exact (congrArg (fun o => Option.bind o fun j => vs[j]?) hj).trans hz
    · exact absurd o not_ok_stuck
  · rename_i xs i
    split at o
    · rename_i w hw
      obtain ⟨rfl, rfl⟩ := ok_pure.mp o
      have a1 := r1.rep rfl
      have a2 := r2.rep rfl
      cases a2
      cases a1 with
      | @tup _ a vs _ ea ra =>
        obtain ⟨j, hj, hw⟩ := Option.bind_eq_some_iff.mp hw
        obtain ⟨z, hz, rz⟩ := ra.get hw
        refine ix_tup value slice pins s σ H _ _ v u Q I rx ry ⟨a, vs, i, z, rfl, rfl, SqT.of (le _ _ ea), ?_, q z F H (.refl le gen) rz⟩ hs
        show (ixN vs.length i).bind _ = _
        rw [ra.length]
        exact (congrArg (fun o => Option.bind o fun j => vs[j]?) hj).trans hz
    · exact absurd o not_ok_stuck
  · exact absurd o not_ok_stuck
theorem cut_eq (vs : List V) (lo hi : Option Int) : cutV vs lo hi = cut vs lo hi := by
  have e : ∀ n d o, HT.sIx n d o = cutEnd n d o := fun n d o => by cases o <;> rfl
  unfold cutV cut
  rw [e, e]
theorem cut_rep {F : Hp} {vs : List V} {ds : List D} (r : RepAll c F vs ds) (lo hi : Option Int) : RepAll c F (cut vs lo hi) (cut ds lo hi) := by
  unfold cut
  rw [r.length]
  exact (r.drop _).take _
def sD (c : C) : V → Option Int → Option Int → Hp → VK → Prop := fun x lo hi H Q => ∃ F d d' g g', Same F H ∧ GenOk c F H g ∧ RepB c F H x d ∧ Ok (dCut d lo hi) g d' g' ∧ ∀ v F' H', Stp c F H F' H' g' → Rep c F' v d' → Q v H'
theorem sl_d : SlR X (sD c) := by
  intro pins s σ H x v vl vu lo hi sl Q I rx hs pl pu h
  obtain ⟨F, d, d', g, g', le, gen, r1, o, q⟩ := h
  unfold dCut at o
  split at o
  · obtain ⟨rfl, rfl⟩ := ok_pure.mp o
    obtain ⟨a, vs, rfl, ea, ra⟩ := r1.lst le
    refine sl_list pins s σ H _ v vl vu lo hi sl Q I rx hs pl pu ⟨a, vs, rfl, SqL.of ea, fun p hp => ?_⟩
    rw [cut_eq]
    exact q _ _ _ (Stp.lay le gen hp) (.lst upd_same ((cut_rep ra lo hi).up (Stp.lay (o := .lst (cut vs lo hi)) le gen hp).sub))
  · exact absurd o not_ok_stuck

/-! ### in -/
theorem imm_flat {F : Hp} {v : V} {d : D} (h : d.imm = true) (r : Rep c F v d) : flatV v = true := by
  cases d <;> first | (cases h; done) | (cases r; rfl)
theorem imm_rep {F H : Hp} {v : V} {d : D} (h : d.imm = true) (r : RepB c F H v d) : Rep c F v d := r.rep (by cases d <;> first | rfl | (cases h; done))
theorem imms_flat {F : Hp} : ∀ {vs : List V} {ds : List D}, ds.all D.imm = true → RepAll c F vs ds → vs.all flatV = true
  | _, [], _, r => by cases r; rfl
  | _, d :: ds, h, r => by
    cases r with
    | cons r1 r2 =>
      rw [List.all_cons, Bool.and_eq_true] at h ⊢
      exact ⟨imm_flat h.1 r1, imms_flat h.2 r2⟩
theorem eqV_py {F : Hp} {y x : V} {e d : D} (he : e.imm = true) (hd : d.imm = true) (ry : Rep c F y e) (rx : Rep c F x d) : eqV y x = PyData.eqv e.py d.py := by
  cases e <;> first | (cases he; done) | (cases ry <;> cases d <;> first | (cases hd; done) | (cases rx <;> simp [eqV, D.py, PyData.eqv]))
theorem inV_py {F : Hp} {x : V} {d : D} (hd : d.imm = true) (rx : Rep c F x d) : ∀ {vs : List V} {ds : List D}, ds.all D.imm = true → RepAll c F vs ds → inV x vs = ds.any fun y => PyData.eqv y.py d.py
  | _, [], _, r => by cases r; rfl
  | _, e :: ds, h, r => by
    cases r with
    | cons r1 r2 =>
      rw [List.all_cons, Bool.and_eq_true] at h
      have ih := inV_py hd rx h.2 r2
      unfold inV at ih ⊢
      rw [List.any_cons, List.any_cons, eqV_py h.1 hd r1 rx, ih]
theorem any_pys (d : PyData) : ∀ ys : List D, ((pys ys).any fun z => PyData.eqv z d) = ys.any fun y => PyData.eqv y.py d
  | [] => rfl
  | y :: ys => by rw [pys, List.any_cons, List.any_cons, any_pys d ys]
theorem in_run {op : CmpOp} {neg : Bool} {k : Bool → Bool} (hk : ∀ b, (if neg then !b else b) = k b) (hf : OpR X (compareOp op) (rIn X.K neg))
    (hd : OpR X (compareOp op) (fun x y H Q => ∃ d ds, Dp X.K H x d ∧ Dp X.K H y (.list ds) ∧ SeqAt.shaped d = true ∧ SeqAt.shaped (.list ds) = true ∧ Q (.bl (k (ds.any fun z => PyData.eqv z d))) H))
    {f : D → D → M D} (ff : ∀ x d, f x d = match d with
      | .lst ys => liftB ((inB x ys).map k)
      | .tup ys => if x.imm && ys.all D.imm then liftB ((inB x ys).map k) else stuck
      | _ => stuck) : OpR X (compareOp op) (oD c f) := by
  intro pins s σ H x y v u Q I rx ry h
  obtain ⟨F, d, e, d', g, g', le, gen, r1, r2, o, q⟩ := h
  rw [ff] at o
  split at o
  · rename_i ys
    cases hb : inB d ys with
    | none => rw [hb] at o; exact absurd o not_ok_stuck
    | some b =>
      rw [hb] at o
      obtain ⟨rfl, rfl⟩ := ok_pure.mp o
      unfold inB at hb
      obtain ⟨a, vs, rfl, ea, ra⟩ := r2.lst le
      split at hb
      · rename_i hc
        rw [Bool.and_eq_true] at hc
        cases hb
        have a1 := imm_rep hc.1 r1
        refine hf pins s σ H _ _ v u Q I rx ry ⟨a, vs, rfl, .inl (SqL.of ea), imm_flat hc.1 a1, imms_flat hc.2 ra, ?_⟩
        rw [inV_py hc.1 a1 hc.2 ra, hk]
        exact q _ F H (.refl le gen) (.bl _)
      · split at hb
        · rename_i hc
          rw [Bool.and_eq_true] at hc
          cases hb
          have hl : (D.lst ys).cl 60 = true := by simpa [D.cl] using hc.2
          refine hd pins s σ H _ _ v u Q I rx ry ⟨d.py, pys ys, dp_b le hc.1 r1, dp_b le hl r2, cl_shaped hc.1 (by decide), cl_shaped hl (by decide), ?_⟩
          rw [any_pys]
          exact q _ F H (.refl le gen) (.bl _)
        · cases hb
  · rename_i ys
    split at o
    · rename_i hc
      cases hb : inB d ys with
      | none => rw [hb] at o; exact absurd o not_ok_stuck
      | some b =>
        rw [hb] at o
        obtain ⟨rfl, rfl⟩ := ok_pure.mp o
        unfold inB at hb
        rw [if_pos hc] at hb
        rw [Bool.and_eq_true] at hc
        cases hb
        have a1 := imm_rep hc.1 r1
        have a2 := r2.rep rfl
        cases a2 with
        | tup ea ra =>
          refine hf pins s σ H _ _ v u Q I rx ry ⟨_, _, rfl, .inr (SqT.of (le _ _ ea)), imm_flat hc.1 a1, imms_flat hc.2 ra, ?_⟩
          rw [inV_py hc.1 a1 hc.2 ra, hk]
          exact q _ F H (.refl le gen) (.bl _)
    · exact absurd o not_ok_stuck
  · exact absurd o not_ok_stuck
theorem in_d (hu : X.A.units + 65 < cLine) : OpR X (compareOp .In) (oD c dIn) := in_run (k := id) (neg := false) (fun b => rfl) op_in_seq (op_inD hu) fun x d => by
  have e : ∀ o : Option Bool, o.map id = o := fun o => by cases o <;> rfl
  simp only [e, dIn]
  all_goals (cases d <;> rfl)
theorem notIn_d (hu : X.A.units + 65 < cLine) : OpR X (compareOp .NotIn) (oD c dNotIn) := in_run (k := (!·)) (neg := true) (fun b => rfl) op_notIn_seq (op_notInD hu) fun x d => by
  unfold dNotIn
  cases d <;> rfl

/-! ### is None -/
theorem isN_rep : ∀ (d : D) {F : Hp} {v : V}, Rep c F v d → decide (v = V.non) = d.isNon
  | .bor d, _, _, r => by
    cases r with
    | bor q => exact isN_rep d q
  | .non, _, _, r => by cases r; rfl
  | .bl _, _, _, r => by cases r; rfl
  | .int _, _, _, r => by cases r; rfl
  | .str _, _, _, r => by cases r; rfl
  | .lst _, _, _, r => by cases r; rfl
  | .tup _, _, _, r => by cases r; rfl
  | .dct _, _, _, r => by cases r; rfl
  | .dset _, _, _, r => by cases r; rfl
  | .gen, _, _, r => by cases r; rfl
  | .fn _, _, _, r => by cases r; rfl
  | .exc _ _, _, _, r => by cases r; rfl
  | .thr _ _, _, _, r => by cases r
theorem isN_val {F H : Hp} {v : V} {d : D} (r : RepB c F H v d) : decide (v = V.non) = d.isNon := by
  rcases r with r | ⟨a, vs, ds, rfl, rfl, _⟩
  · exact isN_rep d r
  · rfl

/-! ### calls of built-ins -/
theorem len_c : CallR X (.builtin "len") (c1 c dLen) := by
  intro pins s σ H xs us Q I r h
  obtain ⟨x, rfl, F, d, d', g, g', le, gen, rb, o, q⟩ := h
  unfold dLen at o
  split at o
  · obtain ⟨rfl, rfl⟩ := ok_pure.mp o
    obtain ⟨a, vs, rfl, ea, ra⟩ := rb.lst le
    refine call_len_seq pins s σ H _ us Q I r ⟨a, vs, rfl, .inl (SqL.of ea), ?_⟩
    rw [ra.length]
    exact q _ F H (.refl le gen) (.int _)
  · obtain ⟨rfl, rfl⟩ := ok_pure.mp o
    have a1 := rb.rep rfl
    cases a1 with
    | tup ea ra =>
      refine call_len_seq pins s σ H _ us Q I r ⟨_, _, rfl, .inr (SqT.of (le _ _ ea)), ?_⟩
      rw [ra.length]
      exact q _ F H (.refl le gen) (.int _)
  · split at o
    · rename_i hl
      obtain ⟨rfl, rfl⟩ := ok_pure.mp o
      have a1 := rb.rep rfl
      cases a1
      exact call_len_str pins s σ H _ us Q I r ⟨_, rfl, lim_le hl, q _ F H (.refl le gen) (.int _)⟩
    · exact absurd o not_ok_stuck
  · exact absurd o not_ok_stuck
theorem abs_c : CallR X (.builtin "abs") (c1 c dAbs) := by
  intro pins s σ H xs us Q I r h
  obtain ⟨x, rfl, F, d, d', g, g', le, gen, rb, o, q⟩ := h
  unfold dAbs at o
  split at o
  · obtain ⟨rfl, rfl⟩ := ok_pure.mp o
    have a1 := rb.rep rfl
    cases a1
    exact call_abs pins s σ H _ us Q I r ⟨_, rfl, q _ F H (.refl le gen) (.int _)⟩
  · exact absurd o not_ok_stuck
/-- int(n) -/
def dInt (d : D) : M D := match d with
  | .int i => pure (.int i)
  | _ => stuck
theorem int_c : CallR X (.type "int") (c1 c dInt) := by
  intro pins s σ H xs us Q I r h
  obtain ⟨x, rfl, F, d, d', g, g', le, gen, rb, o, q⟩ := h
  unfold dInt at o
  split at o
  · obtain ⟨rfl, rfl⟩ := ok_pure.mp o
    have a1 := rb.rep rfl
    cases a1
    exact call_int1 pins s σ H _ us Q I r (.inl ⟨_, rfl, q _ F H (.refl le gen) (.int _)⟩)
  · exact absurd o not_ok_stuck
def dMax2 (d e : D) : M D := match d, e with
  | .int i, .int j => pure (.int (if j > i then j else i))
  | _, _ => stuck
def dMin2 (d e : D) : M D := match d, e with
  | .int i, .int j => pure (.int (if j < i then j else i))
  | _, _ => stuck
theorem max2_c (hc : X.calm = true) : CallR X (.builtin "max") (c2 c dMax2) := by
  intro pins s σ H xs us Q I r h
  obtain ⟨x, y, rfl, F, d, e, d', g, g', le, gen, r1, r2, o, q⟩ := h
  unfold dMax2 at o
  split at o
  · obtain ⟨rfl, rfl⟩ := ok_pure.mp o
    have a1 := r1.rep rfl
    have a2 := r2.rep rfl
    cases a1; cases a2
    exact call_max2 hc pins s σ H _ us Q I r ⟨_, _, rfl, q _ F H (.refl le gen) (.int _)⟩
  · exact absurd o not_ok_stuck
theorem min2_c (hc : X.calm = true) : CallR X (.builtin "min") (c2 c dMin2) := by
  intro pins s σ H xs us Q I r h
  obtain ⟨x, y, rfl, F, d, e, d', g, g', le, gen, r1, r2, o, q⟩ := h
  unfold dMin2 at o
  split at o
  · obtain ⟨rfl, rfl⟩ := ok_pure.mp o
    have a1 := r1.rep rfl
    have a2 := r2.rep rfl
    cases a1; cases a2
    exact call_min2 hc pins s σ H _ us Q I r ⟨_, _, rfl, q _ F H (.refl le gen) (.int _)⟩
  · exact absurd o not_ok_stuck
theorem all_c (hc : X.calm = true) : CallR X (.builtin "all") (c1 c dAll) := by
  intro pins s σ H xs us Q I r h
  obtain ⟨x, rfl, F, d, d', g, g', le, gen, rb, o, q⟩ := h
  unfold dAll at o
  split at o
  · split at o
    · rename_i bs hb
      obtain ⟨rfl, rfl⟩ := ok_pure.mp o
      obtain ⟨a, vs, rfl, ea, ra⟩ := rb.lst le
      rw [bools_map hb] at ra
      obtain rfl := ra.ofBools
      exact cr_all hc pins s σ H _ us Q I r ⟨a, bs, rfl, SqL.of ea, q _ F H (.refl le gen) (.bl _)⟩
    · exact absurd o not_ok_stuck
  · exact absurd o not_ok_stuck
theorem any_c (hc : X.calm = true) : CallR X (.builtin "any") (c1 c dAny) := by
  intro pins s σ H xs us Q I r h
  obtain ⟨x, rfl, F, d, d', g, g', le, gen, rb, o, q⟩ := h
  unfold dAny at o
  split at o
  · split at o
    · rename_i bs hb
      obtain ⟨rfl, rfl⟩ := ok_pure.mp o
      obtain ⟨a, vs, rfl, ea, ra⟩ := rb.lst le
      rw [bools_map hb] at ra
      obtain rfl := ra.ofBools
      exact cr_any hc pins s σ H _ us Q I r ⟨a, bs, rfl, SqL.of ea, q _ F H (.refl le gen) (.bl _)⟩
    · exact absurd o not_ok_stuck
  · exact absurd o not_ok_stuck
theorem sum_c (hc : X.calm = true) : CallR X (.builtin "sum") (c1 c dSum) := by
  intro pins s σ H xs us Q I r h
  obtain ⟨x, rfl, F, d, d', g, g', le, gen, rb, o, q⟩ := h
  unfold dSum at o
  split at o
  · split at o
    · rename_i bs hb
      obtain ⟨rfl, rfl⟩ := ok_pure.mp o
      obtain ⟨a, vs, rfl, ea, ra⟩ := rb.lst le
      rw [ints_map hb] at ra
      obtain rfl := ra.ofInts
      exact cr_sum hc pins s σ H _ us Q I r ⟨a, bs, rfl, SqL.of ea, q _ F H (.refl le gen) (.int _)⟩
    · exact absurd o not_ok_stuck
  · exact absurd o not_ok_stuck
theorem list_c : CallR X (.type "list") (c1 c dList) := by
  intro pins s σ H xs us Q I r h
  obtain ⟨x, rfl, F, d, d', g, g', le, gen, rb, o, q⟩ := h
  unfold dList at o
  split at o
  · obtain ⟨rfl, rfl⟩ := ok_pure.mp o
    obtain ⟨a, vs, rfl, ea, ra⟩ := rb.lst le
    exact call_list_of pins s σ H _ us Q I r ⟨a, vs, rfl, .inl (SqL.of ea), fun p hp => q _ _ _ (Stp.lay le gen hp) (.lst upd_same (ra.up (Stp.lay (o := .lst vs) le gen hp).sub))⟩
  · obtain ⟨rfl, rfl⟩ := ok_pure.mp o
    have a1 := rb.rep rfl
    cases a1 with
    | tup ea ra => exact call_list_of pins s σ H _ us Q I r ⟨_, _, rfl, .inr (SqT.of (le _ _ ea)), fun p hp => q _ _ _ (Stp.lay le gen hp) (.lst upd_same (ra.up (Stp.lay (o := .lst _) le gen hp).sub))⟩
  · exact absurd o not_ok_stuck
theorem tuple_c : CallR X (.type "tuple") (c1 c dTuple) := by
  intro pins s σ H xs us Q I r h
  obtain ⟨x, rfl, F, d, d', g, g', le, gen, rb, o, q⟩ := h
  unfold dTuple at o
  split at o
  · obtain ⟨rfl, rfl⟩ := ok_pure.mp o
    obtain ⟨a, vs, rfl, ea, ra⟩ := rb.lst le
    exact call_tuple_of pins s σ H _ us Q I r ⟨a, vs, rfl, .inl ⟨SqL.of ea, fun p hp => q _ _ _ (Stp.lay le gen hp) (.tup upd_same (ra.up (Stp.lay (o := .tup vs) le gen hp).sub))⟩⟩
  · obtain ⟨rfl, rfl⟩ := ok_pure.mp o
    have a1 := rb.rep rfl
    cases a1 with
    | tup ea ra => exact call_tuple_of pins s σ H _ us Q I r ⟨_, _, rfl, .inr ⟨SqT.of (le _ _ ea), q _ F H (.refl le gen) (.tup ea ra)⟩⟩
  · exact absurd o not_ok_stuck

/-! ### repr -/
theorem repr_c (hg : X.A.guards = some []) (hu : X.A.units + 65 < cLine) : CallR X (.builtin "repr") (c1 c dRepr) := by
  intro pins s σ H xs us Q I rv h
  obtain ⟨x, rfl, F, d, d', g, g', le, gen, r, o, q⟩ := h
  obtain ⟨u, rfl, rx⟩ := Vals.one rv
  unfold dRepr at o
  split at o
  · rename_i hh
    obtain ⟨rfl, rfl⟩ := ok_pure.mp o
    rw [Bool.and_eq_true] at hh
    have hz : d.py.shown.length ≤ sizeLine := lim_le hh.2
    have q : Q (.str d.py.shown) H := q _ F H (.refl le gen) (.str _)
    have big : ∀ a, u = .ref a → d.cl 60 = true → wpAny (model X.prog X.w) X.A (call (.builtin "repr") [u]) (EP X pins σ Q) X.xe s := fun a e hc => by
      obtain ⟨as, ra⟩ := reads_of I le hc r rx
      obtain ⟨_, h2, h3, h4⟩ := cl_lay 60 d hc
      subst e
      exact repr_of_reads' ra h3 (PyData.noDict_hsm h4) hg (by omega) (fun _ _ e => e) (fun h' w tk hk => ⟨.str d.py.shown, H, I.kept hk, ⟨_, rfl⟩, q⟩) hz
    cases d with
    | lst ds =>
      obtain ⟨a, vs, rfl, _⟩ := r.lst le
      exact big a rx hh.1
    | tup ds =>
      have a1 := r.rep rfl
      cases a1
      exact big _ rx hh.1
    | non =>
      have a1 := r.rep rfl
      cases a1
      cases rx
      exact PySem.P.repr_of_none ⟨.str D.non.py.shown, H, I.tok _, ⟨_, rfl⟩, q⟩
    | bl b =>
      have a1 := r.rep rfl
      cases a1
      cases rx
      refine PySem.P.repr_of_bool ⟨.str (D.bl b).py.shown, H, I.tok _, ⟨s.toks, ?_⟩, q⟩
      cases b <;> rfl
    | int i =>
      have a1 := r.rep rfl
      cases a1
      obtain ⟨t, rfl⟩ := rx
      have hc : i.natAbs.log2 < 1920 := by simpa [D.rp, D.cl] using hh.1
      exact PySem.P.repr_of_int hc ⟨.str (D.int i).py.shown, H, I.tok _, ⟨_, rfl⟩, q⟩
    | str z =>
      have a1 := r.rep rfl
      cases a1
      obtain ⟨t, rfl⟩ := rx
      exact PySem.P.repr_of_str ⟨.str (D.str z).py.shown, H, I.tok _, ⟨_, rfl⟩, q⟩ hz
    | dct kvs =>
      have a1 := r.rep rfl
      cases a1 with
      | @dct0 _ a ea =>
        obtain ⟨_, hs, vs, kv, o, es, ep, e1, e2, e3, _, e4, _⟩ := I.hok a _ (le _ _ ea)
        cases rx
        cases kv
        have en : es.toList = [] := by
          cases e5 : es.toList with
          | nil => rfl
          | cons x r => rw [e5] at e4; cases e4
        have rd : Reads s.heap (.ref a) (.dict []) ([a] ++ [] ++ []) := Reads.dict e1 e2.1 e3 (by rw [en]; exact .nil) (by rw [en]; exact .nil)
        refine repr_of_reads' rd rfl (fun _ hm => ?_) hg (by simp [PyData.depth, PyData.depthKv]; omega) (fun _ _ e => e) (fun h' w tk hk => ⟨.str (D.dct []).py.shown, H, I.kept hk, ⟨_, rfl⟩, q⟩) hz
        have ha : sysModules = a := by simpa using hm
        rw [ha] at hs
        simp at hs
    | gen => simp [D.rp, D.cl] at hh
    | fn _ => simp [D.rp, D.cl] at hh
    | exc _ _ => simp [D.rp, D.cl] at hh
    | thr _ _ => simp [D.rp, D.cl] at hh
    | bor _ => simp [D.rp, D.cl] at hh
    | dset _ => simp [D.rp, D.cl] at hh
  · exact absurd o not_ok_stuck

/-! ### isinstance -/
theorem kitB_of : ∀ (a b : String), a ∈ ["NoneType", "bool", "int", "str", "list", "tuple", "dict"] → b ∈ ["bool", "int", "str", "list", "tuple", "dict"] → ∃ r, kitB a b = some r ∧ (∀ d : D, d.ty = some a → r = isTy d b) := by
  intro a b ha hb
  simp only [List.mem_cons, List.mem_nil_iff, or_false] at ha hb
  rcases ha with rfl | rfl | rfl | rfl | rfl | rfl | rfl <;> rcases hb with rfl | rfl | rfl | rfl | rfl | rfl <;>
    first
    | exact ⟨true, by decide +kernel, fun d hd => by cases d <;> first | rfl | (simp [D.ty] at hd)⟩
    | exact ⟨false, by decide +kernel, fun d hd => by cases d <;> first | rfl | (simp [D.ty] at hd)⟩
end
end DL

/-! ## DOps3 -/
set_option Elab.async false
set_option autoImplicit false
set_option linter.all false
set_option maxRecDepth 100000
set_option maxHeartbeats 2000000
/-! DOps3: isinstance, list.index, sorted, in terms of plain data. -/
namespace DL
open PySem PySem.Spec PyProof.Rows L2
section
variable {X : Cx} {c : C}
/-! ### isinstance -/
theorem tyx_of (K : PySem.W.Frag) {F H : Hp} (le : Same F H) {v : V} {d : D} {t : String} (h : d.ty = some t) (r : RepB c F H v d) : TyX K H v (.type t) := by
  rcases r with r | ⟨a, vs, ds, rfl, rfl, e, _⟩
  · cases r with
    | non => cases h; exact .base .non
    | bl b => cases h; exact .base (.bl b)
    | int i => cases h; exact .base (.int i)
    | str x => cases h; exact .base (.str x)
    | lst e _ => cases h; exact .base (.lst (le _ _ e))
    | tup e _ => cases h; exact .base (.tup (le _ _ e))
    | dct0 e => cases h; exact .base (.dK (le _ _ e))
    | gen _ => cases h
    | fn _ => cases h
    | exc _ _ _ _ => cases h
    | bor _ => cases h
    | dset _ _ _ => cases h
  · cases h; exact .base (.lst e)
theorem ty_mem {d : D} {t : String} (h : d.ty = some t) : t ∈ ["NoneType", "bool", "int", "str", "list", "tuple", "dict"] := by
  cases d <;> first | (cases h; done) | (cases h; decide)
/-- isinstance(x, T) -/
def isi1 (c : C) (t : String) : List V → Hp → VK → Prop := fun xs H Q => ∃ x, xs = [x, .ty t] ∧ uD c (fun d => dIsI d t) x H Q
theorem isi_c {t : String} (ht : t ∈ ["bool", "int", "str", "list", "tuple", "dict"]) : CallR X (.builtin "isinstance") (isi1 c t) := by
  intro pins s σ H xs us Q I rv h
  obtain ⟨x, rfl, F, d, d', g, g', le, gen, r, o, q⟩ := h
  have o : Ok (dIsI d t) g d' g' := o
  unfold dIsI at o
  split at o
  · rename_i ty hty
    obtain ⟨rfl, rfl⟩ := ok_pure.mp o
    obtain ⟨b, hb, hb2⟩ := kitB_of ty t (ty_mem hty) ht
    refine call_isi pins s σ H _ us Q I rv ⟨x, .ty t, .type ty, .type t, b, rfl, .ty t, tyx_of X.K le hty r, kit_ty hb, ?_⟩
    rw [hb2 d hty]
    exact q _ F H (.refl le gen) (.bl _)
  · exact absurd o not_ok_stuck
/-- isinstance(x, (T, U)) -/
def isi2 (c : C) (t u : String) : List V → Hp → VK → Prop := fun xs H Q => ∃ x p, xs = [x, .ref p] ∧ H p = some (.tup [.ty t, .ty u]) ∧ uD c (fun d => dIsI2 d t u) x H Q
theorem isi2_c {t u : String} (ht : t ∈ ["bool", "int", "str", "list", "tuple", "dict"]) (hu : u ∈ ["bool", "int", "str", "list", "tuple", "dict"]) : CallR X (.builtin "isinstance") (isi2 c t u) := by
  intro pins s σ H xs us Q I rv h
  obtain ⟨x, p, rfl, hp, F, d, d', g, g', le, gen, r, o, q⟩ := h
  have o : Ok (dIsI2 d t u) g d' g' := o
  unfold dIsI2 at o
  split at o
  · rename_i ty hty
    obtain ⟨rfl, rfl⟩ := ok_pure.mp o
    obtain ⟨b, hb, hb2⟩ := kitB_of ty t (ty_mem hty) ht
    obtain ⟨b', hb', hb2'⟩ := kitB_of ty u (ty_mem hty) hu
    have e1 := hb2 d hty
    have e2 := hb2' d hty
    refine call_isiT pins s σ H _ us Q I rv ⟨x, p, [.ty t, .ty u], .type ty, [.type t, .type u], isTy d t || isTy d u, rfl, hp, .cons (.ty t) (.cons (.ty u) .nil), tyx_of X.K le hty r, ?_, q _ F H (.refl le gen) (.bl _)⟩
    refine kitAny_cons (kit_ty hb) (fun e => kitAny_cons (kit_ty hb') (fun e' => ?_) (fun e' => ?_)) fun e => ?_
    · rw [← e1, ← e2, e, e']; exact kitAny_nil
    · rw [← e1, ← e2, e']; simp
    · rw [← e1, e]; rfl
  · exact absurd o not_ok_stuck

/-! ### list.index -/
theorem idxOf_spec {x : D} : ∀ {ys : List D} {j : Nat}, idxOf? x ys = some j → ∃ y, ys[j]? = some y ∧ PyData.eqv y.py x.py = true ∧ ∀ (m : Nat) (z : D), m < j → ys[m]? = some z → PyData.eqv z.py x.py = false
  | [], _, h => by cases h
  | y :: ys, j, h => by
    unfold idxOf? at h
    split at h
    · rename_i e
      cases h
      exact ⟨y, rfl, e, fun m z hm => absurd hm (Nat.not_lt_zero _)⟩
    · rename_i e
      obtain ⟨k, hk, rfl⟩ := Option.map_eq_some_iff.mp h
      obtain ⟨z, h1, h2, h3⟩ := idxOf_spec hk
      refine ⟨z, by simpa using h1, h2, fun m w hm hw => ?_⟩
      cases m with
      | zero =>
        have e2 : y = w := by simpa using hw
        subst e2
        simpa using e
      | succ m => exact h3 m w (by omega) (by simpa using hw)
def m1 (c : C) (f : D → D → M D) : V → List V → Hp → VK → Prop := fun x xs H Q => ∃ y, xs = [y] ∧ oD c f x y H Q
theorem index_m : MtR X "list.index" (m1 c dIndex) := by
  intro pins s σ H x xs v us Q I rx rxs h
  obtain ⟨y, rfl, F, d, e, d', g, g', le, gen, r1, r2, o, q⟩ := h
  unfold dIndex at o
  split at o
  · rename_i ys
    split at o
    · rename_i hc
      rw [Bool.and_eq_true] at hc
      split at o
      · rename_i j hj
        obtain ⟨rfl, rfl⟩ := ok_pure.mp o
        obtain ⟨a, vs, rfl, ea, ra⟩ := r1.lst le
        have a2 := imm_rep hc.1 r2
        obtain ⟨z, h1, h2, h3⟩ := idxOf_spec hj
        obtain ⟨w, hw, rw⟩ := ra.get h1
        have mem : ∀ {k : Nat} {u : D}, ys[k]? = some u → u.imm = true := fun {k u} hk => List.all_eq_true.mp hc.2 u (List.mem_of_getElem? hk)
        refine mt_index pins s σ H _ _ v us Q I rx rxs ⟨a, vs, y, j, w, rfl, rfl, SqL.of ea, imm_flat hc.1 a2, imms_flat hc.2 ra, hw, ?_, fun m u hm hu => ?_, q _ F H (.refl le gen) (.int _)⟩
        · rw [eqV_py (mem h1) hc.1 rw a2]; exact h2
        · obtain ⟨t, ht, rt⟩ := ra.getV hu
          rw [eqV_py (mem ht) hc.1 rt a2]; exact h3 m t hm ht
      · exact absurd o not_ok_stuck
    · exact absurd o not_ok_stuck
  · exact absurd o not_ok_stuck

/-! ### sorted -/
theorem repAll_of {F : Hp} : ∀ {ps : List (V × D)}, (∀ p ∈ ps, Rep c F p.1 p.2) → RepAll c F (ps.map (·.1)) (ps.map (·.2))
  | [], _ => .nil
  | p :: ps, h => .cons (h p List.mem_cons_self) (repAll_of fun q hq => h q (List.mem_cons_of_mem _ hq))
theorem repAll_mem {F : Hp} : ∀ {vs : List V} {ds : List D}, RepAll c F vs ds → ∀ p ∈ vs.zip ds, Rep c F p.1 p.2
  | _, _, .nil, p, hp => by simp at hp
  | _, _, .cons r t, p, hp => by
    rcases List.mem_cons.mp hp with rfl | hp
    · exact r
    · exact repAll_mem t p hp
theorem each_of : ∀ {vs : List V} {ds : List D} {its : List Value}, vs.length = ds.length → Vals vs its → PySem.W.EachIs (fun (v : Value) (b : V × D) => RelV b.1 v) its (vs.zip ds)
  | [], [], _, _, .nil => .nil
  | v :: vs, d :: ds, _, h, .cons r t => .cons r (each_of (by simpa using h) t)
theorem each_vals : ∀ {its : List Value} {bs : List (V × D)}, PySem.W.EachIs (fun (v : Value) (b : V × D) => RelV b.1 v) its bs → Vals (bs.map (·.1)) its
  | _, _, .nil => .nil
  | _, _, .cons r t => .cons r (each_vals t)
theorem each_both {α β : Type} {R S : α → β → Prop} : ∀ {as : List α} {bs : List β}, PySem.W.EachIs R as bs → (∀ a b, a ∈ as → b ∈ bs → R a b → S a b) → PySem.W.EachIs S as bs
  | _, _, .nil, _ => .nil
  | _, _, .cons r t, h => .cons (h _ _ List.mem_cons_self List.mem_cons_self r) (each_both t fun a b ha hb => h a b (List.mem_cons_of_mem _ ha) (List.mem_cons_of_mem _ hb))
theorem sorted_c (hu : X.A.units + 65 < cLine) : CallR X (.builtin "sorted") (c1 c dSorted) := by
  intro pins s σ H xs us Q I rv h
  obtain ⟨x, rfl, F, d, d', g, g', le, gen, r, o, q⟩ := h
  unfold dSorted at o
  split at o
  · rename_i ds
    split at o
    · rename_i hs
      obtain ⟨rfl, rfl⟩ := ok_pure.mp o
      obtain ⟨a, vs, rfl, ea, ra⟩ := r.lst le
      rw [Vals.ref1 rv]
      obtain ⟨its, rvs, pl, hz⟩ := I.list (SqL.of ea)
      unfold sortableB at hs
      rw [Bool.and_eq_true, Bool.and_eq_true] at hs
      obtain ⟨⟨h1, h2⟩, h3⟩ := hs
      have cl : ∀ e ∈ ds, e.cl 60 = true := fun e he => List.all_eq_true.mp h1 e he
      have hal : PySem.W.AllAlike ((vs.zip ds).map fun b => b.2.py) := by
        intro e he f hf
        obtain ⟨p, hp, rfl⟩ := List.mem_map.mp he
        obtain ⟨p', hp', rfl⟩ := List.mem_map.mp hf
        exact List.all_eq_true.mp (List.all_eq_true.mp h2 _ (List.of_mem_zip hp).2) _ (List.of_mem_zip hp').2
      have hk : PySem.W.Sortable ((vs.zip ds).map fun b => b.2.py) := by
        rw [Bool.or_eq_true] at h3
        rcases h3 with h3 | h3
        · refine .inl fun e he => ?_
          obtain ⟨p, hp, rfl⟩ := List.mem_map.mp he
          have t := List.all_eq_true.mp h3 _ (List.of_mem_zip hp).2
          generalize p.2 = z at t
          cases z with
          | tup l => cases l with
            | nil => cases t
            | cons y l => exact ⟨y.py, pys l, by simp [D.py, pys]⟩
          | _ => cases t
        · refine .inr fun e he => ?_
          obtain ⟨p, hp, rfl⟩ := List.mem_map.mp he
          have t := List.all_eq_true.mp h3 _ (List.of_mem_zip hp).2
          have k := cl _ (List.of_mem_zip hp).2
          generalize p.2 = z at t k
          cases z with
          | tup l => cases t
          | non => cases t
          | dct _ => simp [D.cl] at k
          | gen => simp [D.cl] at k
          | fn _ => simp [D.cl] at k
          | exc _ _ => simp [D.cl] at k
          | thr _ _ => simp [D.cl] at k
          | bor _ => simp [D.cl] at k
          | dset _ => simp [D.cl] at k
          | bl _ => simp [D.py]
          | int _ => simp [D.py]
          | str _ => simp [D.py]
          | lst _ => simp [D.py]
      have er := each_of ra.length rvs
      refine PySem.W.sorted_data (R := fun v (b : V × D) => RelV b.1 v) (enc := fun b : V × D => b.2.py) (bs := vs.zip ds) pl.isList er (each_both er fun v b _ hb rb => ?_) hal hk ?_ (fun b hb => ?_) fun out hl eo => ?_
      · exact reads_of I le (cl _ (List.of_mem_zip hb).2) (.inl (repAll_mem ra b hb)) rb
      · rw [List.length_zip, ra.length, Nat.min_self, ← ra.length]; exact hz
      · have := (cl_lay 60 b.2 (cl _ (List.of_mem_zip hb).2)).2.1
        show X.A.units + 2 + b.2.py.depth < cLine
        omega
      · obtain ⟨e, he⟩ := sortedAll_at s.heap its out.toArray
        have lenb : ((vs.zip ds).mergeSort (PySem.W.dataLe false fun b : V × D => b.2.py)).length ≤ sizeLine := by
          rw [List.length_mergeSort, List.length_zip, ra.length, Nat.min_self, ← ra.length]; exact hz
        have hp : H (s.heap.objs.size + 1) = none := I.hok.fresh (Nat.le_succ _)
        have st := Stp.lay (o := .lst (((vs.zip ds).mergeSort (PySem.W.dataLe false fun b : V × D => b.2.py)).map (·.1))) le gen hp
        refine ⟨.ref (s.heap.objs.size + 1), _, I.laid (t' := s.toks) (o := .lst (((vs.zip ds).mergeSort (PySem.W.dataLe false fun b : V × D => b.2.py)).map (·.1))) (fun b o e => sortedAll_old e) (Nat.le_succ _) ⟨by rw [List.length_map]; exact lenb, out, e, each_vals eo, he⟩, rfl, q _ _ _ st (.lst upd_same ?_)⟩
        have fin := repAll_of (c := c) (F := F) (ps := (vs.zip ds).mergeSort (PySem.W.dataLe false fun b : V × D => b.2.py)) fun p hp => repAll_mem ra p (List.mem_mergeSort.mp hp)
        have e2 : ((vs.zip ds).mergeSort (PySem.W.dataLe false fun b : V × D => b.2.py)).map (·.2) = ds.mergeSort leD := by
          rw [List.map_mergeSort (s := leD) (f := fun b : V × D => b.2)]
          · congr 1
            rw [List.map_snd_zip]
            exact Nat.le_of_eq ra.length.symm
          · intro p _ p' _
            rfl
        rw [e2] at fin
        exact fin.up st.sub
    · exact absurd o not_ok_stuck
  · exact absurd o not_ok_stuck
end
end DL

/-! ## DExp -/
set_option Elab.async false
set_option autoImplicit false
set_option linter.all false
set_option maxRecDepth 100000
set_option maxHeartbeats 2000000
/-! DExp: expressions, by plain data. -/
namespace DL
open PySem PySem.Spec PyProof.Rows L2
section
variable {X : Cx} {c : C} {a b e : Expr} {es : List Expr} {fa fb f : E} {fs : Es} {pos : Pos}

/-! ### two operands, one -/
theorem two_imp {h : D → D → M D} : ∀ σ H Q, tP c (eO h fa fb) σ H Q → tOp (oD c h) (tR c fa) (tR c fb) σ H Q := fun σ H Q ⟨H0, F, δ, g, d, g', w, o, q⟩ => by
  obtain ⟨x, g1, o1, o⟩ := ok_bind.mp o
  obtain ⟨y, g2, o2, o3⟩ := ok_bind.mp o
  exact ⟨H0, F, δ, g, x, g1, w, o1, fun v F1 H1 s1 r1 => ⟨H0, F1, δ, g1, y, g2, w.step s1, o2, fun u F2 H2 s2 r2 =>
    ⟨F2, x, y, d, g2, g', s2.le, s2.gen, r1.step s2, r2, o3, fun z F3 H3 s3 r3 => q z F3 H3 ((s1.trans s2).trans s3) r3⟩⟩⟩
theorem d_op {op : Operator} {h : D → D → M D} (ho : OpR X (binaryOp op) (oD c h)) (ha : PE X a (tR c fa)) (hb : PE X b (tR c fb)) : PE X (.BinOp a op b pos) (tP c (eO h fa fb)) := (pe_op ho ha hb).imp two_imp
theorem d_cmp {op : CmpOp} {h : D → D → M D} (ho : OpR X (compareOp op) (oD c h)) (ha : PE X a (tR c fa)) (hb : PE X b (tR c fb)) (hm : behindInMarks op b = false := by rfl) : PE X (.Compare a [op] [b] pos) (tP c (eO h fa fb)) := (pe_cmpR ho ha hb hm).imp two_imp
theorem d_ix (ha : PE X a (tR c fa)) (hb : PE X b (tR c fb)) (hs : PlainIx b := by exact fun _ _ => rfl) : PE X (.Subscript a b pos) (tP c (eO dIx fa fb)) := (pe_ix ix_d ha hb hs).imp two_imp
/-- a test: a value that is True or False -/
theorem d_test (h : PE X e (tR c f)) (he : ∀ whole, isTrue e X.env whole = (do let v ← whole; standAt e.pos; holding [v] (truthy v)) := by intro _; rfl) : PT X e (tT c f) := (pt_val h he).imp fun σ H Q ⟨H0, F, δ, g, d, g', w, o, q⟩ =>
  ⟨H0, F, δ, g, .bl d, g', w, o, fun v F' H' s r => by
    have r := r.rep rfl
    cases r
    exact ⟨d, rfl, q F' H' s⟩⟩
theorem dt_cmp {op : CmpOp} {h : D → D → M D} (ho : OpR X (compareOp op) (oD c h)) (ha : PE X a (tR c fa)) (hb : PE X b (tR c fb)) (hm : behindInMarks op b = false := by rfl) : PT X (.Compare a [op] [b] pos) (tT c (eO h fa fb)) := (pt_cmpR ho ha hb hm).imp fun σ H Q ⟨H0, F, δ, g, d, g', w, o, q⟩ =>
  two_imp σ H _ ⟨H0, F, δ, g, .bl d, g', w, o, fun v F' H' s r => by
    cases r
    exact ⟨d, rfl, q F' H' s⟩⟩
theorem dt_not (ha : PT X a (tT c fa)) : PT X (.UnaryOp .Not a pos) (tT c (eF dNot fa)) := (pt_not ha).imp fun σ H Q ⟨H0, F, δ, g, d, g', w, o, q⟩ => by
  obtain ⟨x, g1, o1, o2⟩ := ok_bind.mp o
  unfold dNot at o2
  split at o2
  · obtain ⟨e, rfl⟩ := ok_pure.mp o2
    cases e
    exact ⟨H0, F, δ, g, _, g1, w, o1, q⟩
  · exact absurd o2 not_ok_stuck
theorem dw_one_and (ha : PT X a (tT c fa)) : PW X (.BoolOp .And [a] pos) (tT c fa) := pw_and1 ha
theorem dw_one_or (ha : PT X a (tT c fa)) : PW X (.BoolOp .Or [a] pos) (tT c fa) := pw_or1 ha
theorem _root_.L2.PW.imp {X : Cx} {e : Expr} {t t' : TT} (h : PW X e t) (i : ∀ σ H Q, t' σ H Q → t σ H Q) : PW X e t' := ⟨fun wh pins s σ H Q I q => h.run wh pins s σ H Q I (i σ H Q q)⟩
theorem dw_and {b : Expr} {rest : List Expr} (ha : PT X a (tT c fa)) (hb : PW X (.BoolOp .And (b :: rest) pos) (tT c fb)) : PW X (.BoolOp .And (a :: b :: rest) pos) (tT c (eAnd fa fb)) := (pw_and ha hb).imp fun σ H Q ⟨H0, F, δ, g, d, g', w, o, q⟩ => by
  obtain ⟨x, g1, o1, o2⟩ := ok_bind.mp o
  split at o2
  · exact ⟨H0, F, δ, g, true, g1, w, o1, fun F1 H1 s1 => by
      refine iteT ?_
      exact ⟨H0, F1, δ, g1, d, g', w.step s1, o2, fun F2 H2 s2 => q F2 H2 (s1.trans s2)⟩⟩
  · obtain ⟨e, rfl⟩ := ok_pure.mp o2
    cases e
    exact ⟨H0, F, δ, g, false, g1, w, o1, fun F1 H1 s1 => by
      refine iteF ?_
      exact q F1 H1 s1⟩
  · exact absurd o2 not_ok_stuck
theorem dw_or {b : Expr} {rest : List Expr} (ha : PT X a (tT c fa)) (hb : PW X (.BoolOp .Or (b :: rest) pos) (tT c fb)) : PW X (.BoolOp .Or (a :: b :: rest) pos) (tT c (eOr fa fb)) := (pw_or ha hb).imp fun σ H Q ⟨H0, F, δ, g, d, g', w, o, q⟩ => by
  obtain ⟨x, g1, o1, o2⟩ := ok_bind.mp o
  split at o2
  · exact ⟨H0, F, δ, g, false, g1, w, o1, fun F1 H1 s1 => by
      refine iteF ?_
      exact ⟨H0, F1, δ, g1, d, g', w.step s1, o2, fun F2 H2 s2 => q F2 H2 (s1.trans s2)⟩⟩
  · obtain ⟨e, rfl⟩ := ok_pure.mp o2
    cases e
    exact ⟨H0, F, δ, g, true, g1, w, o1, fun F1 H1 s1 => by
      refine iteT ?_
      exact q F1 H1 s1⟩
  · exact absurd o2 not_ok_stuck
/-- and, or, not as values -/
theorem d_one {op} (ha : PE X a (tP c fa)) : PE X (.BoolOp op [a] pos) (tP c fa) := pe_one ha
theorem d_and {b : Expr} {rest : List Expr} (ha : PE X a (tR c fa)) (hb : PE X (.BoolOp .And (b :: rest) pos) (tP c fb)) : PE X (.BoolOp .And (a :: b :: rest) pos) (tP c (eAnd fa fb)) := (pe_and ha hb).imp fun σ H Q ⟨H0, F, δ, g, d, g', w, o, q⟩ => by
  obtain ⟨x, g1, o1, o2⟩ := ok_bind.mp o
  split at o2
  · exact ⟨H0, F, δ, g, .bl true, g1, w, o1, fun v F1 H1 s1 r => by
      have r := r.rep rfl
      cases r
      refine ⟨true, rfl, ?_⟩
      refine iteT ?_
      exact ⟨H0, F1, δ, g1, d, g', w.step s1, o2, fun v F2 H2 s2 r => q v F2 H2 (s1.trans s2) r⟩⟩
  · obtain ⟨e, rfl⟩ := ok_pure.mp o2
    cases e
    exact ⟨H0, F, δ, g, .bl false, g1, w, o1, fun v F1 H1 s1 r => by
      have r := r.rep rfl
      cases r
      refine ⟨false, rfl, ?_⟩
      refine iteF ?_
      exact q _ F1 H1 s1 (.bl false)⟩
  · exact absurd o2 not_ok_stuck
theorem d_or {b : Expr} {rest : List Expr} (ha : PE X a (tR c fa)) (hb : PE X (.BoolOp .Or (b :: rest) pos) (tP c fb)) : PE X (.BoolOp .Or (a :: b :: rest) pos) (tP c (eOr fa fb)) := (pe_or ha hb).imp fun σ H Q ⟨H0, F, δ, g, d, g', w, o, q⟩ => by
  obtain ⟨x, g1, o1, o2⟩ := ok_bind.mp o
  split at o2
  · exact ⟨H0, F, δ, g, .bl false, g1, w, o1, fun v F1 H1 s1 r => by
      have r := r.rep rfl
      cases r
      refine ⟨false, rfl, ?_⟩
      refine iteF ?_
      exact ⟨H0, F1, δ, g1, d, g', w.step s1, o2, fun v F2 H2 s2 r => q v F2 H2 (s1.trans s2) r⟩⟩
  · obtain ⟨e, rfl⟩ := ok_pure.mp o2
    cases e
    exact ⟨H0, F, δ, g, .bl true, g1, w, o1, fun v F1 H1 s1 r => by
      have r := r.rep rfl
      cases r
      refine ⟨true, rfl, ?_⟩
      refine iteT ?_
      exact q _ F1 H1 s1 (.bl true)⟩
  · exact absurd o2 not_ok_stuck
theorem d_not (ha : PE X a (tR c fa)) : PE X (.UnaryOp .Not a pos) (tP c (eF dNot fa)) := (pe_not ha).imp fun σ H Q ⟨H0, F, δ, g, d, g', w, o, q⟩ => by
  obtain ⟨x, g1, o1, o2⟩ := ok_bind.mp o
  unfold dNot at o2
  split at o2
  · obtain ⟨e, rfl⟩ := ok_pure.mp o2
    subst e
    exact ⟨H0, F, δ, g, _, g1, w, o1, fun v F1 H1 s1 r => by
      have r := r.rep rfl
      cases r
      exact ⟨_, rfl, q _ F1 H1 s1 (.bl _)⟩⟩
  · exact absurd o2 not_ok_stuck
theorem d_if {t : Expr} {ft : E} (ht : PT X t (tT c ft)) (ha : PE X a (tP c fa)) (hb : PE X b (tP c fb)) : PE X (.IfExp t a b pos) (tP c (eIf ft fa fb)) := (pe_ifExp ht ha hb).imp fun σ H Q ⟨H0, F, δ, g, d, g', w, o, q⟩ => by
  obtain ⟨x, g1, o1, o2⟩ := ok_bind.mp o
  split at o2
  · exact ⟨H0, F, δ, g, true, g1, w, o1, fun F1 H1 s1 => by
      refine iteT ?_
      exact ⟨H0, F1, δ, g1, d, g', w.step s1, o2, fun v F2 H2 s2 r => q v F2 H2 (s1.trans s2) r⟩⟩
  · exact ⟨H0, F, δ, g, false, g1, w, o1, fun F1 H1 s1 => by
      refine iteF ?_
      exact ⟨H0, F1, δ, g1, d, g', w.step s1, o2, fun v F2 H2 s2 r => q v F2 H2 (s1.trans s2) r⟩⟩
  · exact absurd o2 not_ok_stuck
def dIsN (d : D) : M D := pure (.bl d.isNon)
def dNotN (d : D) : M D := pure (.bl (!d.isNon))
theorem d_isN {j pos'} (ha : PE X a (tR c fa)) : PE X (.Compare a [.Is] [.Constant .none j pos'] pos) (tP c (eF dIsN fa)) := (pe_cmp (pc_isN ha) rfl).imp fun σ H Q ⟨H0, F, δ, g, d, g', w, o, q⟩ => by
  obtain ⟨x, g1, o1, o2⟩ := ok_bind.mp o
  obtain ⟨rfl, rfl⟩ := ok_pure.mp o2
  exact ⟨H0, F, δ, g, x, g1, w, o1, fun v F1 H1 s1 r => by dsimp only; rw [isN_val r]; exact q _ F1 H1 s1 (.bl _)⟩
theorem d_notN {j pos'} (ha : PE X a (tR c fa)) : PE X (.Compare a [.IsNot] [.Constant .none j pos'] pos) (tP c (eF dNotN fa)) := (pe_cmp (pc_notN ha) rfl).imp fun σ H Q ⟨H0, F, δ, g, d, g', w, o, q⟩ => by
  obtain ⟨x, g1, o1, o2⟩ := ok_bind.mp o
  obtain ⟨rfl, rfl⟩ := ok_pure.mp o2
  exact ⟨H0, F, δ, g, x, g1, w, o1, fun v F1 H1 s1 r => by dsimp only; rw [isN_val r]; exact q _ F1 H1 s1 (.bl _)⟩
theorem dt_isN {j pos'} (ha : PE X a (tR c fa)) : PT X (.Compare a [.Is] [.Constant .none j pos'] pos) (tT c (eF dIsN fa)) := (pt_cmp (pc_isN ha) rfl).imp fun σ H Q ⟨H0, F, δ, g, d, g', w, o, q⟩ => by
  obtain ⟨x, g1, o1, o2⟩ := ok_bind.mp o
  obtain ⟨e, rfl⟩ := ok_pure.mp o2
  cases e
  exact ⟨H0, F, δ, g, x, g1, w, o1, fun v F1 H1 s1 r => by dsimp only; rw [isN_val r]; exact ⟨_, rfl, q F1 H1 s1⟩⟩
theorem dt_notN {j pos'} (ha : PE X a (tR c fa)) : PT X (.Compare a [.IsNot] [.Constant .none j pos'] pos) (tT c (eF dNotN fa)) := (pt_cmp (pc_notN ha) rfl).imp fun σ H Q ⟨H0, F, δ, g, d, g', w, o, q⟩ => by
  obtain ⟨x, g1, o1, o2⟩ := ok_bind.mp o
  obtain ⟨e, rfl⟩ := ok_pure.mp o2
  cases e
  exact ⟨H0, F, δ, g, x, g1, w, o1, fun v F1 H1 s1 r => by dsimp only; rw [isN_val r]; exact ⟨_, rfl, q F1 H1 s1⟩⟩

/-! ### displays, arguments -/
theorem das_nil : PA X [] (tAs c esN) := pa_nil.imp fun σ H Q ⟨H0, F, δ, g, d, g', w, o, q⟩ => by
  obtain ⟨rfl, rfl⟩ := ok_pure.mp o
  exact q [] F H (.refl w.le w.gen) .nil
theorem das_cons (ha : PE X e (tP c f)) (hr : PA X es (tAs c fs)) (hs : starEach (e :: es) X.env = (false, eval e X.env) :: starEach es X.env := by rfl) : PA X (e :: es) (tAs c (esC f fs)) := (pa_cons ha hr hs).imp fun σ H Q ⟨H0, F, δ, g, d, g', w, o, q⟩ => by
  obtain ⟨x, g1, o1, o⟩ := ok_bind.mp o
  obtain ⟨xs, g2, o2, o⟩ := ok_bind.mp o
  obtain ⟨rfl, rfl⟩ := ok_pure.mp o
  exact ⟨H0, F, δ, g, x, g1, w, o1, fun v F1 H1 s1 r1 => ⟨H0, F1, δ, g1, xs, g2, w.step s1, o2, fun vs F2 H2 s2 r2 => q _ F2 H2 (s1.trans s2) (.cons (r1.up s2.sub) r2)⟩⟩
theorem d_lst (h : PA X es (tAs c fs)) : PE X (.List es pos) (tP c (eLst fs)) := (pe_lst h).imp fun σ H Q ⟨H0, F, δ, g, d, g', w, o, q⟩ => by
  obtain ⟨xs, g1, o1, o⟩ := ok_bind.mp o
  split at o
  · rename_i hl
    obtain ⟨rfl, rfl⟩ := ok_pure.mp o
    refine ⟨H0, F, δ, g, xs, g1, w, o1, fun vs F1 H1 s1 r1 => ⟨by rw [r1.length]; exact lim_le hl, fun p hp => ?_⟩⟩
    have st := Stp.lay (o := .lst vs) s1.le s1.gen hp
    exact q _ _ _ (s1.trans st) (.lst upd_same (r1.up st.sub))
  · exact absurd o not_ok_stuck
theorem d_tup {x1} (h : PA X es (tAs c fs)) : PE X (.Tuple es x1 pos) (tP c (eTup fs)) := (pe_tup h).imp fun σ H Q ⟨H0, F, δ, g, d, g', w, o, q⟩ => by
  obtain ⟨xs, g1, o1, o⟩ := ok_bind.mp o
  split at o
  · rename_i hl
    obtain ⟨rfl, rfl⟩ := ok_pure.mp o
    refine ⟨H0, F, δ, g, xs, g1, w, o1, fun vs F1 H1 s1 r1 => ⟨by rw [r1.length]; exact lim_le hl, fun p hp => ?_⟩⟩
    have st := Stp.lay (o := .tup vs) s1.le s1.gen hp
    exact q _ _ _ (s1.trans st) (.tup upd_same (r1.up st.sub))
  · exact absurd o not_ok_stuck
/-- {} -/
theorem d_dct0 : PE X (.Dict [] [] pos) (tP c (eK (.dct []))) := pe_dnewK.imp fun σ H Q ⟨H0, F, δ, g, d, g', w, o, q⟩ => by
  obtain ⟨rfl, rfl⟩ := ok_pure.mp o
  intro p hp
  exact q _ _ _ (Stp.lay w.le w.gen hp) (.dct0 upd_same)

/-! ### slices -/
def tOs (c : C) (f : Dlt → M (Option Int)) : TO := fun σ H Q => ∃ H0 F δ g d g', Wd c H0 F H σ δ g ∧ Ok (f δ) g d g' ∧ ∀ F' H', Stp c F H F' H' g' → Q d H'
theorem _root_.L2.PO.imp {X : Cx} {e : Option Expr} {t t' : TO} (h : PO X e t) (i : ∀ σ H Q, t' σ H Q → t σ H Q) : PO X e t' := ⟨fun pins s σ H Q I q => h.run pins s σ H Q I (i σ H Q q)⟩
theorem do_none : PO X none (tOs c eNo) := po_none.imp fun σ H Q ⟨H0, F, δ, g, d, g', w, o, q⟩ => by
  obtain ⟨rfl, rfl⟩ := ok_pure.mp o
  exact q F H (.refl w.le w.gen)
theorem do_some (ha : PE X e (tR c f)) : PO X (some e) (tOs c (eAt f)) := (po_some ha).imp fun σ H Q ⟨H0, F, δ, g, d, g', w, o, q⟩ => by
  obtain ⟨x, g1, o1, o⟩ := ok_bind.mp o
  split at o
  · obtain ⟨rfl, rfl⟩ := ok_pure.mp o
    exact ⟨H0, F, δ, g, _, g1, w, o1, fun v F1 H1 s1 r1 => by
      have r := r1.rep rfl
      cases r
      exact ⟨_, rfl, q F1 H1 s1⟩⟩
  · exact absurd o not_ok_stuck
theorem d_cut {lo hi : Option Expr} {fl fh : Dlt → M (Option Int)} {p2 : Pos} (ha : PE X e (tR c f)) (hl : PO X lo (tOs c fl)) (hh : PO X hi (tOs c fh)) : PE X (.Subscript e (.Slice lo hi none p2) pos) (tP c (eCut f fl fh)) := (pe_slice sl_d ha hl hh).imp fun σ H Q ⟨H0, F, δ, g, d, g', w, o, q⟩ => by
  obtain ⟨x, g1, o1, o⟩ := ok_bind.mp o
  obtain ⟨l, g2, o2, o⟩ := ok_bind.mp o
  obtain ⟨u, g3, o3, o⟩ := ok_bind.mp o
  exact ⟨H0, F, δ, g, x, g1, w, o1, fun v F1 H1 s1 r1 => ⟨H0, F1, δ, g1, l, g2, w.step s1, o2, fun F2 H2 s2 => ⟨H0, F2, δ, g2, u, g3, (w.step s1).step s2, o3, fun F3 H3 s3 =>
    ⟨F3, x, d, g3, g', s3.le, s3.gen, (r1.step s2).step s3, o, fun z F4 H4 s4 r4 => q z F4 H4 (((s1.trans s2).trans s3).trans s4) r4⟩⟩⟩⟩
theorem d_rev {k : Nat} {p1 p2 p3 : Pos} (ha : PE X e (tR c f)) : PE X (.Subscript e (.Slice none none (some (.UnaryOp .USub (.Constant (.int 1) k p1) p2)) p3) pos) (tP c (eF dRev f)) := (pe_revL ha).imp fun σ H Q ⟨H0, F, δ, g, d, g', w, o, q⟩ => by
  obtain ⟨x, g1, o1, o⟩ := ok_bind.mp o
  unfold dRev at o
  split at o
  · obtain ⟨rfl, rfl⟩ := ok_pure.mp o
    refine ⟨H0, F, δ, g, _, g1, w, o1, fun v F1 H1 s1 r1 => ?_⟩
    obtain ⟨a, vs, rfl, ea, ra⟩ := r1.lst s1.le
    refine ⟨a, vs, rfl, SqL.of ea, fun p hp => ?_⟩
    have st := Stp.lay (o := .lst vs.reverse) s1.le s1.gen hp
    exact q _ _ _ (s1.trans st) (.lst upd_same (ra.reverse.up st.sub))
  · exact absurd o not_ok_stuck

/-! ### calls of built-ins -/
theorem one_imp {h : D → M D} : ∀ σ H Q, tP c (eF h fa) σ H Q → tCB (c1 c h) (tCons (tR c fa) tNil) σ H Q := fun σ H Q ⟨H0, F, δ, g, d, g', w, o, q⟩ => by
  obtain ⟨x, g1, o1, o⟩ := ok_bind.mp o
  exact ⟨H0, F, δ, g, x, g1, w, o1, fun v F1 H1 s1 r1 => ⟨v, rfl, F1, x, d, g1, g', s1.le, s1.gen, r1, o, fun z F2 H2 s2 r2 => q z F2 H2 (s1.trans s2) r2⟩⟩
theorem pair_imp {h : D → D → M D} : ∀ σ H Q, tP c (eO h fa fb) σ H Q → tCB (c2 c h) (tCons (tR c fa) (tCons (tR c fb) tNil)) σ H Q := fun σ H Q ⟨H0, F, δ, g, d, g', w, o, q⟩ => by
  obtain ⟨x, g1, o1, o⟩ := ok_bind.mp o
  obtain ⟨y, g2, o2, o⟩ := ok_bind.mp o
  exact ⟨H0, F, δ, g, x, g1, w, o1, fun v F1 H1 s1 r1 => ⟨H0, F1, δ, g1, y, g2, w.step s1, o2, fun u F2 H2 s2 r2 => ⟨v, u, rfl, F2, x, y, d, g2, g', s2.le, s2.gen, r1.step s2, r2, o, fun z F3 H3 s3 r3 => q z F3 H3 ((s1.trans s2).trans s3) r3⟩⟩⟩
variable {x : Str} {p : Pos} {id T : String}
theorem d_b1 {h : D → M D} (hc : CallR X (.builtin id) (c1 c h)) (hm : X.mg x = none) (hv : bootBuiltins x = some (.builtin id)) (ha : PE X a (tR c fa)) (hg : Gl X x := by rfl) (hn : x ≠ "__name__" := by decide) (hdb : (x == ("__debug__" : Str)) = false := by decide)
    (he : starEach [a] X.env = (false, eval a X.env) :: starEach [] X.env := by rfl) : PE X (.Call (.Name x p) [a] [] pos) (tP c (eF h fa)) := (pe_callB hc hg hm hv (pa_cons ha pa_nil he) hn hdb he rfl).imp one_imp
theorem d_b2 {h : D → D → M D} (hc : CallR X (.builtin id) (c2 c h)) (hm : X.mg x = none) (hv : bootBuiltins x = some (.builtin id)) (ha : PE X a (tR c fa)) (hb : PE X b (tR c fb)) (hg : Gl X x := by rfl) (hn : x ≠ "__name__" := by decide) (hdb : (x == ("__debug__" : Str)) = false := by decide)
    (he : starEach [a, b] X.env = (false, eval a X.env) :: starEach [b] X.env := by rfl) (he2 : starEach [b] X.env = (false, eval b X.env) :: starEach [] X.env := by rfl) (hpl : (backTo pos (starEach [b] X.env)).any (·.1) = false := by rfl) :
    PE X (.Call (.Name x p) [a, b] [] pos) (tP c (eO h fa fb)) := (pe_callB hc hg hm hv (pa_cons ha (pa_cons hb pa_nil he2) he) hn hdb he hpl).imp pair_imp
theorem d_t1 {h : D → M D} (hc : CallR X (.type T) (c1 c h)) (hm : X.mg x = none) (hv : bootBuiltins x = some (.type T)) (ha : PE X a (tR c fa)) (hg : Gl X x := by rfl) (hn : x ≠ "__name__" := by decide) (hdb : (x == ("__debug__" : Str)) = false := by decide)
    (he : starEach [a] X.env = (false, eval a X.env) :: starEach [] X.env := by rfl) : PE X (.Call (.Name x p) [a] [] pos) (tP c (eF h fa)) := (pe_callTy hc hg hm hv (pa_cons ha pa_nil he) hn hdb he rfl).imp one_imp
/-- isinstance(a, T) -/
theorem d_isi {t : String} {y : Str} {p2 : Pos} (ht : t ∈ ["bool", "int", "str", "list", "tuple", "dict"]) (hm : X.mg "isinstance" = none) (hv : bootBuiltins "isinstance" = some (.builtin "isinstance")) (hy : X.mg y = none) (hvy : bootBuiltins y = some (.type t))
    (ha : PE X a (tR c fa)) (hg : Gl X "isinstance" := by rfl) (hgy : Gl X y := by rfl) (hn : y ≠ "__name__" := by decide) (hdb : (y == ("__debug__" : Str)) = false := by decide)
    (he : starEach [a, .Name y p2] X.env = (false, eval a X.env) :: starEach [.Name y p2] X.env := by rfl) :
    PE X (.Call (.Name "isinstance" p) [a, .Name y p2] [] pos) (tP c (eF (fun d => dIsI d t) fa)) :=
  (pe_callB (isi_c (c := c) ht) hg hm hv (pa_cons ha (pa_cons (pe_bltn (v := .ty t) hgy hy hvy rfl hn hdb) pa_nil) he) (by decide) (by decide) he rfl).imp fun σ H Q ⟨H0, F, δ, g, d, g', w, o, q⟩ => by
    obtain ⟨x, g1, o1, o⟩ := ok_bind.mp o
    exact ⟨H0, F, δ, g, x, g1, w, o1, fun v F1 H1 s1 r1 => ⟨v, rfl, F1, x, d, g1, g', s1.le, s1.gen, r1, o, fun z F2 H2 s2 r2 => q z F2 H2 (s1.trans s2) r2⟩⟩
/-- isinstance(a, (T, U)) -/
theorem d_isi2 {t u : String} {y z : Str} {p2 p3 p4 : Pos} {k} (ht : t ∈ ["bool", "int", "str", "list", "tuple", "dict"]) (hu : u ∈ ["bool", "int", "str", "list", "tuple", "dict"]) (hm : X.mg "isinstance" = none) (hv : bootBuiltins "isinstance" = some (.builtin "isinstance"))
    (hy : X.mg y = none) (hvy : bootBuiltins y = some (.type t)) (hz : X.mg z = none) (hvz : bootBuiltins z = some (.type u))
    (ha : PE X a (tR c fa)) (hg : Gl X "isinstance" := by rfl) (hgy : Gl X y := by rfl) (hgz : Gl X z := by rfl) (hn : y ≠ "__name__" := by decide) (hdb : (y == ("__debug__" : Str)) = false := by decide) (hnz : z ≠ "__name__" := by decide) (hdbz : (z == ("__debug__" : Str)) = false := by decide)
    (he : starEach [a, .Tuple [.Name y p2, .Name z p3] k p4] X.env = (false, eval a X.env) :: starEach [.Tuple [.Name y p2, .Name z p3] k p4] X.env := by rfl) :
    PE X (.Call (.Name "isinstance" p) [a, .Tuple [.Name y p2, .Name z p3] k p4] [] pos) (tP c (eF (fun d => dIsI2 d t u) fa)) :=
  (pe_callB (isi2_c (c := c) ht hu) hg hm hv (pa_cons ha (pa_cons (pe_tup (pa_cons (pe_bltn (v := .ty t) hgy hy hvy rfl hn hdb) (pa_cons (pe_bltn (v := .ty u) hgz hz hvz rfl hnz hdbz) pa_nil))) pa_nil) he) (by decide) (by decide) he rfl).imp fun σ H Q ⟨H0, F, δ, g, d, g', w, o, q⟩ => by
    obtain ⟨x, g1, o1, o⟩ := ok_bind.mp o
    exact ⟨H0, F, δ, g, x, g1, w, o1, fun v F1 H1 s1 r1 => ⟨by show 2 ≤ sizeLine; decide, fun p hp => ⟨v, p, rfl, upd_same, F1, x, d, g1, g', (Stp.tmp s1.le s1.gen hp).le, (Stp.tmp s1.le s1.gen hp).gen, r1.step (Stp.tmp s1.le s1.gen hp), o,
      fun z F2 H2 s2 r2 => q z F2 H2 ((s1.trans (Stp.tmp s1.le s1.gen hp)).trans s2) r2⟩⟩⟩
/-- xs.index(e) -/
theorem d_index {apos : Pos} (ha : PE X a (tR c fa)) (hb : PE X b (tR c fb)) (hbase : attributeBase a "index" X.env (eval a X.env) = eval a X.env := by rfl)
    (hfew : ((backTo pos (starEach [b] X.env)).all (fun x => !x.1) && (backToKw pos (keywordEach [] X.env)).all (fun x => x.1.isSome) && decide ([b].length + ([] : List Keyword).length + (if ([] : List Keyword).isEmpty then 0 else 1) < 30)) = true := by rfl)
    (hline : (apos.endLine == pos.line) = true := by rfl) (hs : starEach [b] X.env = (false, eval b X.env) :: starEach [] X.env := by rfl) :
    PE X (.Call (.Attribute a "index" apos) [b] [] pos) (tP c (eO dIndex fa fb)) :=
  (pe_bm PySem.F.plainAttrs_list PySem.F.slot_list_index PySem.F.type_list_index (index_m (c := c)) ha (pa_cons hb pa_nil hs) hbase hfew hline hs rfl).imp fun σ H Q ⟨H0, F, δ, g, d, g', w, o, q⟩ => by
    obtain ⟨x, g1, o1, o⟩ := ok_bind.mp o
    obtain ⟨y, g2, o2, o⟩ := ok_bind.mp o
    refine ⟨H0, F, δ, g, x, g1, w, o1, fun v F1 H1 s1 r1 => ⟨?_, ⟨H0, F1, δ, g1, y, g2, w.step s1, o2, fun u F2 H2 s2 r2 => ⟨u, rfl, F2, x, y, d, g2, g', s2.le, s2.gen, r1.step s2, r2, o, fun z F3 H3 s3 r3 => q z F3 H3 ((s1.trans s2).trans s3) r3⟩⟩⟩⟩
    cases x with
    | lst ds =>
      obtain ⟨a, vs, rfl, ea, _⟩ := r1.lst s1.le
      exact .inl ⟨rfl, _, SqL.of ea⟩
    | _ => exact absurd o not_ok_stuck
end
end DL

/-! ## DIt -/
set_option Elab.async false
set_option autoImplicit false
set_option linter.all false
set_option maxRecDepth 100000
set_option maxHeartbeats 2000000
/-! DIt: targets, what a loop walks, list comprehensions, by plain data. -/
namespace DL
open PySem PySem.Spec PyProof.Rows L2

/-! ### targets -/
theorem wipe_set {σ : L2.St} {i : Nat} {x : Option V} : ∀ {vs : List Nat}, i ∈ vs → wipe (σ.set i x) vs = wipe σ vs
  | [], h => by cases h
  | j :: vs, h => by
    unfold wipe
    by_cases hi : i ∈ vs
    · rw [wipe_set hi]
    · have e : i = j := by
        rcases List.mem_cons.mp h with e | e
        · exact e
        · exact absurd e hi
      subst e
      have comm : ∀ (ws : List Nat), i ∉ ws → wipe (σ.set i x) ws = (wipe σ ws).set i x := by
        intro ws
        induction ws with
        | nil => intro _; rfl
        | cons k ws ih =>
          intro hk
          simp only [List.mem_cons, not_or] at hk
          show (wipe (σ.set i x) ws).set k none = ((wipe σ ws).set k none).set i x
          rw [ih hk.2, List.set_comm _ _ (fun e => hk.1 (by rw [e]))]
      rw [comm vs hi, List.set_set]
theorem wipe_wipe (σ : L2.St) : ∀ vs : List Nat, wipe (wipe σ vs) vs = wipe σ vs
  | [] => rfl
  | i :: vs => by
    show (wipe ((wipe σ vs).set i none) vs).set i none = (wipe σ vs).set i none
    have h : ∀ (τ : L2.St), (wipe (τ.set i none) vs).set i none = (wipe τ vs).set i none := fun τ => by
      by_cases hi : i ∈ vs
      · rw [wipe_set hi]
      · have comm : ∀ (ws : List Nat), i ∉ ws → wipe (τ.set i none) ws = (wipe τ ws).set i none := by
          intro ws
          induction ws with
          | nil => intro _; rfl
          | cons k ws ih =>
            intro hk
            simp only [List.mem_cons, not_or] at hk
            show (wipe (τ.set i none) ws).set k none = ((wipe τ ws).set k none).set i none
            rw [ih hk.2, List.set_comm _ _ (fun e => hk.1 (by rw [e]))]
        rw [comm vs hi, List.set_set]
    rw [h, wipe_wipe σ vs]

/-- what a target's slots are; the datum goes to them -/
def gD (c : C) (gd : G) (is : List Nat) : TG := fun v σ H Q => ∃ H0 F δ g d δ', Wd c H0 F H σ δ g ∧ Rep c F v d ∧ gd d δ = some δ' ∧
  ∀ σ', Wd c H0 F H σ' δ' g → (∀ vs : List Nat, (∀ i ∈ is, i ∈ vs) → wipe σ' vs = wipe σ vs) → (∀ (i : Nat) (xs : List D), δ'[i]? = some (Sl.own xs) → δ[i]? = some (Sl.own xs) ∧ σ'[i]? = σ[i]?) → Q σ' H
def gsD (c : C) (gs : List G) (is : List Nat) : TGs := fun us σ H Q => ∃ H0 F δ g ds δ', Wd c H0 F H σ δ g ∧ RepAll c F us ds ∧ gGo gs ds δ = some δ' ∧
  ∀ σ', Wd c H0 F H σ' δ' g → (∀ vs : List Nat, (∀ i ∈ is, i ∈ vs) → wipe σ' vs = wipe σ vs) → (∀ (i : Nat) (xs : List D), δ'[i]? = some (Sl.own xs) → δ[i]? = some (Sl.own xs) ∧ σ'[i]? = σ[i]?) → Q σ' H
theorem _root_.L2.PG.imp {X : Cx} {e : Expr} {t t' : TG} (h : PG X e t) (i : ∀ v σ H Q, t' v σ H Q → t v σ H Q) : PG X e t' := ⟨fun pins s σ H v u Q I r q => h.run pins s σ H v u Q I r (i v σ H Q q)⟩
theorem _root_.L2.PGs.imp {X : Cx} {e : List Expr} {t t' : TGs} (h : PGs X e t) (i : ∀ v σ H Q, t' v σ H Q → t v σ H Q) : PGs X e t' := ⟨fun pins s σ H v u Q I r q => h.run pins s σ H v u Q I r (i v σ H Q q)⟩
section
variable {X : Cx} {c : C} {e : Expr} {es : List Expr} {pos : Pos}
theorem dg_name {i : Nat} (h : PG X e (gName i)) : PG X e (gD c (gN i) [i]) := h.imp fun v σ H Q ⟨H0, F, δ, g, d, δ', w, r, o, q⟩ => by
  cases o
  refine q _ (w.set r) (fun vs hv => wipe_set (hv i (List.mem_singleton.mpr rfl))) fun j xs hj => ?_
  by_cases e : i = j
  · subst e
    by_cases hl : i < δ.length
    · rw [List.getElem?_set_self hl] at hj; cases hj
    · rw [List.getElem?_eq_none (by simpa using hl)] at hj; cases hj
  · rw [List.getElem?_set_ne e] at hj ⊢
    exact ⟨hj, rfl⟩
theorem dgs_nil : PGs X [] (gsD c [] []) := pgs_nil.imp fun vs σ H Q ⟨H0, F, δ, g, ds, δ', w, r, o, q⟩ => by
  cases ds with
  | nil =>
    cases r
    cases o
    exact ⟨rfl, q σ w (fun _ _ => rfl) fun i xs h => ⟨h, rfl⟩⟩
  | cons d ds => cases o
theorem dgs_cons {gd : G} {gs : List G} {is js : List Nat} (h1 : PG X e (gD c gd is)) (h2 : PGs X es (gsD c gs js)) (hs : (assignEach (e :: es) X.env).map (·.2) = assign e X.env :: (assignEach es X.env).map (·.2) := by rfl) : PGs X (e :: es) (gsD c (gd :: gs) (is ++ js)) :=
  (pgs_cons h1 h2 hs).imp fun us σ H Q ⟨H0, F, δ, g, ds, δ', w, r, o, q⟩ => by
    cases r with
    | nil => cases o
    | @cons _ v vs d ds r rs =>
      unfold gGo at o
      obtain ⟨δ1, o1, o2⟩ := Option.bind_eq_some_iff.mp o
      refine ⟨v, vs, rfl, H0, F, δ, g, d, δ1, w, r, o1, fun σ1 w1 k1 l1 => ⟨H0, F, δ1, g, ds, δ', w1, rs, o2, fun σ2 w2 k2 l2 => q σ2 w2 (fun vs hv => ?_) fun i xs hi => ?_⟩⟩
      · rw [k2 vs fun i hi => hv i (List.mem_append_right _ hi), k1 vs fun i hi => hv i (List.mem_append_left _ hi)]
      · obtain ⟨a1, a2⟩ := l2 i xs hi
        obtain ⟨b1, b2⟩ := l1 i xs a1
        exact ⟨b1, a2.trans b2⟩
theorem dg_tup {gs : List G} {is : List Nat} {k : Nat} (hc : X.calm = true) (h : PGs X es (gsD c gs is)) (hn : (assignEach es X.env).length = gs.length := by rfl) (hst : (assignEach es X.env).findIdx? (·.1) = none := by rfl) : PG X (.Tuple es k pos) (gD c (gT gs) is) :=
  (pg_tup hc h hn hst).imp fun v σ H Q ⟨H0, F, δ, g, d, δ', w, r, o, q⟩ => by
    unfold gT at o
    split at o
    · rename_i ds
      cases r with
      | @tup _ a vs _ ea ra =>
        refine ⟨a, vs, rfl, SqT.of (w.le _ _ ea), ?_, H0, F, δ, g, ds, δ', w, ra, o, q⟩
        have hl : ∀ (gs : List G) (ds : List D) (δ δ' : Dlt), gGo gs ds δ = some δ' → gs.length = ds.length := by
          intro gs
          induction gs with
          | nil => intro ds δ δ' h; cases ds with
            | nil => rfl
            | cons _ _ => cases h
          | cons g gs ih =>
            intro ds δ δ' h
            cases ds with
            | nil => cases h
            | cons d ds =>
              unfold gGo at h
              obtain ⟨δ1, _, o2⟩ := Option.bind_eq_some_iff.mp h
              simp [ih ds δ1 δ' o2]
        rw [ra.length, hl gs ds δ δ' o]
    · cases o
end

/-! ### what is walked -/
/-- J gives ds one by one, as long as what is relied on stands, and the objects at bs -/
structure WalkD (c : C) (J : It) (bs : List Addr) (F H : Hp) (ds : List D) : Prop where
  bk : ∀ b ∈ bs, H b ≠ none ∧ c.ga ≠ some b
  goes : ∀ (i : Nat) (F1 H1 : Hp), i < ds.length → Same F F1 → Same F1 H1 → (∀ b ∈ bs, H1 b = H b) → Same c.bo H1 → J.go i H1
  stops : ∀ (F1 H1 : Hp), Same F F1 → Same F1 H1 → (∀ b ∈ bs, H1 b = H b) → Same c.bo H1 → J.stop ds.length H1
  yields : ∀ (i : Nat) (F1 H1 : Hp) (g : Gs) (x : V) (H2 : Hp), i < ds.length → Same F F1 → Same F1 H1 → (∀ b ∈ bs, H1 b = H b) → GenOk c F1 H1 g → J.yld i H1 x H2 → ∃ F2 d, ds[i]? = some d ∧ Stp c F1 H1 F2 H2 g ∧ Rep c F2 x d
def iD (c : C) (src : Es) : TI := fun σ H R => ∃ H0 F δ g ds g', Wd c H0 F H σ δ g ∧ Ok (src δ) g ds g' ∧ ∀ J F' H', Stp c F H F' H' g' → WalkD c J [] F' H' ds → R J H'
def iB (c : C) (src : Es) : TI := fun σ H R => ∃ H0 F δ g ds g', Wd c H0 F H σ δ g ∧ Ok (src δ) g ds g' ∧ ∀ J bs F' H', Stp c F H F' H' g' → WalkD c J bs F' H' ds → R J H'
theorem _root_.L2.PI.imp {X : Cx} {tg e : Expr} {t t' : TI} (h : PI X tg e t) (i : ∀ σ H Q, t' σ H Q → t σ H Q) : PI X tg e t' := ⟨fun pins s σ H Q I q => h.run pins s σ H Q I (i σ H Q q)⟩
section
variable {X : Cx} {c : C} {tg e e2 : Expr} {f f2 : E} {src : Es} {pos p tpos : Pos} {elts : List Expr} {kk : Nat}
theorem _root_.L2.PI.b (h : PI X tg e (iD c src)) : PI X tg e (iB c src) := h.imp fun σ H R ⟨H0, F, δ, g, ds, g', w, o, q⟩ => ⟨H0, F, δ, g, ds, g', w, o, fun J F' H' s k => q J [] F' H' s k⟩
theorem walk_lst {K : PySem.W.Frag} {a : Addr} {vs : List V} {F H : Hp} {ds : List D} {bs : List Addr} (h : ∀ F1 H1, Same F F1 → Same F1 H1 → (∀ b ∈ bs, H1 b = H b) → H1 a = some (.lst vs)) (hb : ∀ b ∈ bs, H b ≠ none ∧ c.ga ≠ some b) (r : RepAll c F vs ds) : WalkD c (Itl K a) bs F H ds := by
  refine ⟨hb, fun i F1 H1 hi s1 s2 s3 _ => ?_, fun F1 H1 s1 s2 s3 _ => ⟨vs, SqL.of (h F1 H1 s1 s2 s3), Nat.le_of_eq r.length⟩, fun i F1 H1 g x H2 hi s1 s2 s3 gen hy => ?_⟩
  · obtain ⟨v, hv, _⟩ := r.get (List.getElem?_eq_getElem hi)
    exact ⟨vs, v, SqL.of (h F1 H1 s1 s2 s3), hv⟩
  · obtain ⟨rfl, hx⟩ := hy
    obtain ⟨d, hd, rd⟩ := r.getV (hx vs (SqL.of (h F1 _ s1 s2 s3)))
    exact ⟨F1, d, hd, .refl s2 gen, rd.up s1⟩
theorem wrapB_rep {F : Hp} : ∀ {vs : List V} {ds : List D}, RepAll c c.bo vs ds → RepAll c F vs (ds.map wrapB)
  | _, _, .nil => .nil
  | _, _, .cons (d := d) r t => by
    refine .cons ?_ (wrapB_rep t)
    unfold wrapB
    split
    · rename_i h
      cases d with
      | non => cases r; exact .non
      | bl b => cases r; exact .bl b
      | int i => cases r; exact .int i
      | str x => cases r; exact .str x
      | _ => cases h
    · exact .bor r
theorem walk_bor {K : PySem.W.Frag} {a : Addr} {vs : List V} {F H : Hp} {ds : List D} (h : c.bo a = some (.lst vs)) (r : RepAll c c.bo vs ds) : WalkD c (Itl K a) [] F H (ds.map wrapB) := by
  have r2 : RepAll c F vs (ds.map wrapB) := wrapB_rep r
  refine ⟨fun _ z => (nomatch z), fun i F1 H1 hi s1 s2 s3 sb => ?_, fun F1 H1 s1 s2 s3 sb => ⟨vs, SqL.of (sb _ _ h), Nat.le_of_eq r2.length⟩, fun i F1 H1 g x H2 hi s1 s2 s3 gen hy => ?_⟩
  · obtain ⟨v, hv, _⟩ := r2.get (List.getElem?_eq_getElem hi)
    exact ⟨vs, v, SqL.of (sb _ _ h), hv⟩
  · obtain ⟨rfl, hx⟩ := hy
    obtain ⟨d, hd, rd⟩ := r2.getV (hx vs (SqL.of (gen.bo _ _ h)))
    exact ⟨F1, d, hd, .refl s2 gen, rd.up s1⟩
/-- for x in xs -/
theorem di_lst (h : PE X e (tP c f)) : PI X tg e (iD c (xL f)) := (pi_list h).imp fun σ H R ⟨H0, F, δ, g, ds, g', w, o, q⟩ => by
  obtain ⟨x, g1, o1, o⟩ := ok_bind.mp o
  unfold rowOf at o
  split at o
  · obtain ⟨rfl, rfl⟩ := ok_pure.mp o
    refine ⟨H0, F, δ, g, _, g1, w, o1, fun v F1 H1 s1 r1 => ?_⟩
    cases r1 with
    | @lst _ a vs _ ea ra => exact ⟨a, rfl, ⟨vs, SqL.of (s1.le _ _ ea)⟩, q _ F1 H1 s1 (walk_lst (fun F2 H2 t1 t2 _ => t2 _ _ (t1 _ _ ea)) (fun _ z => nomatch z) ra)⟩
  · obtain ⟨rfl, rfl⟩ := ok_pure.mp o
    refine ⟨H0, F, δ, g, _, g1, w, o1, fun v F1 H1 s1 r1 => ?_⟩
    cases r1 with
    | bor r1 =>
      cases r1 with
      | @lst _ a vs _ ea ra => exact ⟨a, rfl, ⟨vs, SqL.of (s1.gen.bo _ _ ea)⟩, q _ F1 H1 s1 (walk_bor ea ra)⟩
  · exact absurd o not_ok_stuck
theorem di_rd (h : PE X e (tR c f)) : PI X tg e (iB c (xL f)) := (pi_list h).imp fun σ H R ⟨H0, F, δ, g, ds, g', w, o, q⟩ => by
  obtain ⟨x, g1, o1, o⟩ := ok_bind.mp o
  unfold rowOf at o
  split at o
  · obtain ⟨rfl, rfl⟩ := ok_pure.mp o
    refine ⟨H0, F, δ, g, _, g1, w, o1, fun v F1 H1 s1 r1 => ?_⟩
    rcases r1 with r1 | ⟨a, vs, ds', rfl, e2, ea, na, ra⟩
    · cases r1 with
      | @lst _ a vs _ ea ra => exact ⟨a, rfl, ⟨vs, SqL.of (s1.le _ _ ea)⟩, q _ [] F1 H1 s1 (walk_lst (fun F2 H2 t1 t2 _ => t2 _ _ (t1 _ _ ea)) (fun _ z => nomatch z) ra)⟩
    · cases e2
      exact ⟨a, rfl, ⟨vs, SqL.of ea⟩, q _ [a] F1 H1 s1 (walk_lst (fun F2 H2 t1 t2 t3 => (t3 a (List.mem_singleton.mpr rfl)).trans ea) (fun b hb => by
        rw [List.mem_singleton.mp hb]
        exact ⟨(fun z => by rw [ea] at z; cases z), na⟩) ra)⟩
  · obtain ⟨rfl, rfl⟩ := ok_pure.mp o
    refine ⟨H0, F, δ, g, _, g1, w, o1, fun v F1 H1 s1 r1 => ?_⟩
    have r1 := r1.rep rfl
    cases r1 with
    | bor r1 =>
      cases r1 with
      | @lst _ a vs _ ea ra => exact ⟨a, rfl, ⟨vs, SqL.of (s1.gen.bo _ _ ea)⟩, q _ [] F1 H1 s1 (walk_bor ea ra)⟩
  · exact absurd o not_ok_stuck
/-- for x in t -/
theorem di_tup (h : PE X e (tP c f)) : PI X tg e (iD c (xT f)) := (pi_tup h).imp fun σ H R ⟨H0, F, δ, g, ds, g', w, o, q⟩ => by
  obtain ⟨x, g1, o1, o⟩ := ok_bind.mp o
  unfold rowOfT at o
  split at o
  · obtain ⟨rfl, rfl⟩ := ok_pure.mp o
    refine ⟨H0, F, δ, g, _, g1, w, o1, fun v F1 H1 s1 r1 => ?_⟩
    cases r1 with
    | @tup _ a vs _ ea ra =>
      refine ⟨a, rfl, ⟨vs, SqT.of (s1.le _ _ ea)⟩, q _ F1 H1 s1 ⟨fun _ z => (nomatch z), fun i F2 H2 hi t1 t2 _ _ => ?_, fun F2 H2 t1 t2 _ _ => ⟨vs, SqT.of (t2 _ _ (t1 _ _ ea)), Nat.le_of_eq ra.length⟩, fun i F2 H2 g x H3 hi t1 t2 _ gen hy => ?_⟩⟩
      · obtain ⟨v, hv, _⟩ := ra.get (List.getElem?_eq_getElem hi)
        exact ⟨vs, v, SqT.of (t2 _ _ (t1 _ _ ea)), hv⟩
      · obtain ⟨rfl, hx⟩ := hy
        obtain ⟨d, hd, rd⟩ := ra.getV (hx vs (SqT.of (t2 _ _ (t1 _ _ ea))))
        exact ⟨F2, d, hd, .refl t2 gen, rd.up t1⟩
  · exact absurd o not_ok_stuck
theorem walk_rng {lo : Int} {n : Nat} {F H : Hp} : WalkD c (Itr lo n) [] F H ((List.range n).map fun k => .int (lo + (k : Nat))) := by
  refine ⟨fun _ z => (nomatch z), fun i F1 H1 hi _ _ _ _ => (show i < n by simpa using hi), fun F1 H1 _ _ _ _ => ?_, fun i F1 H1 g x H2 hi s1 s2 _ gen hy => ?_⟩
  · show n ≤ _
    simp
  · obtain ⟨rfl, rfl⟩ := hy
    have hi' : i < n := by simpa using hi
    exact ⟨F1, .int (lo + i), by simp [hi'], .refl s2 gen, .int _⟩
/-- for k in range(n) -/
theorem di_r1 (hm : X.mg "range" = none) (h : PE X e (tR c f)) (hg : Gl X "range" := by rfl) (hs : starEach [e] X.env = [(false, eval e X.env)] := by rfl) : PI X tg (.Call (.Name "range" p) [e] [] pos) (iD c (xR f)) :=
  (pi_range1 hg hm (pa_cons h pa_nil (by rw [hs]; rfl)) hs).imp fun σ H R ⟨H0, F, δ, g, ds, g', w, o, q⟩ => by
    obtain ⟨x, g1, o1, o⟩ := ok_bind.mp o
    split at o
    · split at o
      · rename_i hj
        obtain ⟨rfl, rfl⟩ := ok_pure.mp o
        refine ⟨H0, F, δ, g, _, g1, w, o1, fun v F1 H1 s1 r1 => ?_⟩
        have r1 := r1.rep rfl
        cases r1
        refine ⟨_, rfl, by omega, by omega, q _ F1 H1 s1 ?_⟩
        have wk := fun n => walk_rng (c := c) (lo := 0) (n := n) (F := F1) (H := H1)
        simp only [Int.zero_add] at wk
        exact wk _
      · exact absurd o not_ok_stuck
    · exact absurd o not_ok_stuck
/-- for k in range(a, b) -/
theorem di_r2 (hm : X.mg "range" = none) (h : PE X e (tR c f)) (h2 : PE X e2 (tR c f2)) (hg : Gl X "range" := by rfl) (hs : starEach [e, e2] X.env = [(false, eval e X.env), (false, eval e2 X.env)] := by rfl)
    (hs2 : starEach [e2] X.env = [(false, eval e2 X.env)] := by rfl) : PI X tg (.Call (.Name "range" p) [e, e2] [] pos) (iD c (xR2 f f2)) :=
  (pi_range2 hg hm (pa_cons h (pa_cons h2 pa_nil (by rw [hs2]; rfl)) (by rw [hs, hs2])) hs hs2).imp fun σ H R ⟨H0, F, δ, g, ds, g', w, o, q⟩ => by
    obtain ⟨x, g1, o1, o⟩ := ok_bind.mp o
    obtain ⟨y, g2, o2, o⟩ := ok_bind.mp o
    split at o
    · split at o
      · rename_i hj
        obtain ⟨rfl, rfl⟩ := ok_pure.mp o
        refine ⟨H0, F, δ, g, _, g1, w, o1, fun v F1 H1 s1 r1 => ⟨H0, F1, δ, g1, _, g2, w.step s1, o2, fun u F2 H2 s2 r2 => ?_⟩⟩
        have r1 := r1.rep rfl
        have r2 := r2.rep rfl
        cases r1; cases r2
        exact ⟨_, _, rfl, by omega, q _ F2 H2 (s1.trans s2) walk_rng⟩
      · exact absurd o not_ok_stuck
    · exact absurd o not_ok_stuck
theorem numFrom_get : ∀ (ds : List D) (n i : Nat), (numFrom n ds)[i]? = (ds[i]?).map fun d => .tup [.int ((n + i : Nat) : Int), d]
  | [], _, _ => by simp [numFrom]
  | d :: ds, n, 0 => by simp [numFrom]
  | d :: ds, n, i + 1 => by
    show (numFrom (n + 1) ds)[i]? = (ds[i]?).map _
    rw [numFrom_get ds (n + 1) i]
    congr 1
    funext d
    rw [show n + 1 + i = n + (i + 1) by omega]
theorem numFrom_len : ∀ (ds : List D) (n : Nat), (numFrom n ds).length = ds.length
  | [], _ => rfl
  | d :: ds, n => by simp [numFrom, numFrom_len ds (n + 1)]
theorem walk_num {K : PySem.W.Frag} {a : Addr} {vs : List V} {F H : Hp} {ds : List D} (h : F a = some (.lst vs)) (r : RepAll c F vs ds) : WalkD c (Ite K a) [] F H (numFrom 0 ds) := by
  have at' : ∀ F1 H1, Same F F1 → Same F1 H1 → H1 a = some (.lst vs) := fun F1 H1 t1 t2 => t2 _ _ (t1 _ _ h)
  refine ⟨fun _ z => (nomatch z), fun i F1 H1 hi s1 s2 _ _ => ?_, fun F1 H1 s1 s2 _ _ => ⟨vs, SqL.of (at' F1 H1 s1 s2), by rw [numFrom_len]; exact Nat.le_of_eq r.length⟩, fun i F1 H1 g x H2 hi s1 s2 _ gen hy => ?_⟩
  · rw [numFrom_len] at hi
    obtain ⟨v, hv, _⟩ := r.get (List.getElem?_eq_getElem hi)
    exact ⟨vs, v, SqL.of (at' F1 H1 s1 s2), hv⟩
  · obtain ⟨T, y, rfl, hT, rfl, hx⟩ := hy
    obtain ⟨d, hd, rd⟩ := r.getV (hx vs (SqL.of (at' F1 H1 s1 s2)))
    refine ⟨upd F1 T _, .tup [.int (i : Nat), d], ?_, Stp.lay s2 gen hT, .tup upd_same (.cons (.int _) (.cons ((rd.up s1).up (Stp.lay (o := .tup [.int (i : Nat), y]) s2 gen hT).sub) .nil))⟩
    rw [numFrom_get, hd]
    simp
/-- for i, x in enumerate(xs) -/
theorem di_enum (hm : X.mg "enumerate" = none) (h : PE X e (tP c f)) (hg : Gl X "enumerate" := by rfl) (hs : starEach [e] X.env = [(false, eval e X.env)] := by rfl) : PI X (.Tuple elts kk tpos) (.Call (.Name "enumerate" p) [e] [] pos) (iD c (xE f)) :=
  (pi_enum hg hm (pa_cons h pa_nil (by rw [hs]; rfl)) hs).imp fun σ H R ⟨H0, F, δ, g, ds, g', w, o, q⟩ => by
    obtain ⟨x, g1, o1, o⟩ := ok_bind.mp o
    split at o
    · obtain ⟨rfl, rfl⟩ := ok_pure.mp o
      refine ⟨H0, F, δ, g, _, g1, w, o1, fun v F1 H1 s1 r1 => ?_⟩
      cases r1 with
      | @lst _ a vs _ ea ra => exact ⟨a, vs, rfl, SqL.of (s1.le _ _ ea), q _ F1 H1 s1 (walk_num ea ra)⟩
    · exact absurd o not_ok_stuck
theorem zip2_get : ∀ (xs ys : List D) (i : Nat), (zip2 xs ys)[i]? = match xs[i]?, ys[i]? with
    | some x, some y => some (.tup [x, y])
    | _, _ => none
  | [], ys, i => by simp [zip2]
  | x :: xs, [], i => by
    simp only [zip2, List.getElem?_nil]
    cases (x :: xs)[i]? <;> rfl
  | x :: xs, y :: ys, 0 => by simp [zip2]
  | x :: xs, y :: ys, i + 1 => by
    show (zip2 xs ys)[i]? = _
    rw [zip2_get xs ys i]
    rfl
theorem zip2_len : ∀ (xs ys : List D), (zip2 xs ys).length = min xs.length ys.length
  | [], ys => by simp [zip2]
  | x :: xs, [] => by simp [zip2]
  | x :: xs, y :: ys => by simp [zip2, zip2_len xs ys, Nat.succ_min_succ]
theorem walk_zip2 {K : PySem.W.Frag} {a b : Addr} {vs us : List V} {F H : Hp} {xs ys : List D} (h : F a = some (.lst vs)) (h' : F b = some (.lst us)) (r : RepAll c F vs xs) (r' : RepAll c F us ys) : WalkD c (Itz K a b) [] F H (zip2 xs ys) := by
  have at' : ∀ F1 H1, Same F F1 → Same F1 H1 → H1 a = some (.lst vs) ∧ H1 b = some (.lst us) := fun F1 H1 t1 t2 => ⟨t2 _ _ (t1 _ _ h), t2 _ _ (t1 _ _ h')⟩
  refine ⟨fun _ z => (nomatch z), fun i F1 H1 hi s1 s2 _ _ => ?_, fun F1 H1 s1 s2 _ _ => ⟨vs, us, SqL.of (at' F1 H1 s1 s2).1, SqL.of (at' F1 H1 s1 s2).2, ?_⟩, fun i F1 H1 g x H2 hi s1 s2 _ gen hy => ?_⟩
  · rw [zip2_len] at hi
    obtain ⟨v, hv, _⟩ := r.get (List.getElem?_eq_getElem (show i < xs.length by omega))
    obtain ⟨u, hu, _⟩ := r'.get (List.getElem?_eq_getElem (show i < ys.length by omega))
    exact ⟨vs, us, v, u, SqL.of (at' F1 H1 s1 s2).1, SqL.of (at' F1 H1 s1 s2).2, hv, hu⟩
  · rw [zip2_len, r.length, r'.length]
    omega
  · obtain ⟨T, y, z, rfl, hT, rfl, hx, hz⟩ := hy
    obtain ⟨d, hd, rd⟩ := r.getV (hx vs (SqL.of (at' F1 H1 s1 s2).1))
    obtain ⟨e, he, re⟩ := r'.getV (hz us (SqL.of (at' F1 H1 s1 s2).2))
    have st := Stp.lay (o := .tup [y, z]) s2 gen hT
    refine ⟨upd F1 T (.tup [y, z]), .tup [d, e], ?_, st, .tup upd_same (.cons ((rd.up s1).up st.sub) (.cons ((re.up s1).up st.sub) .nil))⟩
    rw [zip2_get, hd, he]
/-- for x, y in zip(xs, ys) -/
theorem di_zip (hm : X.mg "zip" = none) (h : PE X e (tP c f)) (h2 : PE X e2 (tP c f2)) (hg : Gl X "zip" := by rfl) (hs : starEach [e, e2] X.env = (false, eval e X.env) :: starEach [e2] X.env := by rfl) (hs2 : starEach [e2] X.env = (false, eval e2 X.env) :: starEach [] X.env := by rfl)
    (hpl : (backTo pos (starEach [e2] X.env)).any (·.1) = false := by rfl) : PI X (.Tuple elts kk tpos) (.Call (.Name "zip" p) [e, e2] [] pos) (iD c (xZ f f2)) :=
  (pi_zip hg hm (pa_cons h (pa_cons h2 pa_nil hs2) hs) hs hpl).imp fun σ H R ⟨H0, F, δ, g, ds, g', w, o, q⟩ => by
    obtain ⟨x, g1, o1, o⟩ := ok_bind.mp o
    obtain ⟨y, g2, o2, o⟩ := ok_bind.mp o
    split at o
    · obtain ⟨rfl, rfl⟩ := ok_pure.mp o
      refine ⟨H0, F, δ, g, _, g1, w, o1, fun v F1 H1 s1 r1 => ⟨H0, F1, δ, g1, _, g2, w.step s1, o2, fun u F2 H2 s2 r2 => ?_⟩⟩
      cases r1 with
      | @lst _ a vs _ ea ra =>
        cases r2 with
        | @lst _ b us _ eb rb => exact ⟨a, b, vs, us, rfl, SqL.of (s2.le _ _ (s2.sub _ _ ea)), SqL.of (s2.le _ _ eb), q _ F2 H2 (s1.trans s2) (walk_zip2 (s2.sub _ _ ea) eb (ra.up s2.sub) rb)⟩
    · exact absurd o not_ok_stuck
/-- for x in reversed(xs) -/
theorem di_revd (hm : X.mg "reversed" = none) (h : PE X e (tP c f)) (hg : Gl X "reversed" := by rfl) (hs : starEach [e] X.env = [(false, eval e X.env)] := by rfl) : PI X tg (.Call (.Name "reversed" p) [e] [] pos) (iD c (xV f)) :=
  (pi_reversed hg hm (pa_cons h pa_nil (by rw [hs]; rfl)) hs).imp fun σ H R ⟨H0, F, δ, g, ds, g', w, o, q⟩ => by
    obtain ⟨x, g1, o1, o⟩ := ok_bind.mp o
    split at o
    · rename_i zs
      obtain ⟨rfl, rfl⟩ := ok_pure.mp o
      refine ⟨H0, F, δ, g, _, g1, w, o1, fun v F1 H1 s1 r1 => ?_⟩
      cases r1 with
      | @lst _ a vs _ ea ra =>
        have at' : ∀ F2 H2, Same F1 F2 → Same F2 H2 → H2 a = some (.lst vs) := fun F2 H2 t1 t2 => t2 _ _ (t1 _ _ ea)
        have hl := ra.length
        refine ⟨a, vs, rfl, SqL.of (s1.le _ _ ea), q _ F1 H1 s1 ⟨fun _ z => (nomatch z), fun i F2 H2 hi t1 t2 _ _ => ?_, fun F2 H2 t1 t2 _ _ => ?_, fun i F2 H2 g x H3 hi t1 t2 _ gen hy => ?_⟩⟩
        · rw [List.length_reverse] at hi
          obtain ⟨v, hv, _⟩ := ra.get (List.getElem?_eq_getElem (show zs.length - 1 - i < zs.length by omega))
          exact ⟨by omega, vs, v, SqL.of (at' F2 H2 t1 t2), by rw [hl]; exact hv⟩
        · show vs.length ≤ _
          rw [List.length_reverse, hl]
          exact Nat.le_refl _
        · obtain ⟨rfl, hx⟩ := hy
          obtain ⟨d, hd, rd⟩ := ra.getV (hx vs (SqL.of (at' F2 _ t1 t2)))
          refine ⟨F2, d, ?_, .refl t2 gen, rd.up t1⟩
          rw [List.length_reverse] at hi
          rw [List.getElem?_reverse hi, ← hl]
          exact hd
    · exact absurd o not_ok_stuck
end
end DL

/-! ## DComp -/
set_option Elab.async false
set_option autoImplicit false
set_option linter.all false
set_option maxRecDepth 100000
set_option maxHeartbeats 4000000
/-! DComp: list comprehensions, by plain data. -/
namespace DL
open PySem PySem.Spec PyProof.Rows L2

/-- as Stp, but for the list at L that is being filled -/
structure StpX (c : C) (L : Addr) (F H F' H' : Hp) (g : Gs) : Prop where
  sub : Same F F'
  ext : ∀ a o, a ≠ L → c.ga ≠ some a → H a = some o → H' a = some o
  new : ∀ a, F' a ≠ none → F a = none → H a = none
  le : Same F' H'
  gen : GenOk c F' H' g
  fd : F' L = none
  bl : c.bo L = none
section
variable {c : C} {L : Addr} {F H F1 H1 F2 H2 : Hp} {g g1 g2 : Gs}
theorem StpX.refl (le : Same F H) (gen : GenOk c F H g) (h : F L = none) (hb : c.bo L = none) : StpX c L F H F H g := ⟨Same.refl F, fun _ _ _ _ e => e, fun _ h1 h2 => absurd h2 h1, le, gen, h, hb⟩
theorem StpX.andThen (x : StpX c L F H F1 H1 g1) (y : Stp c F1 H1 F2 H2 g2) (hL : H1 L ≠ none) : StpX c L F H F2 H2 g2 := by
  refine ⟨x.sub.trans y.sub, fun a o n1 n2 e => y.ext a o n2 (x.ext a o n1 n2 e), fun a h1 h2 => ?_, y.le, y.gen, ?_, x.bl⟩
  · by_cases h : F1 a = none
    · have q := y.new a h1 h
      cases e : H a with
      | none => rfl
      | some o =>
        by_cases n : c.ga = some a
        · exact absurd (y.gen.gen a n).1 h1
        · by_cases m : a = L
          · subst m; exact absurd q hL
          · rw [x.ext a o m n e] at q; cases q
    · exact x.new a h h2
  · by_cases h : F2 L = none
    · exact h
    · exact absurd (y.new L h x.fd) hL
theorem StpX.put {o : HO} (x : StpX c L F H F1 H1 g1) (n : c.ga ≠ some L) : StpX c L F H F1 (upd H1 L o) g1 := by
  refine ⟨x.sub, fun a u n1 n2 e => ?_, x.new, fun b u e => ?_, ⟨fun a e => ?_, fun b u e => by rw [upd_ne (ne_of_none e x.bl)]; exact x.gen.bo b u e, x.gen.nb⟩, x.fd, x.bl⟩
  · rw [upd_ne n1]; exact x.ext a u n1 n2 e
  · rw [upd_ne (ne_of_none e x.fd)]; exact x.le b u e
  · obtain ⟨q1, q2⟩ := x.gen.gen a e
    rw [upd_ne (fun z => n (by rw [← z]; exact e))]
    exact ⟨q1, q2⟩
theorem StpX.trans (x : StpX c L F H F1 H1 g1) (y : StpX c L F1 H1 F2 H2 g2) (hL : H L ≠ none) (hL1 : H1 L ≠ none) : StpX c L F H F2 H2 g2 := by
  refine ⟨x.sub.trans y.sub, fun a o n1 n2 e => y.ext a o n1 n2 (x.ext a o n1 n2 e), fun a h1 h2 => ?_, y.le, y.gen, y.fd, x.bl⟩
  by_cases h : F1 a = none
  · have q := y.new a h1 h
    cases e : H a with
    | none => rfl
    | some o =>
      by_cases n : c.ga = some a
      · exact absurd (y.gen.gen a n).1 h1
      · by_cases m : a = L
        · subst m; exact absurd q hL1
        · rw [x.ext a o m n e] at q; cases q
  · exact x.new a h h2
/-- the list is full, and relied on -/
theorem StpX.close {o o0 : HO} (x : StpX c L F (upd H L o0) F1 H1 g1) (hL : H L = none) (hn : c.ga ≠ some L) (e : H1 L = some o) : Stp c F H (upd F1 L o) H1 g1 := by
  refine ⟨fun b u eb => ?_, fun a u n eb => ?_, fun a h1 h2 => ?_, fun b u eb => ?_, ⟨fun a n => ?_, x.gen.bo, x.gen.nb⟩⟩
  · have q := x.sub b u eb
    rw [upd_ne (ne_of_none q x.fd)]; exact q
  · have ne : a ≠ L := ne_of_none eb hL
    exact x.ext a u ne n (by rw [upd_ne ne]; exact eb)
  · by_cases m : a = L
    · rw [m]; exact hL
    · rw [upd_ne m] at h1
      have q := x.new a h1 h2
      rw [upd_ne m] at q
      exact q
  · by_cases m : b = L
    · subst m; rw [upd_same] at eb; rw [← eb]; exact e
    · rw [upd_ne m] at eb; exact x.le b u eb
  · obtain ⟨q1, q2⟩ := x.gen.gen a n
    have m : a ≠ L := fun z => hn (by rw [← z]; exact n)
    rw [upd_ne m]
    exact ⟨q1, q2⟩
end
theorem Wd.stepX {c : C} {L : Addr} {H0 F H F' H' : Hp} {σ : L2.St} {δ : Dlt} {g g' : Gs} (w : Wd c H0 F H σ δ g) (nd : ∀ (i : Nat) (xs : List D), δ[i]? = some (Sl.own xs) → σ[i]? ≠ some (some (V.ref L))) (s : StpX c L F H F' H' g') : Wd c H0 F' H' σ δ g' := by
  refine ⟨s.le, s.gen, w.len, fun i d e => ?_, fun i xs e => ?_, w.apart, w.bo0⟩
  · obtain ⟨v, e1, r⟩ := w.val i d e
    exact ⟨v, e1, r.up s.sub⟩
  · obtain ⟨a, vs, e1, e2, e3, e4, e5, r⟩ := w.own i xs e
    have ne : a ≠ L := fun z => nd i xs e (by rw [e1, z])
    refine ⟨a, vs, e1, s.ext _ _ ne e5 e2, ?_, e4, e5, r.up s.sub⟩
    by_cases h : F' a = none
    · exact h
    · have q := s.new a h e3
      rw [e2] at q; cases q
theorem wipeD_len (δ : Dlt) : ∀ vs : List Nat, (wipeD δ vs).length = δ.length
  | [] => rfl
  | v :: vs => by unfold wipeD; rw [List.length_set, wipeD_len δ vs]
theorem wipe_own {σ : L2.St} {δ : Dlt} {i : Nat} {xs : List D} (hl : δ.length = σ.length) : ∀ {vs : List Nat}, (wipeD δ vs)[i]? = some (Sl.own xs) → δ[i]? = some (Sl.own xs) ∧ (wipe σ vs)[i]? = σ[i]?
  | [], h => ⟨h, rfl⟩
  | v :: vs, h => by
    unfold wipeD at h
    by_cases hi : v = i
    · subst hi
      by_cases hv : v < (wipeD δ vs).length
      · rw [List.getElem?_set_self hv] at h; cases h
      · rw [List.getElem?_eq_none (by simpa using hv)] at h; cases h
    · rw [List.getElem?_set_ne hi] at h
      obtain ⟨h1, h2⟩ := wipe_own hl h
      refine ⟨h1, ?_⟩
      unfold wipe
      rw [List.getElem?_set_ne hi]
      exact h2

section
variable {c : C}
/-- one list comprehension's loop: it fills the list at L -/
theorem lc_loop {J : It} {bs : List Addr} {F1 H1 : Hp} {ds : List D} {gd : G} {is : List Nat} {ft fe : E} {vs : List Nat} {H0 : Hp} {σ : L2.St} {δ : Dlt} {g1 g2 : Gs} {L : Addr} {us0 : List V} {ys0 ys : List D} {Nx : Hp → Prop}
    (his : ∀ i ∈ is, i ∈ vs) (wk : WalkD c J bs F1 H1 ds) (hbL : ∀ b ∈ bs, b ≠ L) (w : Wd c H0 F1 H1 σ δ g1) (nd : ∀ (i : Nat) (xs : List D), δ[i]? = some (Sl.own xs) → σ[i]? ≠ some (some (V.ref L))) (nga : c.ga ≠ some L)
    (hL : H1 L = some (.lst us0)) (hF : F1 L = none) (hbo : c.bo L = none) (r0 : RepAll c F1 us0 ys0) (hz : ys0.length + ys.length ≤ sizeLine) (ok : Ok (lcGo gd ft fe (wipeD δ vs) ds) g1 ys g2)
    (fin : ∀ F' H' us, StpX c L F1 H1 F' H' g2 → H' L = some (.lst us) → RepAll c F' us (ys0 ++ ys) → Nx H') :
    ∃ W : Nat → Nat → Hp → Prop, (∃ m, W 0 m H1) ∧ ∀ i m H, W i m H →
      (J.stop i H ∧ Nx H) ∨ (J.go i H ∧ ∃ N1 : Hp → Prop, (∀ H', N1 H' → ∃ m', m' < m ∧ W (i + 1) m' H') ∧ ∀ x H', J.yld i H x H' → gD c gd is x (wipe σ vs) H' fun σ2 H2 => wipe σ2 vs = wipe σ vs ∧ tT c ft σ2 H2 fun b H3 =>
        if b = true then tP c fe σ2 H3 fun y H4 => ∃ acc, H4 L = some (.lst acc) ∧ acc.length < sizeLine ∧ N1 (upd H4 L (.lst (acc ++ [y]))) else N1 H3) := by
  let Pv : Nat → Hp → Prop := fun i H' => ∃ F' g' us ys1 ys2, StpX c L F1 H1 F' H' g' ∧ H' L = some (.lst us) ∧ RepAll c F' us (ys0 ++ ys1) ∧ Ok (lcGo gd ft fe (wipeD δ vs) (ds.drop i)) g' ys2 g2 ∧ ys = ys1 ++ ys2
  refine ⟨fun i m H => m = ds.length - i ∧ i ≤ ds.length ∧ Pv i H, ⟨ds.length, by simp, Nat.zero_le _, F1, g1, us0, [], ys, .refl w.le w.gen hF hbo, hL, by simpa using r0, ok, rfl⟩, ?_⟩
  rintro i m H ⟨rfl, hi, F', g', us, ys1, ys2, sx, eL, ra, ok', rfl⟩
  have keepb : ∀ b ∈ bs, H b = H1 b := fun b hb => by
    obtain ⟨k1, k2⟩ := wk.bk b hb
    cases e : H1 b with
    | none => exact absurd e k1
    | some o => exact sx.ext b o (hbL b hb) k2 e
  by_cases hlt : i < ds.length
  · refine .inr ⟨wk.goes i F' H hlt sx.sub sx.le keepb sx.gen.bo, Pv (i + 1), fun H' p' => ⟨ds.length - (i + 1), by omega, rfl, hlt, p'⟩, fun x H' hy => ?_⟩
    obtain ⟨F2, d, hd, st, rx⟩ := wk.yields i F' H g' x H' hlt sx.sub sx.le keepb sx.gen hy
    rw [List.drop_eq_getElem_cons hlt] at ok'
    rw [List.getElem?_eq_getElem hlt] at hd
    cases hd
    unfold lcGo at ok'
    obtain ⟨δ', g'', ok1, ok2⟩ := ok_bind.mp ok'
    have hgd : gd ds[i] (wipeD δ vs) = some δ' ∧ g' = g'' := by
      unfold liftG at ok1
      split at ok1
      · rename_i e
        obtain ⟨rfl, rfl⟩ := ok_pure.mp ok1
        exact ⟨e, rfl⟩
      · exact absurd ok1 not_ok_stuck
    obtain ⟨hgd, rfl⟩ := hgd
    obtain ⟨b, g3, ok3, ok4⟩ := ok_bind.mp ok2
    have w2 : Wd c H0 F2 H' (wipe σ vs) (wipeD δ vs) g' := ((w.wipe vs).stepX (fun j xs hj => by
      obtain ⟨a1, a2⟩ := wipe_own w.len hj
      rw [a2]
      exact nd j xs a1) sx).step st
    have eL' : H' L = some (.lst us) := st.ext _ _ nga eL
    refine ⟨H0, F2, wipeD δ vs, g', ds[i], δ', w2, rx, hgd, fun σ' w3 k l => ⟨by rw [k vs his, wipe_wipe], ?_⟩⟩
    have sx2 : StpX c L F1 H1 F2 H' g' := sx.andThen st (by rw [eL]; simp)
    cases b with
    | bl b =>
      refine ⟨H0, F2, δ', g', b, g3, w3, ok3, fun F3 H3 s3 => ?_⟩
      have eL3 : H3 L = some (.lst us) := s3.ext _ _ nga eL'
      cases b with
      | true =>
        obtain ⟨y, g4, ok5, ok6⟩ := ok_bind.mp ok4
        obtain ⟨rest, g5, ok7, ok8⟩ := ok_bind.mp ok6
        obtain ⟨rfl, rfl⟩ := ok_pure.mp ok8
        refine iteT ⟨H0, F3, δ', g3, y, g4, w3.step s3, ok5, fun v F4 H4 s4 r4 => ?_⟩
        have eL4 : H4 L = some (.lst us) := s4.ext _ _ nga eL3
        have lus := ra.length
        simp only [List.length_append, List.length_cons] at hz lus
        refine ⟨us, eL4, by omega, F4, g4, us ++ [v], ys1 ++ [y], rest, ?_, upd_same, ?_, ok7, by simp⟩
        · exact ((sx2.andThen s3 (by rw [eL']; simp)).andThen s4 (by rw [eL3]; simp)).put nga
        · rw [← List.append_assoc]
          exact (((ra.up st.sub).up s3.sub).up s4.sub).append (.cons r4 .nil)
      | false =>
        refine iteF ?_
        exact ⟨F3, g3, us, ys1, ys2, sx2.andThen s3 (by rw [eL']; simp), eL3, (ra.up st.sub).up s3.sub, ok4, rfl⟩
    | _ => exact absurd ok4 not_ok_stuck
  · have e : i = ds.length := by omega
    subst e
    rw [List.drop_length] at ok'
    obtain ⟨rfl, rfl⟩ := ok_pure.mp ok'
    refine .inl ⟨wk.stops F' H sx.sub sx.le keepb sx.gen.bo, fin F' H us sx eL ?_⟩
    simpa using ra
theorem lc_imp {src : Es} {gd : G} {is : List Nat} {ft fe : E} {vs : List Nat} (his : ∀ i ∈ is, i ∈ vs) : ∀ σ H Q, tP c (eLc vs gd src ft fe) σ H Q → tLc (iB c src) (gD c gd is) (tT c ft) (tP c fe) vs σ H Q := fun σ H Q ⟨H0, F, δ, g, d, g', w, o, q⟩ => by
  obtain ⟨ds, g1, o1, o⟩ := ok_bind.mp o
  obtain ⟨ys, g2, o2, o⟩ := ok_bind.mp o
  split at o
  · rename_i hl
    obtain ⟨rfl, rfl⟩ := ok_pure.mp o
    refine ⟨H0, F, δ, g, ds, g1, w, o1, fun J bs F1 H1 s1 wk L hL => ?_⟩
    have nga : c.ga ≠ some L := fun e => by
      obtain ⟨_, q2⟩ := s1.gen.gen L e
      rw [hL] at q2; cases q2
    have hbo : c.bo L = none := by
      cases e : c.bo L with
      | none => rfl
      | some u => rw [s1.gen.bo L u e] at hL; cases hL
    have st := Stp.tmp (o := .lst []) s1.le s1.gen hL
    have w1 := (w.step s1)
    have hbL : ∀ b ∈ bs, b ≠ L := fun b hb z => (wk.bk b hb).1 (by rw [z]; exact hL)
    have wk' : WalkD c J bs F1 (upd H1 L (.lst [])) ds := ⟨fun b hb => ⟨by rw [upd_ne (hbL b hb)]; exact (wk.bk b hb).1, (wk.bk b hb).2⟩, fun i F2 H2 hi t1 t2 t3 => wk.goes i F2 H2 hi t1 t2 (fun b hb => by rw [t3 b hb, upd_ne (hbL b hb)]),
      fun F2 H2 t1 t2 t3 => wk.stops F2 H2 t1 t2 (fun b hb => by rw [t3 b hb, upd_ne (hbL b hb)]), fun i F2 H2 g x H3 hi t1 t2 t3 => wk.yields i F2 H2 g x H3 hi t1 t2 fun b hb => by rw [t3 b hb, upd_ne (hbL b hb)]⟩
    have fL : F1 L = none := by
      cases e : F1 L with
      | none => rfl
      | some u => rw [s1.le L u e] at hL; cases hL
    refine lc_loop his wk' hbL (w1.step st) (fun i xs e => ?_) nga upd_same fL hbo .nil (by simpa using lim_le hl) o2 fun F' H' us sx eL ra => ?_
    · obtain ⟨a, _, e1, e2, _⟩ := w1.own i xs e
      rw [e1]
      intro z
      cases z
      rw [hL] at e2; cases e2
    · have fin := sx.close hL nga eL
      exact q _ _ _ (s1.trans fin) (.lst upd_same (ra.up fun b u e => by rw [upd_ne (ne_of_none e sx.fd)]; exact e))
  · exact absurd o not_ok_stuck
theorem lc2_imp {src src1 : Es} {gd gd1 : G} {is is1 : List Nat} {ft ft1 fe : E} {vs vs1 : List Nat} (his : ∀ i ∈ is, i ∈ vs) (his1 : ∀ i ∈ is1, i ∈ vs1) :
    ∀ σ H Q, tP c (eLc2 vs vs1 gd src ft gd1 src1 ft1 fe) σ H Q → tLc2 (iB c src) (gD c gd is) (tT c ft) (iD c src1) (gD c gd1 is1) (tT c ft1) (tP c fe) vs vs1 σ H Q := fun σ H Q ⟨H0, F, δ, g, d, g', w, o, q⟩ => by
  obtain ⟨ds, g1, o1, o⟩ := ok_bind.mp o
  obtain ⟨ys, g2, o2, o⟩ := ok_bind.mp o
  split at o
  · rename_i hl
    obtain ⟨rfl, rfl⟩ := ok_pure.mp o
    refine ⟨H0, F, δ, g, ds, g1, w, o1, fun J bs F1 H1 s1 wk L hL => ?_⟩
    have nga : c.ga ≠ some L := fun e => by
      obtain ⟨_, q2⟩ := s1.gen.gen L e
      rw [hL] at q2; cases q2
    have hbo : c.bo L = none := by
      cases e : c.bo L with
      | none => rfl
      | some u => rw [s1.gen.bo L u e] at hL; cases hL
    have st0 := Stp.tmp (o := .lst []) s1.le s1.gen hL
    have w1 := (w.step s1)
    have hbL : ∀ b ∈ bs, b ≠ L := fun b hb z => (wk.bk b hb).1 (by rw [z]; exact hL)
    have fL : F1 L = none := by
      cases e : F1 L with
      | none => rfl
      | some u => rw [s1.le L u e] at hL; cases hL
    have nd : ∀ (i : Nat) (xs : List D), δ[i]? = some (Sl.own xs) → σ[i]? ≠ some (some (V.ref L)) := fun i xs e => by
      obtain ⟨a, _, e1, e2, _⟩ := w1.own i xs e
      rw [e1]
      intro z
      cases z
      rw [hL] at e2; cases e2
    let Pv : Nat → Hp → Prop := fun i H' => ∃ F' g' us ys1 ys2, StpX c L F1 (upd H1 L (.lst [])) F' H' g' ∧ H' L = some (.lst us) ∧ RepAll c F' us ys1 ∧
      Ok (lc2Go gd ft (fun δ' => src1 δ' >>= fun zs => lcGo gd1 ft1 fe (wipeD δ' vs1) zs) (wipeD δ vs) (ds.drop i)) g' ys2 g2 ∧ ys = ys1 ++ ys2
    refine ⟨fun i m H => m = ds.length - i ∧ i ≤ ds.length ∧ Pv i H, ⟨ds.length, by simp, Nat.zero_le _, F1, g1, [], [], ys, .refl st0.le st0.gen fL hbo, upd_same, .nil, o2, rfl⟩, ?_⟩
    rintro i m H ⟨rfl, hi, F', g', us, ys1, ys2, sx, eL, ra, ok', rfl⟩
    have keepb : ∀ b ∈ bs, H b = H1 b := fun b hb => by
      obtain ⟨k1, k2⟩ := wk.bk b hb
      cases e : H1 b with
      | none => exact absurd e k1
      | some o => exact sx.ext b o (hbL b hb) k2 (by rw [upd_ne (hbL b hb)]; exact e)
    by_cases hlt : i < ds.length
    · refine .inr ⟨wk.goes i F' H hlt sx.sub sx.le keepb sx.gen.bo, Pv (i + 1), fun H' p' => ⟨ds.length - (i + 1), by omega, rfl, hlt, p'⟩, fun x H' hy => ?_⟩
      obtain ⟨F2, d, hd, st, rx⟩ := wk.yields i F' H g' x H' hlt sx.sub sx.le keepb sx.gen hy
      rw [List.drop_eq_getElem_cons hlt] at ok'
      rw [List.getElem?_eq_getElem hlt] at hd
      cases hd
      unfold lc2Go at ok'
      obtain ⟨δ', g'', ok1, ok2⟩ := ok_bind.mp ok'
      have hgd : gd ds[i] (wipeD δ vs) = some δ' ∧ g' = g'' := by
        unfold liftG at ok1
        split at ok1
        · rename_i e
          obtain ⟨rfl, rfl⟩ := ok_pure.mp ok1
          exact ⟨e, rfl⟩
        · exact absurd ok1 not_ok_stuck
      obtain ⟨hgd, rfl⟩ := hgd
      obtain ⟨b, g3, ok3, ok4⟩ := ok_bind.mp ok2
      have w2 : Wd c H0 F2 H' (wipe σ vs) (wipeD δ vs) g' := (((w1.step st0).wipe vs).stepX (fun j xs hj => by
        obtain ⟨a1, a2⟩ := wipe_own w.len hj
        rw [a2]
        exact nd j xs a1) sx).step st
      have eL' : H' L = some (.lst us) := st.ext _ _ nga eL
      refine ⟨H0, F2, wipeD δ vs, g', ds[i], δ', w2, rx, hgd, fun σ' w3 k l => ⟨by rw [k vs his, wipe_wipe], ?_⟩⟩
      have sx2 : StpX c L F1 (upd H1 L (.lst [])) F2 H' g' := sx.andThen st (by rw [eL]; simp)
      have nd3 : ∀ (j : Nat) (xs : List D), δ'[j]? = some (Sl.own xs) → σ'[j]? ≠ some (some (V.ref L)) := fun j xs hj => by
        obtain ⟨a1, a2⟩ := l j xs hj
        rw [a2]
        obtain ⟨b1, b2⟩ := wipe_own w.len a1
        rw [b2]
        exact nd j xs b1
      cases b with
      | bl b =>
        refine ⟨H0, F2, δ', g', b, g3, w3, ok3, fun F3 H3 s3 => ?_⟩
        have eL3 : H3 L = some (.lst us) := s3.ext _ _ nga eL'
        cases b with
        | true =>
          obtain ⟨zs, g4, ok5, ok6⟩ := ok_bind.mp ok4
          obtain ⟨rest, g5, ok7, ok8⟩ := ok_bind.mp ok6
          obtain ⟨rfl, rfl⟩ := ok_pure.mp ok8
          obtain ⟨es, g6, ok9, ok10⟩ := ok_bind.mp ok5
          refine iteT ⟨H0, F3, δ', g3, es, g6, w3.step s3, ok9, fun J1 F4 H4 s4 wk1 => ?_⟩
          have eL4 : H4 L = some (.lst us) := s4.ext _ _ nga eL3
          have lus := ra.length
          have hz := lim_le hl
          simp only [List.length_append] at hz
          have sx4 : StpX c L F1 (upd H1 L (.lst [])) F4 H4 g6 := (sx2.andThen s3 (by rw [eL']; simp)).andThen s4 (by rw [eL3]; simp)
          refine lc_loop his1 wk1 (fun _ z => nomatch z) ((w3.step s3).step s4) nd3 nga eL4 sx4.fd hbo (((ra.up st.sub).up s3.sub).up s4.sub) (by omega) ok10 fun F5 H5 us5 sx5 eL5 ra5 => ?_
          exact ⟨F5, g4, us5, ys1 ++ zs, rest, sx4.trans sx5 (by rw [upd_same]; simp) (by rw [eL4]; simp), eL5, ra5, ok7, by simp⟩
        | false =>
          refine iteF ?_
          exact ⟨F3, g3, us, ys1, ys2, sx2.andThen s3 (by rw [eL']; simp), eL3, (ra.up st.sub).up s3.sub, ok4, rfl⟩
      | _ => exact absurd ok4 not_ok_stuck
    · have e : i = ds.length := by omega
      subst e
      rw [List.drop_length] at ok'
      obtain ⟨rfl, rfl⟩ := ok_pure.mp ok'
      refine .inl ⟨wk.stops F' H sx.sub sx.le keepb sx.gen.bo, ?_⟩
      have fin := sx.close hL nga eL
      rw [List.append_nil] at q
      exact q _ _ _ (s1.trans fin) (.lst upd_same (ra.up fun b u e => by rw [upd_ne (ne_of_none e sx.fd)]; exact e))
  · exact absurd o not_ok_stuck
section
variable {X : Cx} {elt tg iter tg1 iter1 : Expr} {ifs ifs1 : List Expr} {scope : Scope} {own : List (Str × Nat)} {vs1 : List Nat} {pos : Pos} {src src1 : Es} {gd gd1 : G} {is is1 : List Nat} {ft ft1 fe : E}
theorem _root_.L2.PTs.imp {X : Cx} {e : List Expr} {t t' : TT} (h : PTs X e t) (i : ∀ σ H Q, t' σ H Q → t σ H Q) : PTs X e t' := ⟨fun pins s σ H Q I q => h.run pins s σ H Q I (i σ H Q q)⟩
theorem dts_nil : PTs X [] (tT c (eK (.bl true))) := pts_nil.imp fun σ H Q ⟨H0, F, δ, g, b, g', w, o, q⟩ => by
  obtain ⟨e, rfl⟩ := ok_pure.mp o
  cases e
  exact q F H (.refl w.le w.gen)
theorem dts_one {e : Expr} {f : E} (h : PT X e (tT c f)) : PTs X [e] (tT c f) := pts_one h
/-- [elt for tg in iter if ..] -/
theorem d_lc (hc : X.calm = true) (hN : X.N.Nodup) (ok : BlkOk X.N X.env.scope scope own) (hi : PI X tg iter (iB c src)) (hg : ∀ (s : Shared) (H : Hp) (C : Addr) (cl : List (Str × Addr)) (fp : List Addr), PG (X.blk s H scope (compEnvC scope cl C X.env) fp) tg (gD c gd is))
    (ht : ∀ (s : Shared) (H : Hp) (C : Addr) (cl : List (Str × Addr)) (fp : List Addr), PTs (X.blk s H scope (compEnvC scope cl C X.env) fp) ifs (tT c ft)) (he : ∀ (s : Shared) (H : Hp) (C : Addr) (cl : List (Str × Addr)) (fp : List Addr), PE (X.blk s H scope (compEnvC scope cl C X.env) fp) elt (tP c fe))
    (his : ∀ i ∈ is, i ∈ own.map (·.2) := by decide) (hs : ∀ x, foldedSetIterable iter X.env x = pure x := by intro _; rfl) : PE X (.ListComp elt [⟨tg, iter, ifs, 0⟩] scope pos) (tP c (eLc (own.map (·.2)) gd src ft fe)) :=
  (pe_lc hc hN hi ok hg ht he hs).imp (lc_imp his)
/-- [elt for tg in iter if .. for tg1 in iter1 if ..] -/
theorem d_lc2 (vs1 : List Nat) (hc : X.calm = true) (hN : X.N.Nodup) (ok : BlkOk X.N X.env.scope scope own) (hi : PI X tg iter (iB c src)) (hg : ∀ (s : Shared) (H : Hp) (C : Addr) (cl : List (Str × Addr)) (fp : List Addr), PG (X.blk s H scope (compEnvC scope cl C X.env) fp) tg (gD c gd is))
    (ht : ∀ (s : Shared) (H : Hp) (C : Addr) (cl : List (Str × Addr)) (fp : List Addr), PTs (X.blk s H scope (compEnvC scope cl C X.env) fp) ifs (tT c ft))
    (hi1 : ∀ (s : Shared) (H : Hp) (C : Addr) (cl : List (Str × Addr)) (fp : List Addr), PI (X.blk s H scope (compEnvC scope cl C X.env) fp) tg1 iter1 (iD c src1))
    (hg1 : ∀ (s : Shared) (H : Hp) (C : Addr) (cl : List (Str × Addr)) (fp : List Addr), PG (X.blk s H scope (compEnvC scope cl C X.env) fp) tg1 (gD c gd1 is1)) (ht1 : ∀ (s : Shared) (H : Hp) (C : Addr) (cl : List (Str × Addr)) (fp : List Addr), PTs (X.blk s H scope (compEnvC scope cl C X.env) fp) ifs1 (tT c ft1))
    (he : ∀ (s : Shared) (H : Hp) (C : Addr) (cl : List (Str × Addr)) (fp : List Addr), PE (X.blk s H scope (compEnvC scope cl C X.env) fp) elt (tP c fe))
    (his : ∀ i ∈ is, i ∈ own.map (·.2) := by decide) (his1 : ∀ i ∈ is1, i ∈ vs1 := by decide) (hv : ∀ i ∈ vs1, i ∈ own.map (·.2) := by decide) (hs : ∀ x, foldedSetIterable iter X.env x = pure x := by intro _; rfl) (hs1 : ∀ env x, foldedSetIterable iter1 env x = pure x := by intro _ _; rfl) :
    PE X (.ListComp elt [⟨tg, iter, ifs, 0⟩, ⟨tg1, iter1, ifs1, 0⟩] scope pos) (tP c (eLc2 (own.map (·.2)) vs1 gd src ft gd1 src1 ft1 fe)) :=
  (pe_lc2 hc hN hi ok hv hg ht hi1 hg1 ht1 he hs hs1).imp (lc2_imp his his1)
end
end
end DL

/-! ## DStm -/
set_option Elab.async false
set_option autoImplicit false
set_option linter.all false
set_option maxRecDepth 100000
set_option maxHeartbeats 4000000
/-! DStm: statements, loops, defs and their calls, by plain data. -/
namespace DL
open PySem PySem.Spec PyProof.Rows L2

/-- behind a statement: F0, H0 at the def's entry -/
def tS (c : C) (s : S) : TS := fun D σ H => ∃ F0 H0 F δ g r g', Wd c H0 F H σ δ g ∧ Stp c F0 H0 F H g ∧ Ok (s δ) g r g' ∧ match r with
  | .nx δ' => ∀ σ' F' H', Wd c H0 F' H' σ' δ' g' → Stp c F0 H0 F' H' g' → Same F F' → D.nx σ' H'
  | .rt d => ∀ v F' H', Stp c F0 H0 F' H' g' → Rep c F' v d → D.rt v H'
  | .bk δ' => ∀ σ' F' H', Wd c H0 F' H' σ' δ' g' → Stp c F0 H0 F' H' g' → Same F F' → D.bk σ' H'
  | .ct δ' => ∀ σ' F' H', Wd c H0 F' H' σ' δ' g' → Stp c F0 H0 F' H' g' → Same F F' → D.ct σ' H'
section
variable {X : Cx} {c : C} {a b e : Expr} {st : Stmt} {sts : List Stmt} {s t : S} {f fa fb : E} {pos : Pos}
theorem ds_nil : PSs X [] (tS c sSkip) := pss_nil.imp fun D σ H ⟨F0, H0, F, δ, g, r, g', w, sp, o, q⟩ => by
  obtain ⟨rfl, rfl⟩ := ok_pure.mp o
  exact q σ F H w sp (.refl F)
theorem ds_skip : PS X (.Pass pos) (tS c sSkip) := ps_pass.imp fun D σ H ⟨F0, H0, F, δ, g, r, g', w, sp, o, q⟩ => by
  obtain ⟨rfl, rfl⟩ := ok_pure.mp o
  exact q σ F H w sp (.refl F)
theorem ds_break : PS X (.Break pos) (tS c sBreak) := ps_break.imp fun D σ H ⟨F0, H0, F, δ, g, r, g', w, sp, o, q⟩ => by
  obtain ⟨rfl, rfl⟩ := ok_pure.mp o
  exact q σ F H w sp (.refl F)
theorem ds_cont : PS X (.Continue pos) (tS c sCont) := ps_continue.imp fun D σ H ⟨F0, H0, F, δ, g, r, g', w, sp, o, q⟩ => by
  obtain ⟨rfl, rfl⟩ := ok_pure.mp o
  exact q σ F H w sp (.refl F)
/-- never reached -/
theorem ds_no : PS X st (tS c fun _ => stuck) := ps_never.imp fun D σ H ⟨F0, H0, F, δ, g, r, g', w, sp, o, q⟩ => absurd o not_ok_stuck
theorem dss_no : PSs X sts (tS c fun _ => stuck) := pss_never.imp fun D σ H ⟨F0, H0, F, δ, g, r, g', w, sp, o, q⟩ => absurd o not_ok_stuck
theorem ds_one (h : PS X st (tS c s)) : PSs X [st] (tS c s) := pss_one h
theorem seq_imp : ∀ D σ H, tS c (sSeq s t) D σ H → tSeq (tS c s) (tS c t) D σ H := fun D σ H ⟨F0, H0, F, δ, g, r, g', w, sp, o, q⟩ => by
  obtain ⟨r1, g1, o1, o2⟩ := ok_bind.mp o
  refine ⟨F0, H0, F, δ, g, r1, g1, w, sp, o1, ?_⟩
  cases r1 with
  | nx δ1 =>
    intro σ1 F1 H1 w1 sp1 sm1
    refine ⟨F0, H0, F1, δ1, g1, r, g', w1, sp1, o2, ?_⟩
    cases r with
    | nx δ' => exact fun σ' F' H' w' sp' sm' => q σ' F' H' w' sp' (sm1.trans sm')
    | rt d => exact q
    | bk δ' => exact fun σ' F' H' w' sp' sm' => q σ' F' H' w' sp' (sm1.trans sm')
    | ct δ' => exact fun σ' F' H' w' sp' sm' => q σ' F' H' w' sp' (sm1.trans sm')
  | rt d =>
    obtain ⟨rfl, rfl⟩ := ok_pure.mp o2
    exact q
  | bk δ1 =>
    obtain ⟨rfl, rfl⟩ := ok_pure.mp o2
    exact q
  | ct δ1 =>
    obtain ⟨rfl, rfl⟩ := ok_pure.mp o2
    exact q
theorem ds_cons (h1 : PS X st (tS c s)) (h2 : PSs X sts (tS c t)) : PSs X (st :: sts) (tS c (sSeq s t)) := (pss_cons h1 h2).imp seq_imp
/-- x, (x, y) = e -/
theorem asg_imp {gd : G} {is : List Nat} : ∀ D σ H, tS c (sAsg gd f) D σ H → tAsg (tP c f) (gD c gd is) D σ H := fun D σ H ⟨F0, H0, F, δ, g, r, g', w, sp, o, q⟩ => by
  obtain ⟨d, g1, o1, o⟩ := ok_bind.mp o
  obtain ⟨δ1, g2, o2, o⟩ := ok_bind.mp o
  obtain ⟨rfl, rfl⟩ := ok_pure.mp o
  have hgd : gd d δ = some δ1 ∧ g1 = g2 := by
    unfold liftG at o2
    split at o2
    · rename_i e
      obtain ⟨rfl, rfl⟩ := ok_pure.mp o2
      exact ⟨e, rfl⟩
    · exact absurd o2 not_ok_stuck
  obtain ⟨hgd, rfl⟩ := hgd
  exact ⟨H0, F, δ, g, d, g1, w, o1, fun v F1 H1 s1 r1 => ⟨H0, F1, δ, g1, d, δ1, w.step s1, r1, hgd, fun σ' w' _ _ => q σ' F1 H1 w' (sp.trans s1) s1.sub⟩⟩
theorem ds_asg {tg : Expr} {gd : G} {is : List Nat} (he : PE X e (tP c f)) (hg : PG X tg (gD c gd is)) (hs : swapsWithSole [tg] e pos.line X.env = pure false := by rfl) (hw : swappedStores [tg] e X.env = pure none := by rfl) (h1 : (assignEach [tg] X.env).map (·.2) = [assign tg X.env] := by rfl) : PS X (.Assign [tg] e pos) (tS c (sAsg gd f)) := (ps_asg he hg hs hw h1).imp asg_imp
/-- x = [..] that is a comprehension -/
theorem name_imp {te : TE} {i : Nat} (h : ∀ σ H Q, tP c f σ H Q → te σ H Q) : ∀ D σ H, tS c (sAsg (gN i) f) D σ H → tAsg te (gName i) D σ H := fun D σ H q => by
  obtain ⟨H0, F, δ, g, d, g', w, o, k⟩ := asg_imp (is := [i]) D σ H q
  refine h σ H _ ⟨H0, F, δ, g, d, g', w, o, fun v F' H' s r => ?_⟩
  obtain ⟨H1, F1, δ1, g1, d1, δ', w1, r1, o1, k1⟩ := k v F' H' s r
  cases o1
  refine k1 _ (w1.set r1) (fun vs hv => wipe_set (hv i (List.mem_singleton.mpr rfl))) fun j xs hj => ?_
  by_cases e : i = j
  · subst e
    by_cases hl : i < δ1.length
    · rw [List.getElem?_set_self hl] at hj; cases hj
    · rw [List.getElem?_eq_none (by simpa using hl)] at hj; cases hj
  · rw [List.getElem?_set_ne e] at hj ⊢
    exact ⟨hj, rfl⟩
section
variable {elt tg iter tg1 iter1 : Expr} {ifs ifs1 : List Expr} {scope : Scope} {own : List (Str × Nat)} {spos : Pos} {src src1 : Es} {gd gd1 : G} {is is1 : List Nat} {ft ft1 fe : E} {i : Nat} {y : Str} {py : Pos}
theorem ds_lc (hc : X.calm = true) (hN : X.N.Nodup) (hy : X.N[i]? = some y) (hyl : X.env.scope.names.lookup y = some .local) (hsw : swapsWith (.ListComp elt [⟨tg, iter, ifs, 0⟩] scope pos) (some (.Name y py)) spos.line X.env = pure true)
    (ok : BlkOk X.N X.env.scope scope own) (hi : PI X tg iter (iB c src)) (hg : ∀ (s : Shared) (H : Hp) (C : Addr) (cl : List (Str × Addr)) (fp : List Addr), PG (X.blk s H scope (compEnvC scope cl C X.env) fp) tg (gD c gd is))
    (ht : ∀ (s : Shared) (H : Hp) (C : Addr) (cl : List (Str × Addr)) (fp : List Addr), PTs (X.blk s H scope (compEnvC scope cl C X.env) fp) ifs (tT c ft)) (he : ∀ (s : Shared) (H : Hp) (C : Addr) (cl : List (Str × Addr)) (fp : List Addr), PE (X.blk s H scope (compEnvC scope cl C X.env) fp) elt (tP c fe))
    (his : ∀ i ∈ is, i ∈ own.map (·.2) := by decide) (hs : ∀ x, foldedSetIterable iter X.env x = pure x := by intro _; rfl) : PS X (.Assign [.Name y py] (.ListComp elt [⟨tg, iter, ifs, 0⟩] scope pos) spos) (tS c (sAsg (gN i) (eLc (own.map (·.2)) gd src ft fe))) :=
  (ps_setLc hc hN hy hyl hsw hi ok hg ht he hs).imp (name_imp (lc_imp his))
theorem ds_lc2 (vs1 : List Nat) (hc : X.calm = true) (hN : X.N.Nodup) (hy : X.N[i]? = some y) (hyl : X.env.scope.names.lookup y = some .local) (hsw : swapsWith (.ListComp elt [⟨tg, iter, ifs, 0⟩, ⟨tg1, iter1, ifs1, 0⟩] scope pos) (some (.Name y py)) spos.line X.env = pure true)
    (ok : BlkOk X.N X.env.scope scope own) (hi : PI X tg iter (iB c src)) (hg : ∀ (s : Shared) (H : Hp) (C : Addr) (cl : List (Str × Addr)) (fp : List Addr), PG (X.blk s H scope (compEnvC scope cl C X.env) fp) tg (gD c gd is))
    (ht : ∀ (s : Shared) (H : Hp) (C : Addr) (cl : List (Str × Addr)) (fp : List Addr), PTs (X.blk s H scope (compEnvC scope cl C X.env) fp) ifs (tT c ft))
    (hi1 : ∀ (s : Shared) (H : Hp) (C : Addr) (cl : List (Str × Addr)) (fp : List Addr), PI (X.blk s H scope (compEnvC scope cl C X.env) fp) tg1 iter1 (iD c src1))
    (hg1 : ∀ (s : Shared) (H : Hp) (C : Addr) (cl : List (Str × Addr)) (fp : List Addr), PG (X.blk s H scope (compEnvC scope cl C X.env) fp) tg1 (gD c gd1 is1)) (ht1 : ∀ (s : Shared) (H : Hp) (C : Addr) (cl : List (Str × Addr)) (fp : List Addr), PTs (X.blk s H scope (compEnvC scope cl C X.env) fp) ifs1 (tT c ft1))
    (he : ∀ (s : Shared) (H : Hp) (C : Addr) (cl : List (Str × Addr)) (fp : List Addr), PE (X.blk s H scope (compEnvC scope cl C X.env) fp) elt (tP c fe))
    (his : ∀ i ∈ is, i ∈ own.map (·.2) := by decide) (his1 : ∀ i ∈ is1, i ∈ vs1 := by decide) (hv : ∀ i ∈ vs1, i ∈ own.map (·.2) := by decide) (hs : ∀ x, foldedSetIterable iter X.env x = pure x := by intro _; rfl) (hs1 : ∀ env x, foldedSetIterable iter1 env x = pure x := by intro _ _; rfl) :
    PS X (.Assign [.Name y py] (.ListComp elt [⟨tg, iter, ifs, 0⟩, ⟨tg1, iter1, ifs1, 0⟩] scope pos) spos) (tS c (sAsg (gN i) (eLc2 (own.map (·.2)) vs1 gd src ft gd1 src1 ft1 fe))) :=
  (ps_setLc2 hc hN hy hyl hsw hi ok hv hg ht hi1 hg1 ht1 he hs hs1).imp (name_imp (lc2_imp his his1))
end
/-- x, y = a, b -/
theorem ds_par {i j : Nat} (hij : i ≠ j) (h : PS X st (tPar i j (tCons (tP c fa) (tCons (tP c fb) tNil)))) : PS X st (tS c (sPar i j fa fb)) := h.imp fun D σ H ⟨F0, H0, F, δ, g, r, g', w, sp, o, q⟩ => by
  obtain ⟨d, g1, o1, o⟩ := ok_bind.mp o
  obtain ⟨e, g2, o2, o⟩ := ok_bind.mp o
  obtain ⟨rfl, rfl⟩ := ok_pure.mp o
  exact ⟨H0, F, δ, g, d, g1, w, o1, fun v F1 H1 s1 r1 => ⟨H0, F1, δ, g1, e, g2, w.step s1, o2, fun u F2 H2 s2 r2 => ⟨v, u, rfl, q _ F2 H2 ((((w.step s1).step s2).set (r1.up s2.sub)).set r2) ((sp.trans s1).trans s2) (s1.sub.trans s2.sub)⟩⟩⟩
theorem ds_if {ca : Expr} {xs ys : List Stmt} {fc : E} (hc : PT X ca (tT c fc)) (ha : PSs X xs (tS c s)) (hb : PSs X ys (tS c t)) : PS X (.If ca xs ys pos) (tS c (sIf fc s t)) := (ps_if hc ha hb).imp fun D σ H ⟨F0, H0, F, δ, g, r, g', w, sp, o, q⟩ => by
  obtain ⟨x, g1, o1, o⟩ := ok_bind.mp o
  have fin : ∀ (u : S) F1 H1, Stp c F H F1 H1 g1 → Ok (u δ) g1 r g' → tS c u D σ H1 := fun u F1 H1 s1 ou => by
    refine ⟨F0, H0, F1, δ, g1, r, g', w.step s1, sp.trans s1, ou, ?_⟩
    cases r with
    | nx δ' => exact fun σ' F' H' w' sp' sm' => q σ' F' H' w' sp' (s1.sub.trans sm')
    | rt d => exact q
    | bk δ' => exact fun σ' F' H' w' sp' sm' => q σ' F' H' w' sp' (s1.sub.trans sm')
    | ct δ' => exact fun σ' F' H' w' sp' sm' => q σ' F' H' w' sp' (s1.sub.trans sm')
  split at o
  · exact ⟨H0, F, δ, g, true, g1, w, o1, fun F1 H1 s1 => iteT (fin s F1 H1 s1 o)⟩
  · exact ⟨H0, F, δ, g, false, g1, w, o1, fun F1 H1 s1 => iteF (fin t F1 H1 s1 o)⟩
  · exact absurd o not_ok_stuck
theorem ds_ret (he : PE X e (tP c f)) : PS X (.Return (some e) pos) (tS c (sRet f)) := (ps_ret he).imp fun D σ H ⟨F0, H0, F, δ, g, r, g', w, sp, o, q⟩ => by
  obtain ⟨d, g1, o1, o⟩ := ok_bind.mp o
  obtain ⟨rfl, rfl⟩ := ok_pure.mp o
  exact ⟨H0, F, δ, g, d, g1, w, o1, fun v F1 H1 s1 r1 => q v F1 H1 (sp.trans s1) r1⟩
theorem ds_retN : PS X (.Return none pos) (tS c sRetN) := ps_retN.imp fun D σ H ⟨F0, H0, F, δ, g, r, g', w, sp, o, q⟩ => by
  obtain ⟨rfl, rfl⟩ := ok_pure.mp o
  exact q .non F H sp .non
theorem ds_do (he : PE X e (tR c f)) (hs : swapsWith e none pos.line X.env = pure false := by rfl) : PS X (.Expr e pos) (tS c (sDo f)) := (ps_expr he hs).imp fun D σ H ⟨F0, H0, F, δ, g, r, g', w, sp, o, q⟩ => by
  obtain ⟨d, g1, o1, o⟩ := ok_bind.mp o
  obtain ⟨rfl, rfl⟩ := ok_pure.mp o
  exact ⟨H0, F, δ, g, d, g1, w, o1, fun v F1 H1 s1 r1 => q σ F1 H1 (w.step s1) (sp.trans s1) s1.sub⟩

/-! ### a list of one's own -/
/-- an expression that makes a new list: its value is not relied on yet -/
def tN (c : C) (f : E) : TE := fun σ H Q => ∃ H0 F δ g ds g', Wd c H0 F H σ δ g ∧ Ok (f δ) g (.lst ds) g' ∧ ∀ p vs F' H', Stp c F H F' H' g' → H' p = some (.lst vs) → F' p = none → H p = none → RepAll c F' vs ds → Q (.ref p) H'
theorem dn_lst {es : List Expr} {fs : Es} (h : PA X es (tAs c fs)) : PE X (.List es pos) (tN c (eLst fs)) := (pe_lst h).imp fun σ H Q ⟨H0, F, δ, g, d, g', w, o, q⟩ => by
  obtain ⟨xs, g1, o1, o⟩ := ok_bind.mp o
  split at o
  · rename_i hl
    obtain ⟨e, rfl⟩ := ok_pure.mp o
    cases e
    refine ⟨H0, F, δ, g, _, g1, w, o1, fun vs F1 H1 s1 r1 => ⟨by rw [r1.length]; exact lim_le hl, fun p hp => ?_⟩⟩
    have st := Stp.tmp (o := .lst vs) s1.le s1.gen hp
    have fp : F1 p = none := by
      cases e : F1 p with
      | none => rfl
      | some u => rw [s1.le p u e] at hp; cases hp
    have hp0 : H p = none := by
      cases e : H p with
      | none => rfl
      | some u =>
        by_cases n : c.ga = some p
        · obtain ⟨_, q2⟩ := s1.gen.gen p n
          rw [q2] at hp; cases hp
        · rw [s1.ext p u n e] at hp; cases hp
    exact q p vs F1 _ (s1.trans st) upd_same fp hp0 r1
  · exact absurd o not_ok_stuck
/-- list(xs) -/
theorem dn_list {x : Str} {p : Pos} (hm : X.mg x = none) (hv : bootBuiltins x = some (.type "list")) (ha : PE X a (tR c fa)) (hg : Gl X x := by rfl) (hn : x ≠ "__name__" := by decide) (hdb : (x == ("__debug__" : Str)) = false := by decide)
    (he : starEach [a] X.env = (false, eval a X.env) :: starEach [] X.env := by rfl) : PE X (.Call (.Name x p) [a] [] pos) (tN c (eF dList fa)) := (pe_callTy call_list_of hg hm hv (pa_cons ha pa_nil he) hn hdb he rfl).imp fun σ H Q ⟨H0, F, δ, g, d, g', w, o, q⟩ => by
  obtain ⟨x, g1, o1, o⟩ := ok_bind.mp o
  have fin : ∀ (v : V) (F1 H1 : Hp) (a : Addr) (vs : List V), Stp c F H F1 H1 g1 → (SqL X.K H1 a vs ∨ SqT X.K H1 a vs) → v = .ref a → RepAll c F1 vs d → g' = g1 → ∃ p ys, [v] = [V.ref p] ∧ (SqL X.K H1 p ys ∨ SqT X.K H1 p ys) ∧ ∀ l, H1 l = none → Q (.ref l) (upd H1 l (.lst ys)) := fun v F1 H1 a vs s1 hq ev ra eg => by
    subst ev eg
    refine ⟨a, vs, rfl, hq, fun p hp => ?_⟩
    have st := Stp.tmp (o := .lst vs) s1.le s1.gen hp
    have fp : F1 p = none := by
      cases e : F1 p with
      | none => rfl
      | some u => rw [s1.le p u e] at hp; cases hp
    have hp0 : H p = none := by
      cases e : H p with
      | none => rfl
      | some u =>
        by_cases n : c.ga = some p
        · obtain ⟨_, q2⟩ := s1.gen.gen p n
          rw [q2] at hp; cases hp
        · rw [s1.ext p u n e] at hp; cases hp
    exact q p vs F1 _ (s1.trans st) upd_same fp hp0 ra
  unfold dList at o
  split at o
  · obtain ⟨e, rfl⟩ := ok_pure.mp o
    cases e
    refine ⟨H0, F, δ, g, _, g1, w, o1, fun v F1 H1 s1 r1 => ?_⟩
    obtain ⟨a, vs, rfl, ea, ra⟩ := r1.lst s1.le
    exact fin _ F1 H1 a vs s1 (.inl (SqL.of ea)) rfl ra rfl
  · obtain ⟨e, rfl⟩ := ok_pure.mp o
    cases e
    refine ⟨H0, F, δ, g, _, g1, w, o1, fun v F1 H1 s1 r1 => ?_⟩
    have r1 := r1.rep rfl
    cases r1 with
    | @tup _ a vs _ ea ra => exact fin _ F1 H1 a vs s1 (.inr (SqT.of (s1.le _ _ ea))) rfl ra rfl
  · exact absurd o not_ok_stuck
theorem own_of {i : Nat} {F0 H0 F H F1 H1 : Hp} {σ : L2.St} {δ : Dlt} {g g1 : Gs} {p : Addr} {vs : List V} {ds : List D} (w : Wd c H0 F H σ δ g) (sp : Stp c F0 H0 F H g) (s1 : Stp c F H F1 H1 g1) (e1 : H1 p = some (.lst vs)) (e2 : F1 p = none) (e3 : H p = none) (r : RepAll c F1 vs ds) :
    Wd c H0 F1 H1 (σ.set i (some (.ref p))) (δ.set i (.own ds)) g1 := by
  have np : c.ga ≠ some p := fun n => by
    obtain ⟨_, q2⟩ := w.gen.gen p n
    rw [e3] at q2; cases q2
  refine (w.step s1).setOwn e1 e2 ?_ np r fun j ys hj ho => ?_
  · cases e : H0 p with
    | none => rfl
    | some u => rw [sp.ext p u np e] at e3; cases e3
  · obtain ⟨a, _, a1, a2, _⟩ := w.own j ys ho
    rw [a1]
    intro z
    cases z
    rw [e3] at a2; cases a2
/-- x = [..], x = list(..), to be filled -/
theorem ds_own {tg : Expr} {i : Nat} (he : PE X e (tN c f)) (hg : PG X tg (gName i)) (hs : swapsWithSole [tg] e pos.line X.env = pure false := by rfl) (hw : swappedStores [tg] e X.env = pure none := by rfl) (h1 : (assignEach [tg] X.env).map (·.2) = [assign tg X.env] := by rfl) : PS X (.Assign [tg] e pos) (tS c (sOwn i f)) := (ps_asg he hg hs hw h1).imp fun D σ H ⟨F0, H0, F, δ, g, r, g', w, sp, o, q⟩ => by
  obtain ⟨d, g1, o1, o⟩ := ok_bind.mp o
  split at o
  · obtain ⟨rfl, rfl⟩ := ok_pure.mp o
    exact ⟨H0, F, δ, g, _, g1, w, o1, fun p vs F1 H1 s1 e1 e2 e3 r1 => q _ F1 H1 (own_of w sp s1 e1 e2 e3 r1) (sp.trans s1) s1.sub⟩
  · exact absurd o not_ok_stuck
/-- x, y = [..], b: x to be filled -/
def sParO (i j : Nat) (a b : E) : S := fun δ => a δ >>= fun x => match x with
  | .lst xs => b δ >>= fun y => pure (.nx ((δ.set i (.own xs)).set j (.val y)))
  | _ => stuck
/-- both to be filled -/
def sParOO (i j : Nat) (a b : E) : S := fun δ => a δ >>= fun x => match x with
  | .lst xs => b δ >>= fun y => match y with
    | .lst ys => pure (.nx ((δ.set i (.own xs)).set j (.own ys)))
    | _ => stuck
  | _ => stuck
theorem ds_parO {i j : Nat} (h : PS X st (tPar i j (tCons (tN c fa) (tCons (tP c fb) tNil)))) : PS X st (tS c (sParO i j fa fb)) := h.imp fun D σ H ⟨F0, H0, F, δ, g, r, g', w, sp, o, q⟩ => by
  obtain ⟨d, g1, o1, o⟩ := ok_bind.mp o
  split at o
  · obtain ⟨e, g2, o2, o⟩ := ok_bind.mp o
    obtain ⟨rfl, rfl⟩ := ok_pure.mp o
    refine ⟨H0, F, δ, g, _, g1, w, o1, fun p vs F1 H1 s1 e1 e2 e3 r1 => ⟨H0, F1, δ, g1, e, g2, w.step s1, o2, fun u F2 H2 s2 r2 => ⟨.ref p, u, rfl, ?_⟩⟩⟩
    have np : c.ga ≠ some p := fun n => by
      obtain ⟨_, q2⟩ := w.gen.gen p n
      rw [e3] at q2; cases q2
    have e1' := s2.ext p _ np e1
    have e2' : F2 p = none := by
      by_cases h : F2 p = none
      · exact h
      · have k := s2.new p h e2
        rw [e1] at k; cases k
    exact q _ F2 H2 ((own_of w sp (s1.trans s2) e1' e2' e3 (r1.up s2.sub)).set r2) ((sp.trans s1).trans s2) (s1.sub.trans s2.sub)
  · exact absurd o not_ok_stuck
theorem ds_parOO {i j : Nat} (hij : i ≠ j) (h : PS X st (tPar i j (tCons (tN c fa) (tCons (tN c fb) tNil)))) : PS X st (tS c (sParOO i j fa fb)) := h.imp fun D σ H ⟨F0, H0, F, δ, g, r, g', w, sp, o, q⟩ => by
  obtain ⟨d, g1, o1, o⟩ := ok_bind.mp o
  split at o
  · obtain ⟨e, g2, o2, o⟩ := ok_bind.mp o
    split at o
    · obtain ⟨rfl, rfl⟩ := ok_pure.mp o
      refine ⟨H0, F, δ, g, _, g1, w, o1, fun p vs F1 H1 s1 e1 e2 e3 r1 => ⟨H0, F1, δ, g1, _, g2, w.step s1, o2, fun p' us F2 H2 s2 a1 a2 a3 r2 => ⟨.ref p, .ref p', rfl, ?_⟩⟩⟩
      have np : c.ga ≠ some p := fun n => by
        obtain ⟨_, q2⟩ := w.gen.gen p n
        rw [e3] at q2; cases q2
      have e1' := s2.ext p _ np e1
      have e2' : F2 p = none := by
        by_cases h : F2 p = none
        · exact h
        · have k := s2.new p h e2
          rw [e1] at k; cases k
      have ne : p' ≠ p := fun z => by rw [z, e1] at a3; cases a3
      have w1 := own_of (i := i) w sp (s1.trans s2) e1' e2' e3 (r1.up s2.sub)
      have np' : c.ga ≠ some p' := fun n => by
        obtain ⟨_, q2⟩ := s1.gen.gen p' n
        rw [a3] at q2; cases q2
      refine q _ F2 H2 (w1.setOwn a1 a2 ?_ np' r2 fun k ys hk ho => ?_) ((sp.trans s1).trans s2) (s1.sub.trans s2.sub)
      · cases e : H0 p' with
        | none => rfl
        | some u => rw [(sp.trans s1).ext p' u np' e] at a3; cases a3
      · by_cases hik : i = k
        · subst hik
          obtain ⟨a, _, b1, b2, _⟩ := w1.own i ys ho
          have hl : i < σ.length := by
            by_cases hl : i < σ.length
            · exact hl
            · rw [List.getElem?_eq_none (by simpa using hl)] at b1; cases b1
          rw [List.getElem?_set_self hl]
          intro z
          cases z
          exact ne rfl
        · rw [List.getElem?_set_ne hik] at ho ⊢
          obtain ⟨a, _, b1, b2, _, _, b5, _⟩ := w.own k ys ho
          rw [b1]
          intro z
          cases z
          rw [s1.ext _ _ b5 b2] at a3; cases a3
    · exact absurd o not_ok_stuck
  · exact absurd o not_ok_stuck
/-- from here on a list of one's own is shared -/
theorem dss_frz {i : Nat} (h : PSs X sts (tS c s)) : PSs X sts (tS c (sSeq (sFrz i) s)) := h.imp fun D σ H ⟨F0, H0, F, δ, g, r, g', w, sp, o, q⟩ => by
  obtain ⟨r1, g1, o1, o2⟩ := ok_bind.mp o
  unfold sFrz at o1
  split at o1
  · rename_i xs hx
    obtain ⟨rfl, rfl⟩ := ok_pure.mp o1
    obtain ⟨a, vs, e1, e2, e3, e4, e5, ra⟩ := w.own i xs hx
    have sub : Same F (upd F a (.lst vs)) := fun b u e => by rw [upd_ne (ne_of_none e e3)]; exact e
    have lef : Same (upd F a (.lst vs)) H := fun b u e => by
      by_cases m : b = a
      · subst m; rw [upd_same] at e; rw [← e]; exact e2
      · rw [upd_ne m] at e; exact w.le b u e
    have gen : GenOk c (upd F a (.lst vs)) H g := ⟨fun b n => by
      obtain ⟨q1, q2⟩ := w.gen.gen b n
      rw [upd_ne (fun z => e5 (by rw [← z]; exact n))]
      exact ⟨q1, q2⟩, w.gen.bo, w.gen.nb⟩
    have inl : i < σ.length := by
      by_cases hl : i < σ.length
      · exact hl
      · rw [List.getElem?_eq_none (by simpa using hl)] at e1; cases e1
    have w' : Wd c H0 (upd F a (.lst vs)) H σ (δ.set i (.val (.lst xs))) g := by
      have nj : ∀ (k : Nat) (zs : List DL.D), (δ.set i (Sl.val (.lst xs)))[k]? = some (Sl.own zs) → i ≠ k := fun k zs h e => by
        subst e
        rw [List.getElem?_set_self (by rw [w.len]; exact inl)] at h; cases h
      refine ⟨lef, gen, by simp [w.len], fun j d h => ?_, fun j ys h => ?_, fun j k ys zs ne h1 h2 => ?_, w.bo0⟩
      · by_cases hj : i = j
        · subst hj
          rw [List.getElem?_set_self (by rw [w.len]; exact inl)] at h
          cases h
          exact ⟨_, e1, .lst upd_same (ra.up sub)⟩
        · rw [List.getElem?_set_ne hj] at h
          obtain ⟨v, a1, a2⟩ := w.val j d h
          exact ⟨v, a1, a2.up sub⟩
      · have n := nj j ys h
        rw [List.getElem?_set_ne n] at h
        obtain ⟨b, us, b1, b2, b3, b4, b5, rb⟩ := w.own j ys h
        have m : b ≠ a := fun z => w.apart i j xs ys n hx h (by rw [e1, b1, z])
        exact ⟨b, us, b1, b2, by rw [upd_ne m]; exact b3, b4, b5, rb.up sub⟩
      · have n1 := nj j ys h1
        have n2 := nj k zs h2
        rw [List.getElem?_set_ne n1] at h1
        rw [List.getElem?_set_ne n2] at h2
        exact w.apart j k ys zs ne h1 h2
    have sp' : Stp c F0 H0 (upd F a (.lst vs)) H g := ⟨sp.sub.trans sub, sp.ext, fun b h1 h2 => by
      by_cases m : b = a
      · rw [m]; exact e4
      · rw [upd_ne m] at h1; exact sp.new b h1 h2, lef, gen⟩
    refine ⟨F0, H0, _, _, g, r, g', w', sp', o2, ?_⟩
    cases r with
    | nx δ' => exact fun σ' F' H' w' sp' sm' => q σ' F' H' w' sp' (sub.trans sm')
    | rt d => exact q
    | bk δ' => exact fun σ' F' H' w' sp' sm' => q σ' F' H' w' sp' (sub.trans sm')
    | ct δ' => exact fun σ' F' H' w' sp' sm' => q σ' F' H' w' sp' (sub.trans sm')
  · exact absurd o1 not_ok_stuck
/-- an own list's content turns -/
theorem Wd.turn {i : Nat} {H0 F H : Hp} {σ : L2.St} {δ : Dlt} {g : Gs} {a : Addr} {xs xs' : List D} {vs' : List V} (w : Wd c H0 F H σ δ g) (hx : δ[i]? = some (Sl.own xs)) (e1 : σ[i]? = some (some (V.ref a))) (r : RepAll c F vs' xs') : Wd c H0 F (upd H a (.lst vs')) σ (δ.set i (.own xs')) g := by
  obtain ⟨a', vs, b1, e2, e3, e4, e5, ra⟩ := w.own i xs hx
  rw [e1] at b1
  cases b1
  have inl : i < δ.length := by
    by_cases hl : i < δ.length
    · exact hl
    · rw [List.getElem?_eq_none (by simpa using hl)] at hx; cases hx
  refine ⟨fun b u e => ?_, ⟨fun b n => ?_, fun b u e => by rw [upd_ne (ne_of_none (w.bo0 b u e) e4)]; exact w.gen.bo b u e, w.gen.nb⟩, by simp [w.len], fun j d h => ?_, fun j ys h => ?_, fun j k ys zs ne h1 h2 => ?_, w.bo0⟩
  · rw [upd_ne (ne_of_none e e3)]; exact w.le b u e
  · obtain ⟨q1, q2⟩ := w.gen.gen b n
    rw [upd_ne (fun z => e5 (by rw [← z]; exact n))]
    exact ⟨q1, q2⟩
  · by_cases hj : i = j
    · subst hj
      rw [List.getElem?_set_self inl] at h; cases h
    · rw [List.getElem?_set_ne hj] at h
      exact w.val j d h
  · by_cases hj : i = j
    · subst hj
      rw [List.getElem?_set_self inl] at h
      cases h
      exact ⟨a, vs', e1, upd_same, e3, e4, e5, r⟩
    · rw [List.getElem?_set_ne hj] at h
      obtain ⟨b, us, b1, b2, b3, b4, b5, rb⟩ := w.own j ys h
      have m : b ≠ a := fun z => w.apart i j xs ys hj hx h (by rw [e1, b1, z])
      exact ⟨b, us, b1, by rw [upd_ne m]; exact b2, b3, b4, b5, rb⟩
  · by_cases hj : i = j
    · subst hj
      rw [List.getElem?_set_ne ne] at h2
      exact w.apart i k xs zs ne hx h2
    · rw [List.getElem?_set_ne hj] at h1
      by_cases hk : i = k
      · subst hk
        exact w.apart j i ys xs ne h1 hx
      · rw [List.getElem?_set_ne hk] at h2
        exact w.apart j k ys zs ne h1 h2
theorem Stp.turn {F0 H0 F H : Hp} {g : Gs} {a : Addr} {o : HO} (sp : Stp c F0 H0 F H g) (e3 : F a = none) (e4 : H0 a = none) (e5 : c.ga ≠ some a) (hb : Same c.bo H0) : Stp c F0 H0 F (upd H a o) g := by
  refine ⟨sp.sub, fun b u n e => ?_, sp.new, fun b u e => ?_, ⟨fun b n => ?_, fun b u e => by rw [upd_ne (ne_of_none (hb b u e) e4)]; exact sp.gen.bo b u e, sp.gen.nb⟩⟩
  · rw [upd_ne (ne_of_none e e4)]; exact sp.ext b u n e
  · rw [upd_ne (ne_of_none e e3)]; exact sp.le b u e
  · obtain ⟨q1, q2⟩ := sp.gen.gen b n
    rw [upd_ne (fun z => e5 (by rw [← z]; exact n))]
    exact ⟨q1, q2⟩
/-- x.append(e), x a list of one's own -/
theorem ds_app {i : Nat} {apos p2 : Pos} (hv : PE X a (tVar i)) (hb : PE X b (tP c fb)) (hbase : attributeBase a "append" X.env (eval a X.env) = eval a X.env := by rfl)
    (hfew : ((backTo pos (starEach [b] X.env)).all (fun x => !x.1) && (backToKw pos (keywordEach [] X.env)).all (fun x => x.1.isSome) && decide ([b].length + ([] : List Keyword).length + (if ([] : List Keyword).isEmpty then 0 else 1) < 30)) = true := by rfl)
    (hline : (apos.endLine == pos.line) = true := by rfl) (hs : starEach [b] X.env = (false, eval b X.env) :: starEach [] X.env := by rfl) (hsw : swapsWith (.Call (.Attribute a "append" apos) [b] [] pos) none p2.line X.env = pure false := by rfl) :
    PS X (.Expr (.Call (.Attribute a "append" apos) [b] [] pos) p2) (tS c (sApp i fb)) :=
  (ps_expr (pe_bm PySem.F.plainAttrs_list PySem.F.slot_list_append PySem.F.type_list_append mt_append hv (pa_cons hb pa_nil hs) hbase hfew hline hs rfl) hsw).imp fun D σ H ⟨F0, H0, F, δ, g, r, g', w, sp, o, q⟩ => by
    obtain ⟨d, g1, o1, o⟩ := ok_bind.mp o
    split at o
    · rename_i xs hx
      split at o
      · rename_i hl
        obtain ⟨rfl, rfl⟩ := ok_pure.mp o
        obtain ⟨p, vs, e1, e2, e3, e4, e5, ra⟩ := w.own i xs hx
        refine ⟨.ref p, e1, .inl ⟨rfl, vs, SqL.of e2⟩, H0, F, δ, g, d, g1, w, o1, fun v F1 H1 s1 r1 => ⟨p, vs, v, rfl, rfl, s1.ext p _ e5 e2, ?_, ?_⟩⟩
        · rw [ra.length]
          have := lim_le hl
          omega
        · have w1 := w.step s1
          obtain ⟨_, _, b1, _, b3, _⟩ := w1.own i xs hx
          rw [e1] at b1
          cases b1
          exact q σ F1 _ (w1.turn hx e1 ((ra.up s1.sub).append (.cons r1 .nil))) ((sp.trans s1).turn b3 e4 e5 w.bo0) s1.sub
      · exact absurd o not_ok_stuck
    · exact absurd o not_ok_stuck
end
end DL

/-! ## DFn -/
set_option Elab.async false
set_option autoImplicit false
set_option linter.all false
set_option maxRecDepth 100000
set_option maxHeartbeats 4000000
/-! DFn: for, while, defs and their calls, by plain data. -/
namespace DL
open PySem PySem.Spec PyProof.Rows L2
section
variable {X : Cx} {c : C} {a b e : Expr} {st : Stmt} {sts : List Stmt} {s t : S} {f fa fb : E} {pos : Pos}
/-! ### loops -/
theorem for_imp {src : Es} {gd : G} {is : List Nat} : ∀ D σ H, tS c (sFor gd src s) D σ H → tFor (iD c src) (gD c gd is) (tS c s) D σ H := fun D σ H ⟨F0, H0, F, δ, g, r, g', w, sp, o, q⟩ => by
  obtain ⟨ds, g1, o1, o⟩ := ok_bind.mp o
  refine ⟨H0, F, δ, g, ds, g1, w, o1, fun J F1 H1 s1 wk => ?_⟩
  refine ⟨fun i m σ2 H2 => m = ds.length - i ∧ i ≤ ds.length ∧ ∃ F2 δ2 g2, Wd c H0 F2 H2 σ2 δ2 g2 ∧ Stp c F0 H0 F2 H2 g2 ∧ Same F1 F2 ∧ Ok (forGo gd s (ds.drop i) δ2) g2 r g',
    ⟨ds.length, by simp, Nat.zero_le _, F1, δ, g1, w.step s1, sp.trans s1, .refl F1, o⟩, ?_⟩
  rintro i m σ2 H2 ⟨rfl, hi, F2, δ2, g2, w2, sp2, sm2, o2⟩
  by_cases hlt : i < ds.length
  · refine .inr ⟨wk.goes i F2 H2 hlt sm2 w2.le (fun _ z => nomatch z) w2.gen.bo, _, fun σ' H' hN => ⟨ds.length - (i + 1), by omega, rfl, hlt, hN⟩, fun x H3 hy => ?_⟩
    obtain ⟨F3, d, hd, st, rx⟩ := wk.yields i F2 H2 g2 x H3 hlt sm2 w2.le (fun _ z => nomatch z) w2.gen hy
    rw [List.drop_eq_getElem_cons hlt] at o2
    rw [List.getElem?_eq_getElem hlt] at hd
    cases hd
    unfold forGo at o2
    obtain ⟨δ', g'', ok1, ok2⟩ := ok_bind.mp o2
    have hgd : gd ds[i] δ2 = some δ' ∧ g2 = g'' := by
      unfold liftG at ok1
      split at ok1
      · rename_i e
        obtain ⟨rfl, rfl⟩ := ok_pure.mp ok1
        exact ⟨e, rfl⟩
      · exact absurd ok1 not_ok_stuck
    obtain ⟨hgd, rfl⟩ := hgd
    obtain ⟨r3, g3, ok3, ok4⟩ := ok_bind.mp ok2
    refine ⟨H0, F3, δ2, g2, ds[i], δ', w2.step st, rx, hgd, fun σ3 w3 _ _ => ⟨F0, H0, F3, δ', g2, r3, g3, w3, sp2.trans st, ok3, ?_⟩⟩
    have sm3 : Same F1 F3 := sm2.trans st.sub
    cases r3 with
    | nx δ4 => exact fun σ4 F4 H4 w4 sp4 sm4 => ⟨F4, δ4, g3, w4, sp4, sm3.trans sm4, ok4⟩
    | ct δ4 => exact fun σ4 F4 H4 w4 sp4 sm4 => ⟨F4, δ4, g3, w4, sp4, sm3.trans sm4, ok4⟩
    | bk δ4 =>
      obtain ⟨rfl, rfl⟩ := ok_pure.mp ok4
      exact fun σ4 F4 H4 w4 sp4 sm4 => q σ4 F4 H4 w4 sp4 (s1.sub.trans (sm3.trans sm4))
    | rt d =>
      obtain ⟨rfl, rfl⟩ := ok_pure.mp ok4
      exact q
  · have e : i = ds.length := by omega
    subst e
    rw [List.drop_length] at o2
    obtain ⟨rfl, rfl⟩ := ok_pure.mp o2
    exact .inl ⟨wk.stops F2 H2 sm2 w2.le (fun _ z => nomatch z) w2.gen.bo, q σ2 F2 H2 w2 sp2 (s1.sub.trans sm2)⟩
theorem ds_for {tg iter : Expr} {src : Es} {gd : G} {is : List Nat} (hp : PassesOwn (model X.prog X.w) X.A X.env X.xe) (hc : X.calm = true) (hi : PI X tg iter (iD c src)) (hg : PG X tg (gD c gd is)) (hb : PSs X sts (tS c s)) (hs : ∀ x, foldedSetIterable iter X.env x = pure x := by intro _; rfl) :
    PS X (.For tg iter sts [] pos) (tS c (sFor gd src s)) := (ps_for hp hc hi hg hb hs).imp for_imp
theorem while_imp {fc : E} {n : Nat} : ∀ D σ H, tS c (sWh n fc s) D σ H → tWhile (tT c fc) (tS c s) D σ H := fun D σ H ⟨F0, H0, F, δ, g, r, g', w, sp, o, q⟩ => by
  refine ⟨fun m σ2 H2 => ∃ F2 δ2 g2, Wd c H0 F2 H2 σ2 δ2 g2 ∧ Stp c F0 H0 F2 H2 g2 ∧ Same F F2 ∧ Ok (whGo fc s m δ2) g2 r g', ⟨n, F, δ, g, w, sp, .refl F, o⟩, ?_⟩
  rintro m σ2 H2 ⟨F2, δ2, g2, w2, sp2, sm2, o2⟩
  cases m with
  | zero => exact absurd o2 not_ok_stuck
  | succ m =>
    unfold whGo at o2
    obtain ⟨x, g3, o3, o4⟩ := ok_bind.mp o2
    cases x with
    | bl x =>
      refine ⟨H0, F2, δ2, g2, x, g3, w2, o3, fun F3 H3 s3 => ?_⟩
      cases x with
      | true =>
        obtain ⟨r4, g4, o5, o6⟩ := ok_bind.mp o4
        refine iteT ⟨_, fun σ' H' hN => ⟨m, Nat.lt_succ_self m, hN⟩, F0, H0, F3, δ2, g3, r4, g4, w2.step s3, sp2.trans s3, o5, ?_⟩
        have sm3 : Same F F3 := sm2.trans s3.sub
        cases r4 with
        | nx δ4 => exact fun σ4 F4 H4 w4 sp4 sm4 => ⟨F4, δ4, g4, w4, sp4, sm3.trans sm4, o6⟩
        | ct δ4 => exact fun σ4 F4 H4 w4 sp4 sm4 => ⟨F4, δ4, g4, w4, sp4, sm3.trans sm4, o6⟩
        | bk δ4 =>
          obtain ⟨rfl, rfl⟩ := ok_pure.mp o6
          exact fun σ4 F4 H4 w4 sp4 sm4 => q σ4 F4 H4 w4 sp4 (sm3.trans sm4)
        | rt d =>
          obtain ⟨rfl, rfl⟩ := ok_pure.mp o6
          exact q
      | false =>
        obtain ⟨rfl, rfl⟩ := ok_pure.mp o4
        exact iteF (q σ2 F3 H3 (w2.step s3) (sp2.trans s3) (sm2.trans s3.sub))
    | _ => exact absurd o4 not_ok_stuck
theorem ds_while {ca : Expr} {fc : E} (n : Nat) (hp : PassesOwn (model X.prog X.w) X.A X.env X.xe) (hc : PT X ca (tT c fc)) (hb : PSs X sts (tS c s)) : PS X (.While ca sts [] pos) (tS c (sWh n fc s)) := (ps_while hp hc hb).imp while_imp
end

/-! ### a def by its function -/
/-- what a call with vs wants: Fs tells its value -/
def spF (P : Program) (w : World) (K : PySem.W.Frag) (mg : Str → Option Value) (Fs : List D → M D) (vs : List V) (H : Hp) (Q : VK) : Prop := ∃ (ga : Option Addr) (bo : Hp) (F : Hp) (ds : List D) (g : Gs) (d : D) (g' : Gs), Same F H ∧ GenOk ⟨K, mg, ga, bo, P, w⟩ F H g ∧ RepAll ⟨K, mg, ga, bo, P, w⟩ F vs ds ∧ Ok (Fs ds) g d g' ∧
  ∀ v F' H', Stp ⟨K, mg, ga, bo, P, w⟩ F H F' H' g' → Rep ⟨K, mg, ga, bo, P, w⟩ F' v d → Q v H'
/-- any promise, where nothing is being shown (repr) -/
structure FnQ (P : Program) (w : World) (K : PySem.W.Frag) (mg : Str → Option Value) (base : Heap) (k : Nat) (f : Addr) (fd : FuncData) (ps : List Str) (sp : List V → Hp → VK → Prop) : Prop where
  run : ∀ (A : Around) (outer : List Env) (s : Shared) (H : Hp) (args : Args) (us : List Value) (vs : List V) (Q : VK), Room k A → A.guards = some [] → Env0 P w K mg base A outer s H → BindsTo s fd args (ps.zip us) → Vals vs us → vs.length = ps.length → sp vs H Q →
    codeAny (model P w) A (.call (.ref f) args) (CR CX0 outer P w H s Q E0) s
structure FnG (P : Program) (w : World) (K : PySem.W.Frag) (mg : Str → Option Value) (base : Heap) (k : Nat) (f : Addr) (fd : FuncData) (ps : List Str) (Fs : List D → M D) : Prop where
  q : FnQ P w K mg base k f fd ps (spF P w K mg Fs)
  ar : ∀ ds g d g', Ok (Fs ds) g d g' → ds.length = ps.length
section
variable {P : Program} {w : World} {K : PySem.W.Frag} {mg : Str → Option Value} {base : Heap} {k : Nat} {f : Addr} {fd : FuncData} {ps : List Str}
theorem FnQ.mono {j : Nat} {sp : List V → Hp → VK → Prop} (F : FnQ P w K mg base j f fd ps sp) (h : j ≤ k) : FnQ P w K mg base k f fd ps sp := ⟨fun A outer s H args us vs Q hr => F.run A outer s H args us vs Q (hr.mono h)⟩
theorem FnQ.imp {sp sp' : List V → Hp → VK → Prop} (F : FnQ P w K mg base k f fd ps sp) (h : ∀ vs H Q, vs.length = ps.length → sp' vs H Q → sp vs H Q) : FnQ P w K mg base k f fd ps sp' :=
  ⟨fun A outer s H args us vs Q hr hg he hb hv hl hs => F.run A outer s H args us vs Q hr hg he hb hv hl (h vs H Q hl hs)⟩
theorem FnG.mono {j : Nat} {Fs : List D → M D} (F : FnG P w K mg base j f fd ps Fs) (h : j ≤ k) : FnG P w K mg base k f fd ps Fs := ⟨F.q.mono h, F.ar⟩
/-- less is promised -/
theorem FnG.le {Fs Gs' : List D → M D} (F : FnG P w K mg base k f fd ps Fs) (h : ∀ ds g d g', Ok (Gs' ds) g d g' → Ok (Fs ds) g d g') : FnG P w K mg base k f fd ps Gs' :=
  ⟨F.q.imp fun vs H Q hl ⟨ga, bo, F1, ds, g, d, g', s, gn, r, o, q⟩ => ⟨ga, bo, F1, ds, g, d, g', s, gn, r, h _ _ _ _ o, q⟩, fun ds g d g' o => F.ar ds g d g' (h _ _ _ _ o)⟩
/-- a def of the text, by its body's reading -/
theorem fnQ_of {x qual : Str} {st : Stmt} {N : List Str} {sp : List V → Hp → VK → Prop} (F : Fun K x qual st f fd) (S : FnScope N ps (defScope st))
    (hbody : ∀ (cdv : Value) (A : Around) (outer : List Env) (s : Shared) (H : Hp) (vs : List V) (Q : VK), Room k (A.deeper (envOfC qual (defScope st) s.heap.objs.size f cdv)) → (A.deeper (envOfC qual (defScope st) s.heap.objs.size f cdv)).guards = some [] → vs.length = ps.length → sp vs H Q →
      ∃ t, PSs (cxOf CX0 P w K mg base N qual (defScope st) f cdv A outer s H E0).nox (defBody st) t ∧ t { nx := fun _ H' => Q .non H', rt := Q } (start N vs) H) : FnQ P w K mg base (k + 1) f fd ps sp := by
  obtain ⟨oc, od, kV, doc, pm, an, cdv, ct, osl, rfl, lk, hcd⟩ := F.ex
  refine ⟨fun A outer s H args us vs Q hr hgd e0 hb r hl hsp => ?_⟩
  obtain ⟨t, h1, h2⟩ := hbody cdv A outer s H vs Q (hr.deeper _) hgd hl hsp
  have KX : K.In s.heap := e0.mod.kin.keeps fun b o e => (e0.bs b o e).1
  have hkind : ∀ y ∈ ps.zip us, (defScope st).names.lookup y.1 = some .local ∨ ((defScope st).names.lookup y.1 = some .cell ∧ ((cellsFrom (s.heap.objs.size + 1) (defScope st).names []).lookup y.1).isSome = true) := by
    rintro ⟨n, v⟩ hy
    rcases S.par n (List.of_mem_zip hy).1 with q | q
    · exact .inl q
    · exact .inr ⟨q, PySem.W.cellsFrom_some _ _ _ (.inl q)⟩
  refine codeAny_call_function (hroom := hr.depth) (KX _ _ lk) rfl S.co S.gen rfl (PySem.W.codeRec_of KX hcd)
    (hb _ _ _ _ (wpAny_newFunctionEnv_cells S.kind hkind fun env he s1 x => ?_))
  subst he
  refine ⟨(e0.mod.nolimit.keeps fun b o e => (e0.bs b o e).1).keeps x.toInCall.keep, codeAny_func ?_⟩
  have I : Inv (cxOf CX0 P w K mg base N qual (defScope st) f cdv A outer s H E0) [] (start N vs) H s1 :=
    inv_start S hr.hd e0 hl r x
  refine wpAny_mono (h1.nox.run [] s1 (start N vs) H _ I h2) (fun fl s' hs => ?_) fun e s' hs => hs
  cases fl with
  | ret u =>
    obtain ⟨v, σ', H', J, rv, q⟩ := hs
    exact ⟨v, H', J.os, J.bare, J.base, J.hok, rv, q⟩
  | next =>
    obtain ⟨σ', H', J, q⟩ := hs
    exact ⟨V.non, H', J.os, J.bare, J.base, J.hok, rfl, q⟩
  | brk =>
    obtain ⟨_, _, _, q⟩ := hs
    exact q.elim
  | cont =>
    obtain ⟨_, _, _, q⟩ := hs
    exact q.elim
theorem start_get {N : List Str} {vs : List V} {i : Nat} (h : i < vs.length) : (start N vs)[i]? = some (vs[i]?) := by
  show (vs.map some ++ List.replicate (N.length - vs.length) none)[i]? = some (vs[i]?)
  rw [List.getElem?_append_left (by simpa using h), List.getElem?_map, List.getElem?_eq_getElem h]
  rfl
theorem startD_get {n : Nat} {ds : List D} {i : Nat} {x : Sl} (h : (startD n ds)[i]? = some x) : (∃ d, ds[i]? = some d ∧ x = .val d) ∨ x = .no := by
  unfold startD at h
  by_cases hi : i < ds.length
  · rw [List.getElem?_append_left (by simpa using hi), List.getElem?_map, List.getElem?_eq_getElem hi] at h
    cases h
    exact .inl ⟨_, List.getElem?_eq_getElem hi, rfl⟩
  · rw [List.getElem?_append_right (by simpa using hi), List.getElem?_replicate] at h
    split at h
    · cases h; exact .inr rfl
    · cases h
theorem start_wd {c : C} {N : List Str} {vs : List V} {ds : List D} {F H : Hp} {g : Gs} (le : Same F H) (gen : GenOk c F H g) (r : RepAll c F vs ds) (hl : ds.length ≤ N.length) : Wd c H F H (start N vs) (startD N.length ds) g := by
  have lr := r.length
  refine ⟨le, gen, ?_, fun i d e => ?_, fun i xs e => ?_, fun i j xs ys ne e1 e2 => ?_, gen.bo⟩
  · show (ds.map Sl.val ++ List.replicate (N.length - ds.length) Sl.no).length = (vs.map some ++ List.replicate (N.length - vs.length) none).length
    simp [lr]
  · rcases startD_get e with ⟨d', h1, h2⟩ | h
    · cases h2
      obtain ⟨v, h3, h4⟩ := r.get h1
      refine ⟨v, ?_, h4⟩
      rw [start_get (by rw [lr]; exact (List.getElem?_eq_some_iff.mp h1).1), h3]
    · cases h
  · rcases startD_get e with ⟨d', h1, h2⟩ | h
    · cases h2
    · cases h
  · rcases startD_get e1 with ⟨d', h1, h2⟩ | h
    · cases h2
    · cases h
/-- THE RULE for a def whose body reads as s -/
theorem fn_ar {n p : Nat} {s : S} {ds : List D} {g g' : Gs} {d : D} (o : Ok (fn n p s ds) g d g') : ds.length = p := by
  unfold fn at o
  split at o
  · assumption
  · exact absurd o not_ok_stuck
theorem fnG_of {x qual : Str} {st : Stmt} {N : List Str} {s : S} (F : Fun K x qual st f fd) (S : FnScope N ps (defScope st)) (hN : ps.length ≤ N.length := by decide)
    (hbody : ∀ (cdv : Value) (A : Around) (outer : List Env) (sh : Shared) (H : Hp) (ga : Option Addr) (bo : Hp), Room k (A.deeper (envOfC qual (defScope st) sh.heap.objs.size f cdv)) → (A.deeper (envOfC qual (defScope st) sh.heap.objs.size f cdv)).guards = some [] →
      PSs (cxOf CX0 P w K mg base N qual (defScope st) f cdv A outer sh H E0).nox (defBody st) (tS ⟨K, mg, ga, bo, P, w⟩ s)) : FnG P w K mg base (k + 1) f fd ps (fn N.length ps.length s) :=
  ⟨fnQ_of F S fun cdv A outer sh H vs Q hr hg hl ⟨ga, bo, F1, ds, g, d, g', le, gen, r, o, q⟩ => by
    refine ⟨_, hbody cdv A outer sh H ga bo hr hg, ?_⟩
    have hd : ds.length = ps.length := by rw [← r.length]; exact hl
    unfold fn at o
    rw [if_pos hd] at o
    obtain ⟨fl, g1, o1, o2⟩ := ok_bind.mp o
    have w0 := start_wd (N := N) le gen r (by rw [hd]; exact hN)
    refine ⟨F1, H, F1, _, g, fl, g1, w0, .refl le gen, o1, ?_⟩
    cases fl with
    | nx δ' =>
      obtain ⟨rfl, rfl⟩ := ok_pure.mp o2
      exact fun σ' F' H' w' sp' _ => q .non F' H' sp' .non
    | rt d' =>
      obtain ⟨rfl, rfl⟩ := ok_pure.mp o2
      exact q
    | bk δ' => exact absurd o2 not_ok_stuck
    | ct δ' => exact absurd o2 not_ok_stuck, fun ds g d g' o => fn_ar o⟩
end

/-! ### calls of such defs -/
/-- the places of the parameters among the written arguments -/
def pick {α : Type} (ix : List Nat) (xs : List α) : List α := ix.filterMap fun i => xs[i]?
theorem pick_vals {ix : List Nat} {vs : List V} {us : List Value} (r : Vals vs us) : Vals (pick ix vs) (pick ix us) := by
  induction ix with
  | nil => exact .nil
  | cons i ix ih =>
    unfold pick at ih ⊢
    rw [List.filterMap_cons, List.filterMap_cons]
    cases e : vs[i]? with
    | none => rw [r.none_of e]; exact ih
    | some v =>
      obtain ⟨u, h1, h2⟩ := r.get e
      rw [h1]
      exact .cons h2 ih
theorem pick_rep {c : C} {F : Hp} {ix : List Nat} {vs : List V} {ds : List D} (r : RepAll c F vs ds) : RepAll c F (pick ix vs) (pick ix ds) := by
  induction ix with
  | nil => exact .nil
  | cons i ix ih =>
    unfold pick at ih ⊢
    rw [List.filterMap_cons, List.filterMap_cons]
    cases e : vs[i]? with
    | none =>
      have h : ds[i]? = none := by
        rw [List.getElem?_eq_none_iff] at e ⊢
        rw [← r.length]; exact e
      rw [h]; exact ih
    | some v =>
      obtain ⟨u, h1, h2⟩ := r.getV e
      rw [h1]
      exact .cons h2 ih
/-- how a call with keywords ks binds -/
structure KwB (fd : FuncData) (ps ks : List Str) (n : Nat) (ix : List Nat) : Prop where
  to : ∀ us ws : List Value, us.length = n → ws.length = ks.length → bindArgs fd ⟨us, ks.zip ws⟩ = pure (ps.zip (pick ix (us ++ ws)))
  len : ix.length = ps.length
  all : ∀ i ∈ ix, i < n + ks.length
def eCallK (Fs : List D → M D) (ix : List Nat) (fs gs : Es) : E := fun δ => fs δ >>= fun xs => gs δ >>= fun ys => Fs (pick ix (xs ++ ys))
theorem pick_len {α : Type} {xs : List α} : ∀ {ix : List Nat}, (∀ i ∈ ix, i < xs.length) → (pick ix xs).length = ix.length
  | [], _ => rfl
  | i :: ix, h => by
    have ih := pick_len (xs := xs) (ix := ix) fun j hj => h j (List.mem_cons_of_mem _ hj)
    unfold pick at ih ⊢
    rw [List.filterMap_cons, List.getElem?_eq_getElem (h i List.mem_cons_self)]
    simp only [List.length_cons, ih]
section
variable {X : Cx} {k : Nat} {f : Addr} {fd : FuncData} {ps ks : List Str} {Fs : List D → M D} {x : Str} {p pos : Pos} {e : Expr} {es : List Expr} {fs gs : Es} {ga : Option Addr} {bo : Hp} {kws : List Keyword} {sp : List V → Hp → VK → Prop}
theorem run_fnQ {pins : List (Addr × Obj)} {σ : L2.St} {H : Hp} {s : Shared} {Q : VK} {args : Args} {us : List Value} {vs : List V} (F : FnQ X.prog X.w X.K X.mg X.base k f fd ps sp) (hr : Room k X.A) (hgd : X.A.guards = some [])
    (hb : BindsTo s fd args (ps.zip us)) (I : Inv X pins σ H s) (r : Vals vs us) (hl : vs.length = ps.length) (h : sp vs H Q) : codeAny (model X.prog X.w) X.A (.call (.ref f) args) (fun r s' => match r with
      | .ok (.ret u) => EP X pins σ Q u s'
      | .ok _ => False
      | .error e => X.xe e s') s := by
  refine codeAny_mono (F.run X.A X.stack s H args us vs Q hr hgd I.env0 hb r hl h) fun r s' hq => ?_
  cases r with
  | error e => exact False.elim hq
  | ok fl =>
    cases fl with
    | ret u => exact I.after hq
    | next => exact hq
    | brk => exact hq
    | cont => exact hq
/-- f(e, ..) -/
theorem pe_callQ {t : TA} (F : FnQ X.prog X.w X.K X.mg X.base k f fd ps sp) (hr : Room k X.A) (hgd : X.A.guards = some []) (hm : X.mg x = some (.ref f)) (hk : PySem.W.keepIn X.K (.ref f) = true) (hb : Binds X.K fd ps []) (ha : PA X (e :: es) t) (hg : Gl X x := by rfl)
    (hdb : (x == ("__debug__" : Str)) = false := by decide) (he : starEach (e :: es) X.env = (false, eval e X.env) :: starEach es X.env := by rfl) (hpl : (backTo pos (starEach es X.env)).any (·.1) = false := by rfl) :
    PE X (.Call (.Name x p) (e :: es) [] pos) (fun σ H Q => t σ H fun vs H1 => vs.length = ps.length ∧ sp vs H1 Q) := by
  refine ⟨fun pins s σ H Q I h => ?_⟩
  refine wpAny_Call_Name_kw (ld_glob I hg hm ?_ hdb)
  refine PySem.W.callWith_K (h₀ := X.base) I.ok.mod.kin hk
    (thn (ha.run pos pins s σ H _ I h) fun us s1 ⟨vs, H1, I1, r, hl, q⟩ => ⟨I1.kIn, ?_⟩) he hpl
  have b := hb s1 us I1.kIn (by rw [List.append_nil, ← r.length]; exact hl)
  rw [List.append_nil] at b
  exact wpAny_call (codeAny_mono (run_fnQ F hr hgd b I1 r hl q) fun r s' hq => by
    cases r with
    | error e => exact hq
    | ok fl => cases fl <;> exact hq)
theorem d_call (F : FnG X.prog X.w X.K X.mg X.base k f fd ps Fs) (hr : Room k X.A) (hgd : X.A.guards = some []) (hm : X.mg x = some (.ref f)) (hk : PySem.W.keepIn X.K (.ref f) = true) (hb : Binds X.K fd ps []) (ha : PA X (e :: es) (tAs ⟨X.K, X.mg, ga, bo, X.prog, X.w⟩ fs)) (hg : Gl X x := by rfl)
    (hdb : (x == ("__debug__" : Str)) = false := by decide) (he : starEach (e :: es) X.env = (false, eval e X.env) :: starEach es X.env := by rfl) (hpl : (backTo pos (starEach es X.env)).any (·.1) = false := by rfl) :
    PE X (.Call (.Name x p) (e :: es) [] pos) (tP ⟨X.K, X.mg, ga, bo, X.prog, X.w⟩ (eCall Fs fs)) := (pe_callQ F.q hr hgd hm hk hb ha hg hdb he hpl).imp fun σ H Q ⟨H0, F1, δ, g, d, g', w, o, q⟩ => by
  obtain ⟨ds, g1, o1, o⟩ := ok_bind.mp o
  exact ⟨H0, F1, δ, g, ds, g1, w, o1, fun vs F1 H1 s1 r1 => ⟨by rw [r1.length]; exact F.ar _ _ _ _ o, ga, bo, F1, ds, g1, d, g', s1.le, s1.gen, r1, o, fun v F2 H2 s2 r2 => q v F2 H2 (s1.trans s2) r2⟩⟩
/-! ### calls by name -/
theorem kwB_run {s : Shared} {n : Nat} {ix : List Nat} {us ws : List Value} (hb : KwB fd ps ks n ix) (h1 : us.length = n) (h2 : ws.length = ks.length) : BindsTo s fd ⟨us, ks.zip ws⟩ (ps.zip (pick ix (us ++ ws))) := .of_eq (hb.to us ws h1 h2)
theorem pe_callQK {t tk : TA} {n : Nat} {ix : List Nat} (F : FnQ X.prog X.w X.K X.mg X.base k f fd ps sp) (hr : Room k X.A) (hgd : X.A.guards = some []) (hm : X.mg x = some (.ref f)) (hk : PySem.W.keepIn X.K (.ref f) = true) (hb : KwB fd ps ks n ix) (ha : PA X (e :: es) t) (hkw : PK X kws tk) (hnk : kws.length = ks.length)
    (hg : Gl X x := by rfl) (hall : (backToKw pos (keywordEach kws X.env)).all (·.1.isSome) = true := by rfl) (hks : (backToKw pos (keywordEach kws X.env)).filterMap (·.1) = ks := by rfl)
    (hdb : (x == ("__debug__" : Str)) = false := by decide) (he : starEach (e :: es) X.env = (false, eval e X.env) :: starEach es X.env := by rfl)
    (hpl : ((backTo pos (starEach (e :: es) X.env)).any (·.1) || (backToKw pos (keywordEach kws X.env)).any (·.1.isNone)) = false := by rfl) :
    PE X (.Call (.Name x p) (e :: es) kws pos) (fun σ H Q => t σ H fun vs H1 => tk σ H1 fun zs H2 => vs.length = n ∧ zs.length = ks.length ∧ sp (pick ix (vs ++ zs)) H2 Q) := by
  refine ⟨fun pins s σ H Q I h => ?_⟩
  refine wpAny_Call_Name_kw (ld_glob I hg hm ?_ hdb)
  refine PySem.W.callWith_KW (h₀ := X.base) I.ok.mod.kin hk hall (thn (ha.run pos pins s σ H _ I h) fun us s1 ⟨vs, H1, I1, r, q⟩ => ?_) hpl he
  refine thn (hkw.run pos pins s1 σ H1 _ I1 q) fun ws s2 ⟨zs, H2, I2, rz, hl, hz, q2⟩ => ⟨I2.kIn, ?_⟩
  rw [hks]
  have h1 : us.length = n := by rw [← r.length]; exact hl
  have h2 : ws.length = ks.length := by rw [← rz.length]; exact hz
  have hlen : (pick ix (vs ++ zs)).length = ps.length := by
    rw [pick_len fun i hi => ?_, hb.len]
    have := hb.all i hi
    rw [List.length_append, hl, hz]
    exact this
  refine wpAny_call (codeAny_mono (run_fnQ F hr hgd (kwB_run hb h1 h2) I2 (pick_vals (r.append rz)) hlen q2) fun r s' hq => ?_)
  cases r with
  | error e => exact hq
  | ok fl => cases fl <;> exact hq
theorem pe_callQK0 {tk : TA} {ix : List Nat} (F : FnQ X.prog X.w X.K X.mg X.base k f fd ps sp) (hr : Room k X.A) (hgd : X.A.guards = some []) (hm : X.mg x = some (.ref f)) (hk : PySem.W.keepIn X.K (.ref f) = true) (hb : KwB fd ps ks 0 ix) (hkw : PK X kws tk)
    (hg : Gl X x := by rfl) (hall : (backToKw pos (keywordEach kws X.env)).all (·.1.isSome) = true := by rfl) (hks : (backToKw pos (keywordEach kws X.env)).filterMap (·.1) = ks := by rfl)
    (hdb : (x == ("__debug__" : Str)) = false := by decide) (hpl : ((backTo pos (starEach [] X.env)).any (·.1) || (backToKw pos (keywordEach kws X.env)).any (·.1.isNone)) = false := by rfl) :
    PE X (.Call (.Name x p) [] kws pos) (fun σ H Q => tk σ H fun zs H2 => zs.length = ks.length ∧ sp (pick ix zs) H2 Q) := by
  refine ⟨fun pins s σ H Q I h => ?_⟩
  refine wpAny_Call_Name_kw (ld_glob I hg hm ?_ hdb)
  refine PySem.W.callWith_KW0 (h₀ := X.base) I.ok.mod.kin hk hall ?_ hpl
  refine thn (hkw.run pos pins s σ H _ I h) fun ws s2 ⟨zs, H2, I2, rz, hz, q2⟩ => ⟨I2.kIn, ?_⟩
  rw [hks]
  have h2 : ws.length = ks.length := by rw [← rz.length]; exact hz
  have hlen : (pick ix ([] ++ zs)).length = ps.length := by
    rw [pick_len fun i hi => ?_, hb.len]
    have := hb.all i hi
    rw [List.nil_append, hz]
    omega
  refine wpAny_call (codeAny_mono (run_fnQ F hr hgd (kwB_run hb rfl h2) I2 (pick_vals (us := [] ++ ws) (vs := [] ++ zs) rz) hlen q2) fun r s' hq => ?_)
  cases r with
  | error e => exact hq
  | ok fl => cases fl <;> exact hq
/-- arguments' values, as many as written -/
def EsN (n : Nat) (fs : Es) : Prop := ∀ δ g ds g', Ok (fs δ) g ds g' → ds.length = n
theorem esN_nil : EsN 0 esN := fun δ g ds g' o => by
  obtain ⟨rfl, _⟩ := ok_pure.mp o
  rfl
theorem esN_cons {a : E} {r : Es} {n : Nat} (h : EsN n r) : EsN (n + 1) (esC a r) := fun δ g ds g' o => by
  obtain ⟨x, g1, o1, o⟩ := ok_bind.mp o
  obtain ⟨xs, g2, o2, o⟩ := ok_bind.mp o
  obtain ⟨rfl, _⟩ := ok_pure.mp o
  rw [List.length_cons, h _ _ _ _ o2]
theorem dk_nil {c : C} : PK X [] (tAs c esN) := ⟨fun pos pins s σ H Q I ⟨H0, F, δ, g, ds, g', w, o, q⟩ => by
  obtain ⟨rfl, rfl⟩ := ok_pure.mp o
  exact pk_nil.run pos pins s σ H Q I (q [] F H (.refl w.le w.gen) .nil)⟩
theorem dk_cons {c : C} {nm : Option Str} {fe : E} (ha : PE X e (tP c fe)) (hr : PK X kws (tAs c fs)) {kpos : Pos} : PK X (⟨nm, e, kpos⟩ :: kws) (tAs c (esC fe fs)) := ⟨fun pos pins s σ H Q I ⟨H0, F, δ, g, ds, g', w, o, q⟩ => by
  obtain ⟨x, g1, o1, o⟩ := ok_bind.mp o
  obtain ⟨xs, g2, o2, o⟩ := ok_bind.mp o
  obtain ⟨rfl, rfl⟩ := ok_pure.mp o
  exact (pk_cons (kpos := kpos) (nm := nm) ha hr).run pos pins s σ H Q I ⟨H0, F, δ, g, x, g1, w, o1, fun v F1 H1 s1 r1 => ⟨H0, F1, δ, g1, xs, g2, w.step s1, o2, fun vs F2 H2 s2 r2 => q _ F2 H2 (s1.trans s2) (.cons (r1.up s2.sub) r2)⟩⟩⟩
theorem d_callK {n : Nat} {ix : List Nat} (F : FnG X.prog X.w X.K X.mg X.base k f fd ps Fs) (hr : Room k X.A) (hgd : X.A.guards = some []) (hm : X.mg x = some (.ref f)) (hk : PySem.W.keepIn X.K (.ref f) = true) (hb : KwB fd ps ks n ix) (ha : PA X (e :: es) (tAs ⟨X.K, X.mg, ga, bo, X.prog, X.w⟩ fs)) (hkw : PK X kws (tAs ⟨X.K, X.mg, ga, bo, X.prog, X.w⟩ gs)) (hn : EsN n fs) (hn2 : EsN ks.length gs) (hnk : kws.length = ks.length := by rfl)
    (hg : Gl X x := by rfl) (hall : (backToKw pos (keywordEach kws X.env)).all (·.1.isSome) = true := by rfl) (hks : (backToKw pos (keywordEach kws X.env)).filterMap (·.1) = ks := by rfl)
    (hdb : (x == ("__debug__" : Str)) = false := by decide) (he : starEach (e :: es) X.env = (false, eval e X.env) :: starEach es X.env := by rfl)
    (hpl : ((backTo pos (starEach (e :: es) X.env)).any (·.1) || (backToKw pos (keywordEach kws X.env)).any (·.1.isNone)) = false := by rfl) :
    PE X (.Call (.Name x p) (e :: es) kws pos) (tP ⟨X.K, X.mg, ga, bo, X.prog, X.w⟩ (eCallK Fs ix fs gs)) := (pe_callQK F.q hr hgd hm hk hb ha hkw hnk hg hall hks hdb he hpl).imp fun σ H Q ⟨H0, F1, δ, g, d, g', w, o, q⟩ => by
  obtain ⟨xs, g1, o1, o⟩ := ok_bind.mp o
  obtain ⟨ys, g2, o2, o⟩ := ok_bind.mp o
  exact ⟨H0, F1, δ, g, xs, g1, w, o1, fun vs F1 H1 s1 r1 => ⟨H0, F1, δ, g1, ys, g2, w.step s1, o2, fun us F2 H2 s2 r2 => ⟨by rw [r1.length]; exact hn _ _ _ _ o1, by rw [r2.length]; exact hn2 _ _ _ _ o2,
    ga, bo, F2, _, g2, d, g', s2.le, s2.gen, pick_rep ((r1.up s2.sub).append r2), o, fun v F3 H3 s3 r3 => q v F3 H3 ((s1.trans s2).trans s3) r3⟩⟩⟩
/-- f(k = e, ..) -/
theorem d_callK0 {ix : List Nat} (F : FnG X.prog X.w X.K X.mg X.base k f fd ps Fs) (hr : Room k X.A) (hgd : X.A.guards = some []) (hm : X.mg x = some (.ref f)) (hk : PySem.W.keepIn X.K (.ref f) = true) (hb : KwB fd ps ks 0 ix) (hkw : PK X kws (tAs ⟨X.K, X.mg, ga, bo, X.prog, X.w⟩ gs)) (hn2 : EsN ks.length gs)
    (hg : Gl X x := by rfl) (hall : (backToKw pos (keywordEach kws X.env)).all (·.1.isSome) = true := by rfl) (hks : (backToKw pos (keywordEach kws X.env)).filterMap (·.1) = ks := by rfl)
    (hdb : (x == ("__debug__" : Str)) = false := by decide) (hpl : ((backTo pos (starEach [] X.env)).any (·.1) || (backToKw pos (keywordEach kws X.env)).any (·.1.isNone)) = false := by rfl) :
    PE X (.Call (.Name x p) [] kws pos) (tP ⟨X.K, X.mg, ga, bo, X.prog, X.w⟩ (eCall (fun ys => Fs (pick ix ys)) gs)) := (pe_callQK0 F.q hr hgd hm hk hb hkw hg hall hks hdb hpl).imp fun σ H Q ⟨H0, F1, δ, g, d, g', w, o, q⟩ => by
  obtain ⟨ys, g2, o2, o⟩ := ok_bind.mp o
  exact ⟨H0, F1, δ, g, ys, g2, w, o2, fun us F2 H2 s2 r2 => ⟨by rw [r2.length]; exact hn2 _ _ _ _ o2,
    ga, bo, F2, _, g2, d, g', s2.le, s2.gen, pick_rep r2, o, fun v F3 H3 s3 r3 => q v F3 H3 (s2.trans s3) r3⟩⟩
end
end DL

/-! ## DGen -/
set_option Elab.async false
set_option autoImplicit false
set_option linter.all false
set_option maxRecDepth 100000
set_option maxHeartbeats 4000000
/-! DGen: the generator's numbers; pow, bit_length; pop out of a list of one's own; calls by name. -/
namespace DL
open PySem PySem.Spec PyProof.Rows L2

/-! ### pure -/
def getG (k : Nat) : M D := fun g => match g[k]? with
  | some n => some (.ok (.int n), g)
  | none => none
def putG (k : Nat) (n : Int) : M Unit := fun g => if k < g.length then some (.ok (), g.set k n) else none
/-- x[k], x the generator -/
def eG (i k : Nat) : E := fun δ => match δ[i]? with
  | some (.val .gen) => getG k
  | _ => stuck
/-- x[k] = e, x the generator -/
def sG (i k : Nat) (e : E) : S := fun δ => e δ >>= fun d => match d, δ[i]? with
  | .int n, some (.val .gen) => putG k n >>= fun _ => pure (.nx δ)
  | _, _ => stuck
def dBits (d : D) : M D := match d with
  | .int i => pure (.int (Builtin.Int.intBits i : Nat))
  | _ => stuck
def dPow (d e : D) : M D := match d, e with
  | .int i, .int j => if 0 ≤ j ∧ (Builtin.Int.intBits i : Int) * j ≤ 2 ^ 27 then pure (.int (i ^ j.toNat)) else stuck
  | _, _ => stuck
/-- x.append(y.pop(e)) -/
def sAppPop (i j : Nat) (e : E) : S := fun δ => e δ >>= fun d => match d, δ[i]?, δ[j]? with
  | .int k, some (.own xs), some (.own ys) => match place ys.length k with
    | some m => match ys[m]? with
      | some y => if lim (xs.length + 1) ∧ -(2 ^ 63) ≤ k ∧ k < 2 ^ 63 ∧ i ≠ j then pure (.nx ((δ.set j (.own (ys.eraseIdx m))).set i (.own (xs ++ [y])))) else stuck
      | none => stuck
    | none => stuck
  | _, _, _ => stuck
theorem ok_getG {k : Nat} {g g' : Gs} {d : D} (h : Ok (getG k) g d g') : ∃ n, g[k]? = some n ∧ d = .int n ∧ g' = g := by
  unfold Ok getG at h
  split at h
  · rename_i n e
    cases h
    exact ⟨n, e, rfl, rfl⟩
  · cases h
theorem ok_putG {k : Nat} {n : Int} {g g' : Gs} {u : Unit} (h : Ok (putG k n) g u g') : k < g.length ∧ g' = g.set k n := by
  unfold Ok putG at h
  split at h
  · rename_i e
    cases h
    exact ⟨e, rfl⟩
  · cases h

section
variable {X : Cx} {c : C} {a b e : Expr} {fa fb f : E} {pos : Pos}
theorem d_gen {i k : Nat} {kp : Pos} {j : Nat} (h : PE X a (tVar i)) : PE X (.Subscript a (.Constant (.int (k : Nat)) j kp) pos) (tP c (eG i k)) := (pe_ix ix_list h pe_int (fun _ _ => rfl)).imp fun σ H Q ⟨H0, F, δ, g, d, g', w, o, q⟩ => by
  unfold eG at o
  split at o
  · rename_i e1
    obtain ⟨n, hn, rfl, rfl⟩ := ok_getG o
    obtain ⟨v, e2, r⟩ := w.val i _ e1
    cases r with
    | @gen _ p hp =>
      obtain ⟨q1, q2⟩ := w.gen.gen p hp
      refine ⟨_, e2, ⟨p, g'.map V.int, (k : Nat), .int n, rfl, rfl, SqL.of q2, ?_, q _ F H (.refl w.le w.gen) (.int n)⟩⟩
      obtain ⟨hl, hh⟩ := List.getElem?_eq_some_iff.mp hn
      unfold atI
      rw [show ixN (g'.map V.int).length (k : Nat) = some k by
        unfold ixN
        rw [if_pos (by omega), if_pos (by simpa using hl)]
        simp]
      show (g'.map V.int)[k]? = some (V.int n)
      rw [List.getElem?_map, hn]
      rfl
  · exact absurd o not_ok_stuck
theorem Wd.putG {H0 F H : Hp} {σ : L2.St} {δ : Dlt} {g g' : Gs} {p : Addr} (w : Wd c H0 F H σ δ g) (hp : c.ga = some p) : Wd c H0 F (upd H p (.lst (g'.map V.int))) σ δ g' := by
  obtain ⟨q1, q2⟩ := w.gen.gen p hp
  refine ⟨fun b u e => ?_, ⟨fun b n => ?_, fun b u e => by rw [upd_ne (ne_of_none e (w.gen.nb p hp))]; exact w.gen.bo b u e, w.gen.nb⟩, w.len, w.val, fun j xs h => ?_, w.apart, w.bo0⟩
  · rw [upd_ne (ne_of_none e q1)]; exact w.le b u e
  · rw [hp] at n; cases n
    exact ⟨q1, upd_same⟩
  · obtain ⟨a, vs, e1, e2, e3, e4, e5, r⟩ := w.own j xs h
    exact ⟨a, vs, e1, by rw [upd_ne (fun z => e5 (by rw [z]; exact hp))]; exact e2, e3, e4, e5, r⟩
theorem Stp.putG {F0 H0 F H : Hp} {g g' : Gs} {p : Addr} (s : Stp c F0 H0 F H g) (hp : c.ga = some p) : Stp c F0 H0 F (upd H p (.lst (g'.map V.int))) g' := by
  obtain ⟨q1, q2⟩ := s.gen.gen p hp
  refine ⟨s.sub, fun b o n e => ?_, s.new, fun b u e => ?_, ⟨fun b n => ?_, fun b u e => by rw [upd_ne (ne_of_none e (s.gen.nb p hp))]; exact s.gen.bo b u e, s.gen.nb⟩⟩
  · rw [upd_ne (fun z => n (by rw [z]; exact hp))]; exact s.ext b o n e
  · rw [upd_ne (ne_of_none e q1)]; exact s.le b u e
  · rw [hp] at n; cases n
    exact ⟨q1, upd_same⟩
theorem ds_gen {i k j : Nat} {kp p2 : Pos} (hv : PE X a (tVar i)) (he : PE X e (tP c f))
    (ha : ∀ v, assign (.Subscript a (.Constant (.int (k : Nat)) j kp) p2) X.env v = (do
      let ov ← holding [v] (eval a X.env)
      let iv ← holding [v, ov] (eval (.Constant (.int (k : Nat)) j kp) X.env)
      standAt p2
      holding [v, ov, iv] (setItem ov iv v)
      release [v, ov, iv] []) := by intro _; rfl)
    (hs : swapsWithSole [.Subscript a (.Constant (.int (k : Nat)) j kp) p2] e pos.line X.env = pure false := by rfl) (hw : swappedStores [.Subscript a (.Constant (.int (k : Nat)) j kp) p2] e X.env = pure none := by rfl)
    (h1 : (assignEach [.Subscript a (.Constant (.int (k : Nat)) j kp) p2] X.env).map (·.2) = [assign (.Subscript a (.Constant (.int (k : Nat)) j kp) p2) X.env] := by rfl) :
    PS X (.Assign [.Subscript a (.Constant (.int (k : Nat)) j kp) p2] e pos) (tS c (sG i k f)) := (ps_asg he (pg_sub hv pe_int set_list ha) hs hw h1).imp fun D σ H ⟨F0, H0, F, δ, g, r, g', w, sp, o, q⟩ => by
  obtain ⟨d, g1, o1, o⟩ := ok_bind.mp o
  split at o
  · rename_i n e1
    obtain ⟨u, g2, o2, o⟩ := ok_bind.mp o
    obtain ⟨rfl, rfl⟩ := ok_pure.mp o
    obtain ⟨hk, rfl⟩ := ok_putG o2
    refine ⟨H0, F, δ, g, _, g1, w, o1, fun v F1 H1 s1 r1 => ?_⟩
    cases r1
    have w1 := w.step s1
    obtain ⟨x, e2, rx⟩ := w1.val i _ e1
    cases rx with
    | @gen _ p hp =>
      obtain ⟨q1, q2⟩ := w1.gen.gen p hp
      refine ⟨_, e2, p, g1.map V.int, (k : Nat), k, rfl, rfl, q2, ?_, ?_⟩
      · unfold ixN
        rw [if_pos (by omega), if_pos (by simpa using hk)]
        simp
      · have em : (g1.map V.int).set k (V.int n) = (g1.set k n).map V.int := by rw [List.map_set]
        rw [em]
        exact q σ F1 _ (w1.putG hp) ((sp.trans s1).putG hp) s1.sub
  · exact absurd o not_ok_stuck
/-- e.bit_length() -/
theorem d_bits {apos : Pos} (h : PE X e (tR c f)) (hbase : attributeBase e "bit_length" X.env (eval e X.env) = eval e X.env := by rfl) (hline : (apos.endLine == pos.line) = true := by rfl) : PE X (.Call (.Attribute e "bit_length" apos) [] [] pos) (tP c (eF dBits f)) :=
  (pe_bits h hbase hline).imp fun σ H Q ⟨H0, F, δ, g, d, g', w, o, q⟩ => by
    obtain ⟨x, g1, o1, o⟩ := ok_bind.mp o
    unfold dBits at o
    split at o
    · obtain ⟨rfl, rfl⟩ := ok_pure.mp o
      refine ⟨H0, F, δ, g, _, g1, w, o1, fun v F1 H1 s1 r1 => ?_⟩
      have r1 := r1.rep rfl
      cases r1
      exact ⟨_, rfl, q _ F1 H1 s1 (.int _)⟩
    · exact absurd o not_ok_stuck
theorem op_powW : OpR X (binaryOp .Pow) (rI (fun i j => 0 ≤ j ∧ (Builtin.Int.intBits i : Int) * j ≤ 2 ^ 27) fun i j => .int (i ^ j.toNat)) := opI fun _ _ _ _ _ _ _ hc q => PyProof.Rows.pow_int hc.1 hc.2 q
theorem pow_d : OpR X (binaryOp .Pow) (oD c dPow) := by
  intro pins s σ H x y v u Q I rx ry h
  obtain ⟨F, d, e, d', g, g', le, gen, r1, r2, o, q⟩ := h
  unfold dPow at o
  split at o
  · split at o
    · rename_i hc
      obtain ⟨rfl, rfl⟩ := ok_pure.mp o
      have a1 := r1.rep rfl
      have a2 := r2.rep rfl
      cases a1; cases a2
      exact op_powW pins s σ H _ _ v u Q I rx ry ⟨_, _, rfl, rfl, hc, q _ F H (.refl le gen) (.int _)⟩
    · exact absurd o not_ok_stuck
  · exact absurd o not_ok_stuck
theorem RepAll.eraseIdx {F : Hp} : ∀ {vs : List V} {ds : List D} (i : Nat), RepAll c F vs ds → RepAll c F (vs.eraseIdx i) (ds.eraseIdx i)
  | _, _, _, .nil => .nil
  | _, _, 0, .cons _ t => t
  | _, _, i + 1, .cons r t => .cons r (RepAll.eraseIdx i t)
/-- x.append(y.pop(e)) -/
theorem ds_apop {i j : Nat} {apos apos2 pos2 p2 : Pos} (hv : PE X a (tVar i)) (hv2 : PE X b (tVar j)) (he : PE X e (tP c f)) (hbase2 : attributeBase b "pop" X.env (eval b X.env) = eval b X.env := by rfl)
    (hfew2 : ((backTo pos2 (starEach [e] X.env)).all (fun x => !x.1) && (backToKw pos2 (keywordEach [] X.env)).all (fun x => x.1.isSome) && decide ([e].length + ([] : List Keyword).length + (if ([] : List Keyword).isEmpty then 0 else 1) < 30)) = true := by rfl)
    (hline2 : (apos2.endLine == pos2.line) = true := by rfl) (hs2 : starEach [e] X.env = (false, eval e X.env) :: starEach [] X.env := by rfl)
    (hbase : attributeBase a "append" X.env (eval a X.env) = eval a X.env := by rfl)
    (hfew : ((backTo pos (starEach [.Call (.Attribute b "pop" apos2) [e] [] pos2] X.env)).all (fun x => !x.1) && (backToKw pos (keywordEach [] X.env)).all (fun x => x.1.isSome) && decide ([Expr.Call (.Attribute b "pop" apos2) [e] [] pos2].length + ([] : List Keyword).length + (if ([] : List Keyword).isEmpty then 0 else 1) < 30)) = true := by rfl)
    (hline : (apos.endLine == pos.line) = true := by rfl) (hs : starEach [.Call (.Attribute b "pop" apos2) [e] [] pos2] X.env = (false, eval (.Call (.Attribute b "pop" apos2) [e] [] pos2) X.env) :: starEach [] X.env := by rfl)
    (hsw : swapsWith (.Call (.Attribute a "append" apos) [.Call (.Attribute b "pop" apos2) [e] [] pos2] [] pos) none p2.line X.env = pure false := by rfl) :
    PS X (.Expr (.Call (.Attribute a "append" apos) [.Call (.Attribute b "pop" apos2) [e] [] pos2] [] pos) p2) (tS c (sAppPop i j f)) :=
  (ps_expr (pe_bm PySem.F.plainAttrs_list PySem.F.slot_list_append PySem.F.type_list_append mt_append hv
    (pa_cons (pe_bm PySem.F.plainAttrs_list PySem.F.slot_list_pop PySem.F.type_list_pop mt_popAt hv2 (pa_cons he pa_nil hs2) hbase2 hfew2 hline2 hs2 rfl) pa_nil hs) hbase hfew hline hs rfl) hsw).imp fun D σ H ⟨F0, H0, F, δ, g, r, g', w, sp, o, q⟩ => by
    obtain ⟨d, g1, o1, o⟩ := ok_bind.mp o
    split at o
    · rename_i k xs ys hx hy
      split at o
      · rename_i m hm
        split at o
        · rename_i y hym
          split at o
          · rename_i hc
            obtain ⟨hl, hk1, hk2, hij⟩ := hc
            obtain ⟨rfl, rfl⟩ := ok_pure.mp o
            obtain ⟨p, vs, e1, e2, e3, e4, e5, ra⟩ := w.own i xs hx
            obtain ⟨p', vs', b1, b2, b3, b4, b5, rb⟩ := w.own j ys hy
            have hpp : p ≠ p' := fun z => by
              have q := w.apart i j xs ys hij hx hy
              rw [e1, b1, z] at q
              exact q rfl
            refine ⟨.ref p, e1, .inl ⟨rfl, vs, SqL.of e2⟩, .ref p', b1, .inl ⟨rfl, vs', SqL.of b2⟩, H0, F, δ, g, _, g1, w, o1, fun v F1 H1 s1 r1 => ?_⟩
            cases r1
            have w1 := w.step s1
            obtain ⟨_, _, a1, a2, a3, _, _, ra1⟩ := w1.own i xs hx
            obtain ⟨_, _, c1, c2, c3, _, _, rb1⟩ := w1.own j ys hy
            rw [e1] at a1; cases a1
            rw [b1] at c1; cases c1
            obtain ⟨z, hz, rz⟩ := rb1.get hym
            have hp : seqIndex? k ys.length = some m := (ixN_seq (show ixN ys.length k = some m from hm)).1
            refine ⟨p', _, k, m, z, rfl, rfl, c2, hk1, hk2, ?_, hz, ?_⟩
            · rw [rb1.length]; exact hp
            have w2 := w1.turn hy b1 (rb1.eraseIdx m)
            have hx2 : (δ.set j (Sl.own (ys.eraseIdx m)))[i]? = some (Sl.own xs) := by rw [List.getElem?_set_ne (Ne.symm hij)]; exact hx
            obtain ⟨_, us, a4, a5, a6, _, _, ra2⟩ := w2.own i xs hx2
            rw [e1] at a4; cases a4
            refine ⟨p, us, z, rfl, rfl, a5, ?_, ?_⟩
            · rw [ra2.length]
              have := lim_le hl
              omega
            · exact q σ F1 _ (w2.turn hx2 e1 (ra2.append (.cons rz .nil))) (((sp.trans s1).turn c3 b4 b5 w.bo0).turn a3 e4 e5 w.bo0) s1.sub
          · exact absurd o not_ok_stuck
        · exact absurd o not_ok_stuck
      · exact absurd o not_ok_stuck
    · exact absurd o not_ok_stuck
end
end DL

/-! ## DZipA -/
set_option Elab.async false
set_option autoImplicit false
set_option linter.all false
set_option maxRecDepth 100000
set_option maxHeartbeats 4000000
/-! DZipA: zip of two lists that must be of one length. -/
namespace DZ
open PySem PySem.Spec PyProof.Rows
open Sem (wp)
abbrev IsZipS (h : Heap) (z TI TO : Addr) (f0 : Value) : Prop :=
  h.get? z = some { cls := .type "zip", dict := none, data := .fields #[f0, .bool false, .bool true, .ref TI, .ref TO], slots := #[] }
section
variable {prog : Program} {w : World} {A : Around} {E : Value → Shared → Prop} {s : Shared}
theorem nextOrEnd_item {it l : Addr} {i : Nat} {items : Array Value} {x : Value} {Q : Option Value → Shared → Prop} (hit : s.heap.IsListIter it l i) (hl : s.heap.IsList l items) (hx : items[i]? = some x)
    (hQ : ∀ h', h'.IsListIter it l (i + 1) → Heap.SameBut it s.heap h' → Q (some x) { s with heap := h' }) : wpAny (model prog w) A (Builtin.SmallTypes.nextOrEnd (.ref it)) Q E s := by
  unfold Builtin.SmallTypes.nextOrEnd
  exact wpAny_bind (wpAny_attempt (wpAny_nextOf_list_item hit hl hx fun h' h1 h2 => wpAny_pure (hQ h' h1 h2)))
theorem nextOrEnd_end {it l : Addr} {i : Nat} {items : Array Value} {Q : Option Value → Shared → Prop} (hh : A.handled = none) (hit : s.heap.IsListIter it l i) (hl : s.heap.IsList l items) (hx : items[i]? = none)
    (hQ : ∀ h', Heap.ExtBut it s.heap h' → Q none { s with heap := h' }) : wpAny (model prog w) A (Builtin.SmallTypes.nextOrEnd (.ref it)) Q E s := by
  unfold Builtin.SmallTypes.nextOrEnd
  refine wpAny_bind (wpAny_attempt (wpAny_nextOf_list_end hh hit hl hx fun h' e hs he => ?_))
  obtain ⟨o, ho, hc⟩ := he
  refine wpAny_bind (wpAny_isInstance (T := "StopIteration") (b := true) ⟨o, ho, hc⟩ isSubtype_stop ?_)
  exact wpAny_pure (hQ _ hs)
theorem zipS_next_item {z TI TO i1 i2 l1 l2 : Addr} {k1 k2 : Nat} {xs ys : Array Value} {x y a b : Value} {Q : Value → Shared → Prop} (D : ZipApart z TI TO i1 i2 l1 l2)
    (hz : IsZipS s.heap z TI TO .none) (hTI : IsPair s.heap TI (.ref i1) (.ref i2)) (hTO : IsPair s.heap TO a b)
    (h1 : s.heap.IsListIter i1 l1 k1) (h2 : s.heap.IsListIter i2 l2 k2) (hl1 : s.heap.IsList l1 xs) (hl2 : s.heap.IsList l2 ys) (hx : xs[k1]? = some x) (hy : ys[k2]? = some y)
    (hQ : ∀ h', IsZipS h' z TI TO (rawInt s.heap.objs.size) → IsPair h' TO x y → h'.IsListIter i1 l1 (k1 + 1) → h'.IsListIter i2 l2 (k2 + 1) → IsPair h' s.heap.objs.size x y → h'.objs.size = s.heap.objs.size + 1 →
      (∀ c o, c ≠ z → c ≠ TO → c ≠ i1 → c ≠ i2 → s.heap.get? c = some o → h'.get? c = some o) → Q (.ref s.heap.objs.size) { s with heap := h' }) :
    wpAny (model prog w) A (Builtin.«zip.__next__» ⟨[.ref z], []⟩) (fun fin s' => ∃ v, fin = .done (.ret v) ∧ Q v s') E s := by
  show wpAny _ _ (field (.ref z) 2 >>= _) _ _ _
  refine wpAny_bind (wpAny_field hz rfl (x := .bool true) rfl ?_)
  show wpAny _ _ (field (.ref z) 3 >>= _) _ _ _
  refine wpAny_bind (wpAny_field hz rfl (x := .ref TI) rfl ?_)
  refine wpAny_bind (wpAny_seqItems hTI rfl ?_)
  show wpAny _ _ (Builtin.SmallTypes.ownedTupleIsFree (.ref z) >>= _) _ _ _
  refine wpAny_bind ?_
  unfold Builtin.SmallTypes.ownedTupleIsFree
  refine wpAny_bind (wpAny_field hz rfl (x := .none) rfl (wpAny_pure ?_))
  simp only [if_true]
  refine wpAny_bind (wpAny_rule ?_)
  refine wpAny_bind (wpAny_field hz rfl (x := .ref TO) rfl ?_)
  refine wpAny_bind (wpAny_setField_rec hz (by simp) fun h₁ hz₁ hs₁ => ?_)
  replace hz₁ : IsZipS h₁ z TI TO .ellipsis := hz₁
  refine wpAny_bind ?_
  simp only [List.zipIdx_cons, List.zipIdx_nil, List.forIn_cons, List.forIn_nil]
  refine wpAny_bind (wpAny_bind (wpAny_onRaise ?_))
  show wpAny _ _ (Builtin.SmallTypes.nextOrEnd (.ref i1)) _ _ _
  refine nextOrEnd_item (h1.extBut hs₁.extBut D.i1z) (hl1.extBut hs₁.extBut D.l1z) hx fun h₂ h1₂ hs₂ => ?_
  have hTO₂ : IsPair h₂ TO a b := hs₂.extBut _ _ D.TOi1 (hs₁.extBut _ _ D.TOz hTO)
  refine wpAny_bind (wpAny_seqItems hTO₂ rfl ?_)
  refine wpAny_bind (wpAny_updateSeq_pair hTO₂ fun h₃ hTO₃ hs₃ => ?_)
  replace hTO₃ : IsPair h₃ TO x b := hTO₃
  refine wpAny_bind (wpAny_letGo (wpAny_pure ?_))
  refine wpAny_bind (wpAny_bind (wpAny_onRaise ?_))
  show wpAny _ _ (Builtin.SmallTypes.nextOrEnd (.ref i2)) _ _ _
  refine nextOrEnd_item (((h2.extBut hs₁.extBut D.i2z).extBut hs₂.extBut D.i12.symm).extBut hs₃.extBut D.TOi2.symm)
    (((hl2.extBut hs₁.extBut D.l2z).extBut hs₂.extBut D.l2i1).extBut hs₃.extBut D.l2TO) hy fun h₄ h2₄ hs₄ => ?_
  have hTO₄ : IsPair h₄ TO x b := hs₄.extBut _ _ D.TOi2 hTO₃
  refine wpAny_bind (wpAny_seqItems hTO₄ rfl ?_)
  refine wpAny_bind (wpAny_updateSeq_pair hTO₄ fun h₅ hTO₅ hs₅ => ?_)
  replace hTO₅ : IsPair h₅ TO x y := hTO₅
  refine wpAny_bind (wpAny_letGo (wpAny_pure (wpAny_pure ?_)))
  refine wpAny_bind (wpAny_seqItems hTO₅ rfl ?_)
  refine wpAny_bind (wpAny_newTuple ?_)
  have hsz : h₅.objs.size = s.heap.objs.size := by rw [hs₅.1, hs₄.1, hs₃.1, hs₂.1, hs₁.1]
  have hz₅ : IsZipS h₅ z TI TO .ellipsis := hs₅.extBut _ _ D.TOz.symm (hs₄.extBut _ _ D.i2z.symm (hs₃.extBut _ _ D.TOz.symm (hs₂.extBut _ _ D.i1z.symm hz₁)))
  have hk₅ : ∀ c o, c ≠ z → c ≠ TO → c ≠ i1 → c ≠ i2 → s.heap.get? c = some o → h₅.get? c = some o := fun c o c1 c2 c3 c4 e =>
    hs₅.extBut _ _ c2 (hs₄.extBut _ _ c4 (hs₃.extBut _ _ c2 (hs₂.extBut _ _ c3 (hs₁.extBut _ _ c1 e))))
  have h1₅ : h₅.IsListIter i1 l1 (k1 + 1) := ((h1₂.extBut hs₃.extBut D.TOi1.symm).extBut hs₄.extBut D.i12).extBut hs₅.extBut D.TOi1.symm
  have h2₅ : h₅.IsListIter i2 l2 (k2 + 1) := h2₄.extBut hs₅.extBut D.TOi2.symm
  have hzlt : z < h₅.objs.size := Heap.lt_size hz₅
  have hTOlt : TO < h₅.objs.size := Heap.lt_size hTO₅
  have hi1lt : i1 < h₅.objs.size := by obtain ⟨_, e, _⟩ := h1₅; exact Heap.lt_size e
  have hi2lt : i2 < h₅.objs.size := by obtain ⟨_, e, _⟩ := h2₅; exact Heap.lt_size e
  show wpAny _ _ (Builtin.SmallTypes.ownedTupleHandOut (.ref z) (.ref h₅.objs.size) >>= _) _ _ _
  refine wpAny_bind ?_
  unfold Builtin.SmallTypes.ownedTupleHandOut
  have hz₆ : IsZipS (h₅.push { cls := .type "tuple", data := .seq #[x, y] }) z TI TO .ellipsis := Heap.get?_push_of_some _ hz₅
  refine wpAny_bind (wpAny_setField_rec hz₆ (by simp) fun h₇ hz₇ hs₇ => ?_)
  replace hz₇ : IsZipS h₇ z TI TO (rawInt h₅.objs.size) := hz₇
  refine wpAny_setField_rec hz₇ (by simp) fun h₈ hz₈ hs₈ => ?_
  replace hz₈ : IsZipS h₈ z TI TO (rawInt h₅.objs.size) := hz₈
  have up : ∀ c o, c ≠ z → h₅.get? c = some o → h₈.get? c = some o := fun c o c1 e => hs₈.extBut _ _ c1 (hs₇.extBut _ _ c1 (Heap.get?_push_of_some _ e))
  have hT₈ : IsPair h₈ h₅.objs.size x y := hs₈.extBut _ _ (Nat.ne_of_gt hzlt) (hs₇.extBut _ _ (Nat.ne_of_gt hzlt) (Heap.get?_push_size _ rfl))
  have hz8 : h₈.objs.size = h₅.objs.size + 1 := by rw [hs₈.1, hs₇.1, Heap.size_push]
  rw [hsz] at hz₈ hT₈ hz8
  refine wpAny_pure ⟨_, rfl, ?_⟩
  show Q (.ref h₅.objs.size) _
  rw [hsz]
  exact hQ h₈ hz₈ (up _ _ D.TOz hTO₅) (h1₅.at fun o e => up _ o D.i1z e) (h2₅.at fun o e => up _ o D.i2z e) hT₈ hz8 fun c o c1 c2 c3 c4 e => up c o c1 (hk₅ c o c1 c2 c3 c4 e)

theorem zipS_next_end {z TI TO i1 i2 l1 l2 : Addr} {k1 k2 : Nat} {xs ys : Array Value} {a b : Value} {Q : Fin → Shared → Prop} (hh : A.handled = none) (D : ZipApart z TI TO i1 i2 l1 l2)
    (hz : IsZipS s.heap z TI TO .none) (hTI : IsPair s.heap TI (.ref i1) (.ref i2)) (hTO : IsPair s.heap TO a b)
    (h1 : s.heap.IsListIter i1 l1 k1) (h2 : s.heap.IsListIter i2 l2 k2) (hl1 : s.heap.IsList l1 xs) (hl2 : s.heap.IsList l2 ys) (hx : xs[k1]? = none) (hy : ys[k2]? = none)
    (hE : ∀ h' e, (∀ c o, c ≠ z → c ≠ TO → c ≠ i1 → c ≠ i2 → s.heap.get? c = some o → h'.get? c = some o) → (∃ o, h'.get? e = some o ∧ o.cls = .type "StopIteration") → E (.ref e) { s with heap := h' }) :
    wpAny (model prog w) A (Builtin.«zip.__next__» ⟨[.ref z], []⟩) Q E s := by
  show wpAny _ _ (field (.ref z) 2 >>= _) _ _ _
  refine wpAny_bind (wpAny_field hz rfl (x := .bool true) rfl ?_)
  show wpAny _ _ (field (.ref z) 3 >>= _) _ _ _
  refine wpAny_bind (wpAny_field hz rfl (x := .ref TI) rfl ?_)
  refine wpAny_bind (wpAny_seqItems hTI rfl ?_)
  show wpAny _ _ (Builtin.SmallTypes.ownedTupleIsFree (.ref z) >>= _) _ _ _
  refine wpAny_bind ?_
  unfold Builtin.SmallTypes.ownedTupleIsFree
  refine wpAny_bind (wpAny_field hz rfl (x := .none) rfl (wpAny_pure ?_))
  simp only [if_true]
  refine wpAny_bind (wpAny_rule ?_)
  refine wpAny_bind (wpAny_field hz rfl (x := .ref TO) rfl ?_)
  refine wpAny_bind (wpAny_setField_rec hz (by simp) fun h₁ hz₁ hs₁ => ?_)
  replace hz₁ : IsZipS h₁ z TI TO .ellipsis := hz₁
  refine wpAny_bind ?_
  simp only [List.zipIdx_cons, List.zipIdx_nil, List.forIn_cons, List.forIn_nil]
  refine wpAny_bind (wpAny_bind (wpAny_onRaise ?_))
  show wpAny _ _ (Builtin.SmallTypes.nextOrEnd (.ref i1)) _ _ _
  refine nextOrEnd_end hh (h1.extBut hs₁.extBut D.i1z) (hl1.extBut hs₁.extBut D.l1z) hx fun h₂ hs₂ => ?_
  have hz₂ : IsZipS h₂ z TI TO .ellipsis := hs₂ _ _ D.i1z.symm hz₁
  refine wpAny_bind (wpAny_setField_rec hz₂ (by simp) fun h₃ hz₃ hs₃ => ?_)
  have h2₃ : h₃.IsListIter i2 l2 k2 := ((h2.extBut hs₁.extBut D.i2z).extBut hs₂ D.i12.symm).extBut hs₃.extBut D.i2z
  have hl2₃ : h₃.IsList l2 ys := ((hl2.extBut hs₁.extBut D.l2z).extBut hs₂ D.l2i1).extBut hs₃.extBut D.l2z
  refine wpAny_bind ?_
  show wpAny _ _ (forIn (m := Sem) [(Value.ref i2, 1)] _ _ >>= _) _ _ _
  refine wpAny_bind ?_
  simp only [List.forIn_cons, List.forIn_nil]
  refine wpAny_bind ?_
  refine wpAny_bind (nextOrEnd_end hh h2₃ hl2₃ hy fun h₄ hs₄ => ?_)
  rw [if_neg (by simp)]
  refine wpAny_pure (wpAny_pure (wpAny_bind (wpAny_rule ?_)))
  show wpAny _ _ (newExc (.type "StopIteration") [] >>= _) _ _ _
  refine wpAny_bind ?_
  simp only [newExc, newTuple]
  refine wpAny_bind (wpAny_newObj_type ?_ (by size_fits))
  refine wpAny_bind (m := firstArgMember _ _) (wpAny_of_eq (a := Value.none) (by first | rfl | (simp only [firstArgMember]; rfl)) ?_)
  refine wpAny_newObj_type ?_ (by size_fits)
  simp only [raiseNew]
  refine wpAny_bind (wpAny_handled ?_)
  first | rw [show A.in1.handled = none from hh] | rw [hh]
  refine wpAny_bind (wpAny_pure (wpAny_throw ?_))
  exact hE _ _ (fun c o c1 c2 c3 c4 e => Heap.get?_push_of_some _ (Heap.get?_push_of_some _ (hs₄ _ _ c4 (hs₃.extBut _ _ c1 (hs₂ _ _ c3 (hs₁.extBut _ _ c1 e)))))) ⟨_, Heap.get?_push_size _ rfl, rfl⟩
theorem wpAny_pyNext_zipS_item {z TI TO i1 i2 l1 l2 : Addr} {k1 k2 : Nat} {xs ys : Array Value} {x y a b : Value} {Q : Option Value → Shared → Prop} (D : ZipApart z TI TO i1 i2 l1 l2)
    (hz : IsZipS s.heap z TI TO .none) (hTI : IsPair s.heap TI (.ref i1) (.ref i2)) (hTO : IsPair s.heap TO a b)
    (h1 : s.heap.IsListIter i1 l1 k1) (h2 : s.heap.IsListIter i2 l2 k2) (hl1 : s.heap.IsList l1 xs) (hl2 : s.heap.IsList l2 ys) (hx : xs[k1]? = some x) (hy : ys[k2]? = some y)
    (hQ : ∀ h', IsZipS h' z TI TO (rawInt s.heap.objs.size) → IsPair h' TO x y → h'.IsListIter i1 l1 (k1 + 1) → h'.IsListIter i2 l2 (k2 + 1) → IsPair h' s.heap.objs.size x y → h'.objs.size = s.heap.objs.size + 1 →
      (∀ c o, c ≠ z → c ≠ TO → c ≠ i1 → c ≠ i2 → s.heap.get? c = some o → h'.get? c = some o) → Q (some (.ref s.heap.objs.size)) { s with heap := h' }) :
    wpAny (model prog w) A (pyNext (.ref z)) Q E s := by
  have hT : s.TypeIs (.ref z) "zip" := ⟨_, hz, rfl⟩
  unfold pyNext
  exact wpAny_bind (wpAny_attempt (wpAny_callSpecial?_slot (name := Str.ofString "__next__") hT F.slot_zip_next
    (wpAny_call_entry F.slot_zip_next hT F.entry_zip_next
      (zipS_next_item D hz hTI hTO h1 h2 hl1 hl2 hx hy fun h' a1 a2 a3 a4 a5 a6 a7 => wpAny_pure (hQ h' a1 a2 a3 a4 a5 a6 a7)) (F.args_zip_next_1 _))))
theorem wpAny_pyNext_zipS_end {z TI TO i1 i2 l1 l2 : Addr} {k1 k2 : Nat} {xs ys : Array Value} {a b : Value} {Q : Option Value → Shared → Prop} (hh : A.handled = none) (D : ZipApart z TI TO i1 i2 l1 l2)
    (hz : IsZipS s.heap z TI TO .none) (hTI : IsPair s.heap TI (.ref i1) (.ref i2)) (hTO : IsPair s.heap TO a b)
    (h1 : s.heap.IsListIter i1 l1 k1) (h2 : s.heap.IsListIter i2 l2 k2) (hl1 : s.heap.IsList l1 xs) (hl2 : s.heap.IsList l2 ys) (hx : xs[k1]? = none) (hy : ys[k2]? = none)
    (hQ : ∀ h', (∀ c o, c ≠ z → c ≠ TO → c ≠ i1 → c ≠ i2 → s.heap.get? c = some o → h'.get? c = some o) → Q none { s with heap := h' }) : wpAny (model prog w) A (pyNext (.ref z)) Q E s := by
  have hT : s.TypeIs (.ref z) "zip" := ⟨_, hz, rfl⟩
  unfold pyNext
  refine wpAny_bind (wpAny_attempt (wpAny_callSpecial?_slot (name := Str.ofString "__next__") hT F.slot_zip_next
    (wpAny_call_entry F.slot_zip_next hT F.entry_zip_next (zipS_next_end hh D hz hTI hTO h1 h2 hl1 hl2 hx hy fun h' e hk he => ?_) (F.args_zip_next_1 _))))
  obtain ⟨o, ho, hc⟩ := he
  refine wpAny_bind (wpAny_isInstance (T := "StopIteration") (b := true) ⟨o, ho, hc⟩ isSubtype_stop ?_)
  exact wpAny_pure (hQ _ hk)
theorem wpAny_letOwnedTupleGo_zipS {elts : List Expr} {x1 : Nat} {pos : Pos} {z TI TO T : Addr} {Q : Unit → Shared → Prop} (hz : IsZipS s.heap z TI TO (rawInt T))
    (hQ : ∀ h', IsZipS h' z TI TO .none → Heap.SameBut z s.heap h' → Q () { s with heap := h' }) :
    wpAny (model prog w) A (letOwnedTupleGo (.Tuple elts x1 pos) (.ref z) (.ref T)) Q E s := by
  unfold letOwnedTupleGo
  refine wpAny_bind (wpAny_load hz ?_)
  show wpAny _ _ (if (["enumerate", "zip", "dict_itemiterator", "dict_reverseitemiterator", "odict_iterator", "itertools.zip_longest", "itertools.pairwise"].contains "zip" &&
      (#[rawInt T, .bool false, .bool true, .ref TI, .ref TO] : Array Value)[0]? == some (rawInt T)) = true then _ else _) Q E s
  rw [if_pos (by simp)]
  refine wpAny_bind (wpAny_rule ?_)
  show wpAny _ _ (setField (.ref z) 0 .none) Q E s
  exact wpAny_setField_rec hz (by simp) fun h' hz' hs' => hQ h' hz' hs'
theorem wpAny_pyIter_zipS {z TI TO : Addr} {f0 : Value} {Q : Value → Shared → Prop} (hz : IsZipS s.heap z TI TO f0) (h : Q (.ref z) s) : wpAny (model prog w) A (pyIter (.ref z)) Q E s := by
  have hT : s.TypeIs (.ref z) "zip" := ⟨_, hz, rfl⟩
  refine wpAny_pyIter_slot hT F.slot_zip_iter (wpAny_call_entry F.slot_zip_iter hT F.entry_zip_iter ?_ (F.args_zip_iter_1 _))
  show wpAny _ _ (ret (.ref z)) _ _ s
  exact wpAny_pure ⟨_, rfl, "zip", _, hT, F.slot_zip_next.lookup, h⟩
end
/-! ### its making -/
theorem typeCall_zipS (a b v : Value) : checkTypeCall "zip" ⟨[a, b], [(Str.ofString "strict", v)]⟩ = pure () := by kernel_rfl
theorem newCall_zipS (a b v : Value) : checkBuiltinCall "zip.__new__" ⟨[.type "zip", a, b], [(Str.ofString "strict", v)]⟩ = pure () := by kernel_rfl
theorem args_initS (o a b v : Value) : argsOk "object.__init__" ⟨[o, a, b], [(Str.ofString "strict", v)]⟩ := by unfold argsOk; kernel_rfl
abbrev zipHS (h : Heap) (l1 l2 : Addr) : Heap := (zipH4 h l1 l2).push { cls := .type "zip", data := .fields #[.none, .bool false, .bool true, .ref (zipH2 h l1 l2).objs.size, .ref (zipH3 h l1 l2).objs.size] }
theorem meets_zip_newS (l1 l2 : Addr) (xs ys : Array Value) :
    Meets (Builtin.«zip.__new__» ⟨[.type "zip", .ref l1, .ref l2], [(Str.ofString "strict", .bool true)]⟩) (fun _ R s => s.heap.IsList l1 xs ∧ s.heap.IsList l2 ys ∧
      R (.ok (.ret (.ref (zipH4 s.heap l1 l2).objs.size))) { s with heap := zipHS s.heap l1 l2 }) :=
  .of_wp fun prog w A R s h => by
    obtain ⟨hp, g, d, tk, os⟩ := s; obtain ⟨hl1, hl2, h⟩ := h
    have hsub := sub_zip
    have hL1 : Heap.IsList (Shared.heap ⟨hp, g, d, tk, os⟩) l1 xs := hl1
    have hL2 : Heap.IsList (Shared.heap ⟨hp.push { cls := .type "list_iterator", data := .fields #[.ref l1, .int 0 0] }, g, d, tk, os⟩) l2 ys := Heap.IsList.push hl2 _
    have e2 : (Str.ofString "strict" != ("strict" : Str)) = false := by decide +kernel
    wp_walk using wpAny_pyIter_list hL1, wpAny_pyIter_list hL2
    exact ⟨_, rfl, h⟩
end DZ

/-! ## DZipB -/
set_option Elab.async false
set_option autoImplicit false
set_option linter.all false
set_option maxRecDepth 100000
set_option maxHeartbeats 4000000
/-! DZipB: zip of three lists. -/
namespace DZ
open PySem PySem.Spec PyProof.Rows
open Sem (wp)
abbrev IsTri (h : Heap) (T : Addr) (a b c : Value) : Prop := h.get? T = some { cls := .type "tuple", data := .seq #[a, b, c] }
structure Ap3 (z TI TO i1 i2 i3 l1 l2 l3 : Addr) : Prop where
  TIz : TI ≠ z
  TOz : TO ≠ z
  i1z : i1 ≠ z
  i2z : i2 ≠ z
  i3z : i3 ≠ z
  TITO : TI ≠ TO
  TIi1 : TI ≠ i1
  TIi2 : TI ≠ i2
  TIi3 : TI ≠ i3
  TOi1 : TO ≠ i1
  TOi2 : TO ≠ i2
  TOi3 : TO ≠ i3
  i12 : i1 ≠ i2
  i13 : i1 ≠ i3
  i23 : i2 ≠ i3
  l1z : l1 ≠ z
  l1TO : l1 ≠ TO
  l1i1 : l1 ≠ i1
  l1i2 : l1 ≠ i2
  l1i3 : l1 ≠ i3
  l2z : l2 ≠ z
  l2TO : l2 ≠ TO
  l2i1 : l2 ≠ i1
  l2i2 : l2 ≠ i2
  l2i3 : l2 ≠ i3
  l3z : l3 ≠ z
  l3TO : l3 ≠ TO
  l3i1 : l3 ≠ i1
  l3i2 : l3 ≠ i2
  l3i3 : l3 ≠ i3
section
variable {prog : Program} {w : World} {A : Around} {E : Value → Shared → Prop} {s : Shared}
theorem updateSeq_tri {T : Addr} {a b c x : Value} {k : Nat} {Q : Unit → Shared → Prop} (hT : IsTri s.heap T a b c)
    (h : ∀ h', h'.get? T = some { cls := .type "tuple", data := .seq ((#[a, b, c] : Array Value).setIfInBounds k x) } → Heap.SameBut T s.heap h' → Q () { s with heap := h' }) :
    wpAny (model prog w) A (updateSeq T (·.setIfInBounds k x)) Q E s := by
  refine wpAny_updateSeq hT rfl (h _ ?_ (Heap.SameBut.update ..))
  rw [Heap.get?_update_self _ hT rfl]
  simp [Obj.mapSeq]
theorem zip3_next_item {z TI TO i1 i2 i3 l1 l2 l3 : Addr} {k : Nat} {xs ys vs : Array Value} {x y v a b d : Value} {Q : Value → Shared → Prop} (D : Ap3 z TI TO i1 i2 i3 l1 l2 l3)
    (hz : IsZip s.heap z TI TO .none) (hTI : IsTri s.heap TI (.ref i1) (.ref i2) (.ref i3)) (hTO : IsTri s.heap TO a b d)
    (h1 : s.heap.IsListIter i1 l1 k) (h2 : s.heap.IsListIter i2 l2 k) (h3 : s.heap.IsListIter i3 l3 k) (hl1 : s.heap.IsList l1 xs) (hl2 : s.heap.IsList l2 ys) (hl3 : s.heap.IsList l3 vs) (hx : xs[k]? = some x) (hy : ys[k]? = some y) (hv : vs[k]? = some v)
    (hQ : ∀ h', IsZip h' z TI TO (rawInt s.heap.objs.size) → IsTri h' TO x y v → h'.IsListIter i1 l1 (k + 1) → h'.IsListIter i2 l2 (k + 1) → h'.IsListIter i3 l3 (k + 1) → IsTri h' s.heap.objs.size x y v → h'.objs.size = s.heap.objs.size + 1 →
      (∀ c o, c ≠ z → c ≠ TO → c ≠ i1 → c ≠ i2 → c ≠ i3 → s.heap.get? c = some o → h'.get? c = some o) → Q (.ref s.heap.objs.size) { s with heap := h' }) :
    wpAny (model prog w) A (Builtin.«zip.__next__» ⟨[.ref z], []⟩) (fun fin s' => ∃ v, fin = .done (.ret v) ∧ Q v s') E s := by
  show wpAny _ _ (field (.ref z) 2 >>= _) _ _ _
  refine wpAny_bind (wpAny_field hz rfl (x := .bool false) rfl ?_)
  show wpAny _ _ (field (.ref z) 3 >>= _) _ _ _
  refine wpAny_bind (wpAny_field hz rfl (x := .ref TI) rfl ?_)
  refine wpAny_bind (wpAny_seqItems hTI rfl ?_)
  show wpAny _ _ (Builtin.SmallTypes.ownedTupleIsFree (.ref z) >>= _) _ _ _
  refine wpAny_bind ?_
  unfold Builtin.SmallTypes.ownedTupleIsFree
  refine wpAny_bind (wpAny_field hz rfl (x := .none) rfl (wpAny_pure ?_))
  simp only [if_true]
  refine wpAny_bind (wpAny_rule ?_)
  refine wpAny_bind (wpAny_field hz rfl (x := .ref TO) rfl ?_)
  refine wpAny_bind (wpAny_setField_rec hz (by simp) fun h₁ hz₁ hs₁ => ?_)
  replace hz₁ : IsZip h₁ z TI TO .ellipsis := hz₁
  refine wpAny_bind ?_
  simp only [List.zipIdx_cons, List.zipIdx_nil, List.forIn_cons, List.forIn_nil]
  refine wpAny_bind (wpAny_bind (wpAny_onRaise ?_))
  show wpAny _ _ (Builtin.SmallTypes.nextOf (.ref i1) >>= _) _ _ _
  refine wpAny_bind (wpAny_nextOf_list_item (h1.extBut hs₁.extBut D.i1z) (hl1.extBut hs₁.extBut D.l1z) hx fun h₂ h1₂ hs₂ => wpAny_pure ?_)
  have hTO₂ : IsTri h₂ TO a b d := hs₂.extBut _ _ D.TOi1 (hs₁.extBut _ _ D.TOz hTO)
  refine wpAny_bind (wpAny_seqItems hTO₂ rfl ?_)
  refine wpAny_bind (updateSeq_tri hTO₂ fun h₃ hTO₃ hs₃ => ?_)
  replace hTO₃ : IsTri h₃ TO x b d := hTO₃
  refine wpAny_bind (wpAny_letGo (wpAny_pure ?_))
  refine wpAny_bind (wpAny_bind (wpAny_onRaise ?_))
  show wpAny _ _ (Builtin.SmallTypes.nextOf (.ref i2) >>= _) _ _ _
  refine wpAny_bind (wpAny_nextOf_list_item (((h2.extBut hs₁.extBut D.i2z).extBut hs₂.extBut D.i12.symm).extBut hs₃.extBut D.TOi2.symm)
    (((hl2.extBut hs₁.extBut D.l2z).extBut hs₂.extBut D.l2i1).extBut hs₃.extBut D.l2TO) hy fun h₄ h2₄ hs₄ => wpAny_pure ?_)
  have hTO₄ : IsTri h₄ TO x b d := hs₄.extBut _ _ D.TOi2 hTO₃
  refine wpAny_bind (wpAny_seqItems hTO₄ rfl ?_)
  refine wpAny_bind (updateSeq_tri hTO₄ fun h₅ hTO₅ hs₅ => ?_)
  replace hTO₅ : IsTri h₅ TO x y d := hTO₅
  refine wpAny_bind (wpAny_letGo (wpAny_pure ?_))
  refine wpAny_bind (wpAny_bind (wpAny_onRaise ?_))
  show wpAny _ _ (Builtin.SmallTypes.nextOf (.ref i3) >>= _) _ _ _
  refine wpAny_bind (wpAny_nextOf_list_item (((((h3.extBut hs₁.extBut D.i3z).extBut hs₂.extBut D.i13.symm).extBut hs₃.extBut D.TOi3.symm).extBut hs₄.extBut D.i23.symm).extBut hs₅.extBut D.TOi3.symm)
    (((((hl3.extBut hs₁.extBut D.l3z).extBut hs₂.extBut D.l3i1).extBut hs₃.extBut D.l3TO).extBut hs₄.extBut D.l3i2).extBut hs₅.extBut D.l3TO) hv fun h₆ h3₆ hs₆ => wpAny_pure ?_)
  have hTO₆ : IsTri h₆ TO x y d := hs₆.extBut _ _ D.TOi3 hTO₅
  refine wpAny_bind (wpAny_seqItems hTO₆ rfl ?_)
  refine wpAny_bind (updateSeq_tri hTO₆ fun h₇ hTO₇ hs₇ => ?_)
  replace hTO₇ : IsTri h₇ TO x y v := hTO₇
  refine wpAny_bind (wpAny_letGo (wpAny_pure (wpAny_pure ?_)))
  refine wpAny_bind (wpAny_seqItems hTO₇ rfl ?_)
  refine wpAny_bind (wpAny_newTuple ?_)
  have hsz : h₇.objs.size = s.heap.objs.size := by rw [hs₇.1, hs₆.1, hs₅.1, hs₄.1, hs₃.1, hs₂.1, hs₁.1]
  have hk₇ : ∀ c o, c ≠ z → c ≠ TO → c ≠ i1 → c ≠ i2 → c ≠ i3 → s.heap.get? c = some o → h₇.get? c = some o := fun c o c1 c2 c3 c4 c5 e =>
    hs₇.extBut _ _ c2 (hs₆.extBut _ _ c5 (hs₅.extBut _ _ c2 (hs₄.extBut _ _ c4 (hs₃.extBut _ _ c2 (hs₂.extBut _ _ c3 (hs₁.extBut _ _ c1 e))))))
  have hz₇ : IsZip h₇ z TI TO .ellipsis := hs₇.extBut _ _ D.TOz.symm (hs₆.extBut _ _ D.i3z.symm (hs₅.extBut _ _ D.TOz.symm (hs₄.extBut _ _ D.i2z.symm (hs₃.extBut _ _ D.TOz.symm (hs₂.extBut _ _ D.i1z.symm hz₁)))))
  have h1₇ : h₇.IsListIter i1 l1 (k + 1) := ((((h1₂.extBut hs₃.extBut D.TOi1.symm).extBut hs₄.extBut D.i12).extBut hs₅.extBut D.TOi1.symm).extBut hs₆.extBut D.i13).extBut hs₇.extBut D.TOi1.symm
  have h2₇ : h₇.IsListIter i2 l2 (k + 1) := ((h2₄.extBut hs₅.extBut D.TOi2.symm).extBut hs₆.extBut D.i23).extBut hs₇.extBut D.TOi2.symm
  have h3₇ : h₇.IsListIter i3 l3 (k + 1) := h3₆.extBut hs₇.extBut D.TOi3.symm
  have hzlt : z < h₇.objs.size := Heap.lt_size hz₇
  show wpAny _ _ (Builtin.SmallTypes.ownedTupleHandOut (.ref z) (.ref h₇.objs.size) >>= _) _ _ _
  refine wpAny_bind ?_
  unfold Builtin.SmallTypes.ownedTupleHandOut
  have hz₈ : IsZip (h₇.push { cls := .type "tuple", data := .seq #[x, y, v] }) z TI TO .ellipsis := Heap.get?_push_of_some _ hz₇
  refine wpAny_bind (wpAny_setField_rec hz₈ (by simp) fun h₉ hz₉ hs₉ => ?_)
  replace hz₉ : IsZip h₉ z TI TO (rawInt h₇.objs.size) := hz₉
  refine wpAny_setField_rec hz₉ (by simp) fun hA hzA hsA => ?_
  replace hzA : IsZip hA z TI TO (rawInt h₇.objs.size) := hzA
  have up : ∀ c o, c ≠ z → h₇.get? c = some o → hA.get? c = some o := fun c o c1 e => hsA.extBut _ _ c1 (hs₉.extBut _ _ c1 (Heap.get?_push_of_some _ e))
  have hTA : IsTri hA h₇.objs.size x y v := hsA.extBut _ _ (Nat.ne_of_gt hzlt) (hs₉.extBut _ _ (Nat.ne_of_gt hzlt) (Heap.get?_push_size _ rfl))
  have hzs : hA.objs.size = h₇.objs.size + 1 := by rw [hsA.1, hs₉.1, Heap.size_push]
  rw [hsz] at hzA hTA hzs
  refine wpAny_pure ⟨_, rfl, ?_⟩
  show Q (.ref h₇.objs.size) _
  rw [hsz]
  exact hQ hA hzA (up _ _ D.TOz hTO₇) (h1₇.at fun o e => up _ o D.i1z e) (h2₇.at fun o e => up _ o D.i2z e) (h3₇.at fun o e => up _ o D.i3z e) hTA hzs fun c o c1 c2 c3 c4 c5 e => up c o c1 (hk₇ c o c1 c2 c3 c4 c5 e)

theorem zip3_next_end {z TI TO i1 i2 i3 l1 l2 l3 : Addr} {k : Nat} {xs ys vs : Array Value} {a b d : Value} {Q : Fin → Shared → Prop} (hh : A.handled = none) (D : Ap3 z TI TO i1 i2 i3 l1 l2 l3)
    (hz : IsZip s.heap z TI TO .none) (hTI : IsTri s.heap TI (.ref i1) (.ref i2) (.ref i3)) (hTO : IsTri s.heap TO a b d)
    (h1 : s.heap.IsListIter i1 l1 k) (h2 : s.heap.IsListIter i2 l2 k) (h3 : s.heap.IsListIter i3 l3 k) (hl1 : s.heap.IsList l1 xs) (hl2 : s.heap.IsList l2 ys) (hl3 : s.heap.IsList l3 vs) (hend : xs[k]? = none ∨ ys[k]? = none ∨ vs[k]? = none)
    (hE : ∀ h' e, (∀ c o, c ≠ z → c ≠ TO → c ≠ i1 → c ≠ i2 → c ≠ i3 → s.heap.get? c = some o → h'.get? c = some o) → (∃ o, h'.get? e = some o ∧ o.cls = .type "StopIteration") → E (.ref e) { s with heap := h' }) :
    wpAny (model prog w) A (Builtin.«zip.__next__» ⟨[.ref z], []⟩) Q E s := by
  show wpAny _ _ (field (.ref z) 2 >>= _) _ _ _
  refine wpAny_bind (wpAny_field hz rfl (x := .bool false) rfl ?_)
  show wpAny _ _ (field (.ref z) 3 >>= _) _ _ _
  refine wpAny_bind (wpAny_field hz rfl (x := .ref TI) rfl ?_)
  refine wpAny_bind (wpAny_seqItems hTI rfl ?_)
  show wpAny _ _ (Builtin.SmallTypes.ownedTupleIsFree (.ref z) >>= _) _ _ _
  refine wpAny_bind ?_
  unfold Builtin.SmallTypes.ownedTupleIsFree
  refine wpAny_bind (wpAny_field hz rfl (x := .none) rfl (wpAny_pure ?_))
  simp only [if_true]
  refine wpAny_bind (wpAny_rule ?_)
  refine wpAny_bind (wpAny_field hz rfl (x := .ref TO) rfl ?_)
  refine wpAny_bind (wpAny_setField_rec hz (by simp) fun h₁ hz₁ hs₁ => ?_)
  replace hz₁ : IsZip h₁ z TI TO .ellipsis := hz₁
  refine wpAny_bind ?_
  simp only [List.zipIdx_cons, List.zipIdx_nil, List.forIn_cons, List.forIn_nil]
  refine wpAny_bind (wpAny_bind (wpAny_onRaise ?_))
  show wpAny _ _ (Builtin.SmallTypes.nextOf (.ref i1) >>= _) _ _ _
  cases hx : xs[k]? with
  | none =>
    refine wpAny_bind (wpAny_nextOf_list_end hh (h1.extBut hs₁.extBut D.i1z) (hl1.extBut hs₁.extBut D.l1z) hx fun h₂ e hs₂ he => ?_)
    obtain ⟨oe, hoe, hce⟩ := he
    have hz₂ : IsZip h₂ z TI TO .ellipsis := hs₂ _ _ D.i1z.symm hz₁
    have hez : e ≠ z := fun x => by subst x; rw [hz₂] at hoe; cases hoe; simp at hce
    refine wpAny_setField_rec hz₂ (by simp) fun h₃ _ hs₃ => hE h₃ e (fun c o c1 _ c3 _ _ x => hs₃.extBut _ _ c1 (hs₂ _ _ c3 (hs₁.extBut _ _ c1 x))) ⟨oe, hs₃.extBut _ _ hez hoe, hce⟩
  | some x =>
    refine wpAny_bind (wpAny_nextOf_list_item (h1.extBut hs₁.extBut D.i1z) (hl1.extBut hs₁.extBut D.l1z) hx fun h₂ h1₂ hs₂ => wpAny_pure ?_)
    have hTO₂ : IsTri h₂ TO a b d := hs₂.extBut _ _ D.TOi1 (hs₁.extBut _ _ D.TOz hTO)
    refine wpAny_bind (wpAny_seqItems hTO₂ rfl ?_)
    refine wpAny_bind (updateSeq_tri hTO₂ fun h₃ hTO₃ hs₃ => ?_)
    replace hTO₃ : IsTri h₃ TO x b d := hTO₃
    refine wpAny_bind (wpAny_letGo (wpAny_pure ?_))
    refine wpAny_bind (wpAny_bind (wpAny_onRaise ?_))
    show wpAny _ _ (Builtin.SmallTypes.nextOf (.ref i2) >>= _) _ _ _
    have h2₃ := ((h2.extBut hs₁.extBut D.i2z).extBut hs₂.extBut D.i12.symm).extBut hs₃.extBut D.TOi2.symm
    have hl2₃ := ((hl2.extBut hs₁.extBut D.l2z).extBut hs₂.extBut D.l2i1).extBut hs₃.extBut D.l2TO
    cases hy : ys[k]? with
    | none =>
      refine wpAny_bind (wpAny_nextOf_list_end hh h2₃ hl2₃ hy fun h₄ e hs₄ he => ?_)
      obtain ⟨oe, hoe, hce⟩ := he
      have hz₄ : IsZip h₄ z TI TO .ellipsis := hs₄ _ _ D.i2z.symm (hs₃.extBut _ _ D.TOz.symm (hs₂.extBut _ _ D.i1z.symm hz₁))
      have hez : e ≠ z := fun x => by subst x; rw [hz₄] at hoe; cases hoe; simp at hce
      refine wpAny_setField_rec hz₄ (by simp) fun h₅ _ hs₅ => hE h₅ e (fun c o c1 c2 c3 c4 _ x => hs₅.extBut _ _ c1 (hs₄ _ _ c4 (hs₃.extBut _ _ c2 (hs₂.extBut _ _ c3 (hs₁.extBut _ _ c1 x))))) ⟨oe, hs₅.extBut _ _ hez hoe, hce⟩
    | some y =>
      have hv : vs[k]? = none := by
        rcases hend with h | h | h
        · rw [hx] at h; cases h
        · rw [hy] at h; cases h
        · exact h
      refine wpAny_bind (wpAny_nextOf_list_item h2₃ hl2₃ hy fun h₄ h2₄ hs₄ => wpAny_pure ?_)
      have hTO₄ : IsTri h₄ TO x b d := hs₄.extBut _ _ D.TOi2 hTO₃
      refine wpAny_bind (wpAny_seqItems hTO₄ rfl ?_)
      refine wpAny_bind (updateSeq_tri hTO₄ fun h₅ hTO₅ hs₅ => ?_)
      refine wpAny_bind (wpAny_letGo (wpAny_pure ?_))
      refine wpAny_bind (wpAny_bind (wpAny_onRaise ?_))
      show wpAny _ _ (Builtin.SmallTypes.nextOf (.ref i3) >>= _) _ _ _
      refine wpAny_bind (wpAny_nextOf_list_end hh (((((h3.extBut hs₁.extBut D.i3z).extBut hs₂.extBut D.i13.symm).extBut hs₃.extBut D.TOi3.symm).extBut hs₄.extBut D.i23.symm).extBut hs₅.extBut D.TOi3.symm)
        (((((hl3.extBut hs₁.extBut D.l3z).extBut hs₂.extBut D.l3i1).extBut hs₃.extBut D.l3TO).extBut hs₄.extBut D.l3i2).extBut hs₅.extBut D.l3TO) hv fun h₆ e hs₆ he => ?_)
      obtain ⟨oe, hoe, hce⟩ := he
      have hz₆ : IsZip h₆ z TI TO .ellipsis := hs₆ _ _ D.i3z.symm (hs₅.extBut _ _ D.TOz.symm (hs₄.extBut _ _ D.i2z.symm (hs₃.extBut _ _ D.TOz.symm (hs₂.extBut _ _ D.i1z.symm hz₁))))
      have hez : e ≠ z := fun x => by subst x; rw [hz₆] at hoe; cases hoe; simp at hce
      refine wpAny_setField_rec hz₆ (by simp) fun h₇ _ hs₇ => hE h₇ e (fun c o c1 c2 c3 c4 c5 x => hs₇.extBut _ _ c1 (hs₆ _ _ c5 (hs₅.extBut _ _ c2 (hs₄.extBut _ _ c4 (hs₃.extBut _ _ c2 (hs₂.extBut _ _ c3 (hs₁.extBut _ _ c1 x))))))) ⟨oe, hs₇.extBut _ _ hez hoe, hce⟩
theorem wpAny_pyNext_zip3_item {z TI TO i1 i2 i3 l1 l2 l3 : Addr} {k : Nat} {xs ys vs : Array Value} {x y v a b d : Value} {Q : Option Value → Shared → Prop} (D : Ap3 z TI TO i1 i2 i3 l1 l2 l3)
    (hz : IsZip s.heap z TI TO .none) (hTI : IsTri s.heap TI (.ref i1) (.ref i2) (.ref i3)) (hTO : IsTri s.heap TO a b d)
    (h1 : s.heap.IsListIter i1 l1 k) (h2 : s.heap.IsListIter i2 l2 k) (h3 : s.heap.IsListIter i3 l3 k) (hl1 : s.heap.IsList l1 xs) (hl2 : s.heap.IsList l2 ys) (hl3 : s.heap.IsList l3 vs) (hx : xs[k]? = some x) (hy : ys[k]? = some y) (hv : vs[k]? = some v)
    (hQ : ∀ h', IsZip h' z TI TO (rawInt s.heap.objs.size) → IsTri h' TO x y v → h'.IsListIter i1 l1 (k + 1) → h'.IsListIter i2 l2 (k + 1) → h'.IsListIter i3 l3 (k + 1) → IsTri h' s.heap.objs.size x y v → h'.objs.size = s.heap.objs.size + 1 →
      (∀ c o, c ≠ z → c ≠ TO → c ≠ i1 → c ≠ i2 → c ≠ i3 → s.heap.get? c = some o → h'.get? c = some o) → Q (some (.ref s.heap.objs.size)) { s with heap := h' }) : wpAny (model prog w) A (pyNext (.ref z)) Q E s := by
  have hT : s.TypeIs (.ref z) "zip" := ⟨_, hz, rfl⟩
  unfold pyNext
  exact wpAny_bind (wpAny_attempt (wpAny_callSpecial?_slot (name := Str.ofString "__next__") hT F.slot_zip_next
    (wpAny_call_entry F.slot_zip_next hT F.entry_zip_next
      (zip3_next_item D hz hTI hTO h1 h2 h3 hl1 hl2 hl3 hx hy hv fun h' a1 a2 a3 a4 a5 a6 a7 a8 => wpAny_pure (hQ h' a1 a2 a3 a4 a5 a6 a7 a8)) (F.args_zip_next_1 _))))
theorem wpAny_pyNext_zip3_end {z TI TO i1 i2 i3 l1 l2 l3 : Addr} {k : Nat} {xs ys vs : Array Value} {a b d : Value} {Q : Option Value → Shared → Prop} (hh : A.handled = none) (D : Ap3 z TI TO i1 i2 i3 l1 l2 l3)
    (hz : IsZip s.heap z TI TO .none) (hTI : IsTri s.heap TI (.ref i1) (.ref i2) (.ref i3)) (hTO : IsTri s.heap TO a b d)
    (h1 : s.heap.IsListIter i1 l1 k) (h2 : s.heap.IsListIter i2 l2 k) (h3 : s.heap.IsListIter i3 l3 k) (hl1 : s.heap.IsList l1 xs) (hl2 : s.heap.IsList l2 ys) (hl3 : s.heap.IsList l3 vs) (hend : xs[k]? = none ∨ ys[k]? = none ∨ vs[k]? = none)
    (hQ : ∀ h', (∀ c o, c ≠ z → c ≠ TO → c ≠ i1 → c ≠ i2 → c ≠ i3 → s.heap.get? c = some o → h'.get? c = some o) → Q none { s with heap := h' }) : wpAny (model prog w) A (pyNext (.ref z)) Q E s := by
  have hT : s.TypeIs (.ref z) "zip" := ⟨_, hz, rfl⟩
  unfold pyNext
  refine wpAny_bind (wpAny_attempt (wpAny_callSpecial?_slot (name := Str.ofString "__next__") hT F.slot_zip_next
    (wpAny_call_entry F.slot_zip_next hT F.entry_zip_next (zip3_next_end hh D hz hTI hTO h1 h2 h3 hl1 hl2 hl3 hend fun h' e hk he => ?_) (F.args_zip_next_1 _))))
  obtain ⟨o, ho, hc⟩ := he
  refine wpAny_bind (wpAny_isInstance (T := "StopIteration") (b := true) ⟨o, ho, hc⟩ isSubtype_stop ?_)
  exact wpAny_pure (hQ _ hk)
end
/-! ### its making -/
theorem typeCall_zip3 (a b v : Value) : checkTypeCall "zip" ⟨[a, b, v], []⟩ = pure () := by kernel_rfl
theorem newCall_zip3 (a b v : Value) : checkBuiltinCall "zip.__new__" ⟨[.type "zip", a, b, v], []⟩ = pure () := by kernel_rfl
theorem args_init3 (o a b v : Value) : argsOk "object.__init__" ⟨[o, a, b, v], []⟩ := by
  unfold argsOk; rw [signature?_of (id := "object.__init__") (n := ['_', '_', 't', 'i', 'n', 'i', '_', '_']) (o := ['t', 'c', 'e', 'j', 'b', 'o']) (by kernel_rfl) F.owner_object]; kernel_rfl
abbrev z3a (h : Heap) (l1 : Addr) : Heap := h.push { cls := .type "list_iterator", data := .fields #[.ref l1, .int 0 0] }
abbrev z3b (h : Heap) (l1 l2 : Addr) : Heap := (z3a h l1).push { cls := .type "list_iterator", data := .fields #[.ref l2, .int 0 0] }
abbrev z3c (h : Heap) (l1 l2 l3 : Addr) : Heap := (z3b h l1 l2).push { cls := .type "list_iterator", data := .fields #[.ref l3, .int 0 0] }
abbrev z3d (h : Heap) (l1 l2 l3 : Addr) : Heap := (z3c h l1 l2 l3).push { cls := .type "tuple", data := .seq #[.ref h.objs.size, .ref (z3a h l1).objs.size, .ref (z3b h l1 l2).objs.size] }
abbrev z3e (h : Heap) (l1 l2 l3 : Addr) : Heap := (z3d h l1 l2 l3).push { cls := .type "tuple", data := .seq #[.none, .none, .none] }
abbrev z3f (h : Heap) (l1 l2 l3 : Addr) : Heap := (z3e h l1 l2 l3).push { cls := .type "zip", data := .fields #[.none, .bool false, .bool false, .ref (z3c h l1 l2 l3).objs.size, .ref (z3d h l1 l2 l3).objs.size] }
theorem meets_zip_new3 (l1 l2 l3 : Addr) (xs ys vs : Array Value) :
    Meets (Builtin.«zip.__new__» ⟨[.type "zip", .ref l1, .ref l2, .ref l3], []⟩) (fun _ R s => s.heap.IsList l1 xs ∧ s.heap.IsList l2 ys ∧ s.heap.IsList l3 vs ∧
      R (.ok (.ret (.ref (z3e s.heap l1 l2 l3).objs.size))) { s with heap := z3f s.heap l1 l2 l3 }) :=
  .of_wp fun prog w A R s h => by
    obtain ⟨hp, g, d, tk, os⟩ := s; obtain ⟨hl1, hl2, hl3, h⟩ := h
    have hsub := sub_zip
    have hL1 : Heap.IsList (Shared.heap ⟨hp, g, d, tk, os⟩) l1 xs := hl1
    have hL2 : Heap.IsList (Shared.heap ⟨hp.push { cls := .type "list_iterator", data := .fields #[.ref l1, .int 0 0] }, g, d, tk, os⟩) l2 ys := Heap.IsList.push hl2 _
    have hL3 : Heap.IsList (Shared.heap ⟨(hp.push { cls := .type "list_iterator", data := .fields #[.ref l1, .int 0 0] }).push { cls := .type "list_iterator", data := .fields #[.ref l2, .int 0 0] }, g, d, tk, os⟩) l3 vs := Heap.IsList.push (Heap.IsList.push hl3 _) _
    wp_walk using wpAny_pyIter_list hL1, wpAny_pyIter_list hL2, wpAny_pyIter_list hL3
    exact ⟨_, rfl, h⟩
end DZ

/-! ## DZip -/
set_option Elab.async false
set_option autoImplicit false
set_option linter.all false
set_option maxRecDepth 100000
set_option maxHeartbeats 4000000
/-! DZip: zip(.., strict=True) of two lists, zip of three lists, as sources. -/
namespace DL
open PySem PySem.Spec PyProof.Rows L2 DZ
section
variable {prog : Program} {w : World} {A : Around} {E : Value → Shared → Prop} {s : Shared}
theorem call_zipS {l1 l2 : Addr} {xs ys : Array Value} {Q : Value → Shared → Prop} (hl1 : s.heap.IsList l1 xs) (hl2 : s.heap.IsList l2 ys)
    (h : ∀ h', IsZipS h' (s.heap.objs.size + 4) (s.heap.objs.size + 2) (s.heap.objs.size + 3) .none → IsPair h' (s.heap.objs.size + 2) (.ref s.heap.objs.size) (.ref (s.heap.objs.size + 1)) →
      IsPair h' (s.heap.objs.size + 3) .none .none → h'.IsListIter s.heap.objs.size l1 0 → h'.IsListIter (s.heap.objs.size + 1) l2 0 → h'.objs.size = s.heap.objs.size + 5 →
      (∀ c o, s.heap.get? c = some o → h'.get? c = some o) → Q (.ref (s.heap.objs.size + 4)) { s with heap := h' }) :
    wpAny (model prog w) A (call (.type "zip") [.ref l1, .ref l2] [(Str.ofString "strict", .bool true)]) Q E s := by
  refine callType_newKw PySem.F.called_zip (by decide) (typeCall_zipS _ _ _) (newCall_zipS _ _ _) (fun obj => args_initS obj _ _ _) PySem.F.entry_zip_new
    (meets_zip_newS l1 l2 xs ys) ⟨hl1, hl2, ?_⟩
  have z1 : (zipH1 s.heap l1).objs.size = s.heap.objs.size + 1 := Heap.size_push ..
  have z2 : (zipH2 s.heap l1 l2).objs.size = s.heap.objs.size + 2 := by rw [Heap.size_push, z1]
  have z3 : (zipH3 s.heap l1 l2).objs.size = s.heap.objs.size + 3 := by rw [Heap.size_push, z2]
  have z4 : (zipH4 s.heap l1 l2).objs.size = s.heap.objs.size + 4 := by rw [Heap.size_push, z3]
  have z5 : (zipHS s.heap l1 l2).objs.size = s.heap.objs.size + 5 := by rw [Heap.size_push, z4]
  have g5 : (zipHS s.heap l1 l2).get? (zipH4 s.heap l1 l2).objs.size = some _ := Heap.get?_push_size _ rfl
  have g4 : (zipHS s.heap l1 l2).get? (zipH3 s.heap l1 l2).objs.size = some _ := Heap.get?_push_of_some _ (Heap.get?_push_size _ rfl)
  have g3 : (zipHS s.heap l1 l2).get? (zipH2 s.heap l1 l2).objs.size = some _ := Heap.get?_push_of_some _ (Heap.get?_push_of_some _ (Heap.get?_push_size _ rfl))
  have g2 : (zipHS s.heap l1 l2).get? (zipH1 s.heap l1).objs.size = some _ := Heap.get?_push_of_some _ (Heap.get?_push_of_some _ (Heap.get?_push_of_some _ (Heap.get?_push_size _ rfl)))
  have g1 : (zipHS s.heap l1 l2).get? s.heap.objs.size = some _ := Heap.get?_push_of_some _ (Heap.get?_push_of_some _ (Heap.get?_push_of_some _ (Heap.get?_push_of_some _ (Heap.get?_push_size _ rfl))))
  show _ ∧ _
  rw [z2, z3, z4] at g5
  rw [z1, z2] at g3
  rw [z3] at g4
  rw [z1] at g2
  rw [z4]
  exact ⟨⟨_, g5, rfl⟩, h _ g5 g3 g4 ⟨_, g1, rfl, rfl⟩ ⟨_, g2, rfl, rfl⟩ z5 fun c o x =>
    Heap.get?_push_of_some _ (Heap.get?_push_of_some _ (Heap.get?_push_of_some _ (Heap.get?_push_of_some _ (Heap.get?_push_of_some _ x))))⟩
theorem call_zip3 {l1 l2 l3 : Addr} {xs ys vs : Array Value} {Q : Value → Shared → Prop} (hl1 : s.heap.IsList l1 xs) (hl2 : s.heap.IsList l2 ys) (hl3 : s.heap.IsList l3 vs)
    (h : ∀ h', IsZip h' (s.heap.objs.size + 5) (s.heap.objs.size + 3) (s.heap.objs.size + 4) .none → IsTri h' (s.heap.objs.size + 3) (.ref s.heap.objs.size) (.ref (s.heap.objs.size + 1)) (.ref (s.heap.objs.size + 2)) →
      IsTri h' (s.heap.objs.size + 4) .none .none .none → h'.IsListIter s.heap.objs.size l1 0 → h'.IsListIter (s.heap.objs.size + 1) l2 0 → h'.IsListIter (s.heap.objs.size + 2) l3 0 → h'.objs.size = s.heap.objs.size + 6 →
      (∀ c o, s.heap.get? c = some o → h'.get? c = some o) → Q (.ref (s.heap.objs.size + 5)) { s with heap := h' }) :
    wpAny (model prog w) A (call (.type "zip") [.ref l1, .ref l2, .ref l3]) Q E s := by
  refine callType_new PySem.F.called_zip (by decide) (typeCall_zip3 _ _ _) (newCall_zip3 _ _ _) (fun obj => args_init3 obj _ _ _) PySem.F.entry_zip_new
    (meets_zip_new3 l1 l2 l3 xs ys vs) ⟨hl1, hl2, hl3, ?_⟩
  have z1 : (z3a s.heap l1).objs.size = s.heap.objs.size + 1 := Heap.size_push ..
  have z2 : (z3b s.heap l1 l2).objs.size = s.heap.objs.size + 2 := by rw [Heap.size_push, z1]
  have z3 : (z3c s.heap l1 l2 l3).objs.size = s.heap.objs.size + 3 := by rw [Heap.size_push, z2]
  have z4 : (z3d s.heap l1 l2 l3).objs.size = s.heap.objs.size + 4 := by rw [Heap.size_push, z3]
  have z5 : (z3e s.heap l1 l2 l3).objs.size = s.heap.objs.size + 5 := by rw [Heap.size_push, z4]
  have z6 : (z3f s.heap l1 l2 l3).objs.size = s.heap.objs.size + 6 := by rw [Heap.size_push, z5]
  have g6 : (z3f s.heap l1 l2 l3).get? (z3e s.heap l1 l2 l3).objs.size = some _ := Heap.get?_push_size _ rfl
  have g5 : (z3f s.heap l1 l2 l3).get? (z3d s.heap l1 l2 l3).objs.size = some _ := Heap.get?_push_of_some _ (Heap.get?_push_size _ rfl)
  have g4 : (z3f s.heap l1 l2 l3).get? (z3c s.heap l1 l2 l3).objs.size = some _ := Heap.get?_push_of_some _ (Heap.get?_push_of_some _ (Heap.get?_push_size _ rfl))
  have g3 : (z3f s.heap l1 l2 l3).get? (z3b s.heap l1 l2).objs.size = some _ := Heap.get?_push_of_some _ (Heap.get?_push_of_some _ (Heap.get?_push_of_some _ (Heap.get?_push_size _ rfl)))
  have g2 : (z3f s.heap l1 l2 l3).get? (z3a s.heap l1).objs.size = some _ := Heap.get?_push_of_some _ (Heap.get?_push_of_some _ (Heap.get?_push_of_some _ (Heap.get?_push_of_some _ (Heap.get?_push_size _ rfl))))
  have g1 : (z3f s.heap l1 l2 l3).get? s.heap.objs.size = some _ := Heap.get?_push_of_some _ (Heap.get?_push_of_some _ (Heap.get?_push_of_some _ (Heap.get?_push_of_some _ (Heap.get?_push_of_some _ (Heap.get?_push_size _ rfl)))))
  show _ ∧ _
  rw [z5, z3, z4] at g6
  rw [z4] at g5
  rw [z3, z1, z2] at g4
  rw [z2] at g3
  rw [z1] at g2
  rw [z5]
  exact ⟨⟨_, g6, rfl⟩, h _ g6 g4 g5 ⟨_, g1, rfl, rfl⟩ ⟨_, g2, rfl, rfl⟩ ⟨_, g3, rfl, rfl⟩ z6 fun c o x =>
    Heap.get?_push_of_some _ (Heap.get?_push_of_some _ (Heap.get?_push_of_some _ (Heap.get?_push_of_some _ (Heap.get?_push_of_some _ (Heap.get?_push_of_some _ x)))))⟩
theorem callWith_typeK {env : Env} {pos : Pos} {T : String} {e : Expr} {rest : List Expr} {kws : List Keyword} {Q : Value → Shared → Prop} {M : Model} (hall : (backToKw pos (keywordEach kws env)).all (·.1.isSome) = true)
    (h : wpAny M A (spliced (backTo pos (starEach (e :: rest) env))) (fun vs s₁ => wpAny M A (evalAll ((backToKw pos (keywordEach kws env)).map (·.2)))
      (fun ks s₂ => wpAny M A (call (.type T) vs (((backToKw pos (keywordEach kws env)).filterMap (·.1)).zip ks)) Q E s₂) E s₁) E s)
    (hplain : ((backTo pos (starEach (e :: rest) env)).any (·.1) || (backToKw pos (keywordEach kws env)).any (·.1.isNone)) = false) (he : starEach (e :: rest) env = (false, eval e env) :: starEach rest env) :
    wpAny M A (callWith pos (.type T) [] (backTo pos (starEach (e :: rest) env)) (backToKw pos (keywordEach kws env))) Q E s := by
  unfold callWith
  refine wpAny_bind (wpAny_holding (wpAny_mono (PyProof.Rows.evalArgs_kw2 (f := .type T) (Q := fun a s₂ => wpAny M A (call (.type T) a.pos a.kw) Q E s₂) hall h he) (fun a s₁ h₁ => wpAny_bind (wpAny_standAt ?_)) fun _ _ x => x))
  simp only [hplain]
  refine wpAny_bind (wpAny_pure ?_)
  exact wpAny_bind (wpAny_mono h₁ (fun r s₂ hr => wpAny_bind (wpAny_holding (wpAny_point (wpAny_pure hr)))) fun _ _ x => x)
end

/-! ### the walks -/
/-- as for zip; both end at once -/
def ItzS (K : PySem.W.Frag) (a b : Addr) : It :=
  ⟨fun i H => ∃ (xs ys : List V) (x y : V), SqL K H a xs ∧ SqL K H b ys ∧ xs[i]? = some x ∧ ys[i]? = some y,
    fun i H v H' => ∃ T x y, v = .ref T ∧ H T = none ∧ H' = upd H T (.tup [x, y]) ∧ (∀ xs, SqL K H a xs → xs[i]? = some x) ∧ ∀ ys, SqL K H b ys → ys[i]? = some y,
    fun i H => ∃ xs ys : List V, SqL K H a xs ∧ SqL K H b ys ∧ xs.length ≤ i ∧ ys.length ≤ i⟩
theorem turn_zipS {P : Program} {w : World} {K : PySem.W.Frag} {elts : List Expr} {kk : Nat} {tpos : Pos} {a b z TI TO i1 i2 : Addr} (D : ZipApart z TI TO i1 i2 a b) :
    Turn P w K (.Tuple elts kk tpos) (ItzS K a b) [z, TI, TO, i1, i2] z (fun i h => IsZipS h z TI TO .none ∧ IsPair h TI (.ref i1) (.ref i2) ∧ (∃ x y, IsPair h TO x y) ∧ h.IsListIter i1 a i ∧ h.IsListIter i2 b i) where
  mem := by simp
  obj := fun i h st c hc => by
    obtain ⟨hz, hTI, ⟨x, y, hTO⟩, ⟨o1, e1, _, d1⟩, ⟨o2, e2, _, d2⟩⟩ := st
    have e' : c = z ∨ c = TI ∨ c = TO ∨ c = i1 ∨ c = i2 := by simpa using hc
    rcases e' with q | q | q | q | q
    · rw [q]; exact ⟨_, hz, fun v q => nomatch q⟩
    · rw [q]; exact ⟨_, hTI, fun v q => nomatch q⟩
    · rw [q]; exact ⟨_, hTO, fun v q => nomatch q⟩
    · rw [q]; exact ⟨o1, e1, fun v q => by rw [d1] at q; cases q⟩
    · rw [q]; exact ⟨o2, e2, fun v q => by rw [d2] at q; cases q⟩
  keep := fun i h h' st k => by
    obtain ⟨hz, hTI, ⟨x, y, hTO⟩, h1, h2⟩ := st
    exact ⟨k z (by simp) _ hz, k TI (by simp) _ hTI, ⟨x, y, k TO (by simp) _ hTO⟩, h1.at fun o q => k i1 (by simp) o q, h2.at fun o q => k i2 (by simp) o q⟩
  item := by
    intro X hP hw hK hc i pins s σ H E I hf st hg
    subst hP hw hK
    obtain ⟨hz, hTI, ⟨x0, y0, hTO⟩, h1, h2⟩ := st
    obtain ⟨xs, ys, x, y, hqx, hqy, hx, hy⟩ := hg
    obtain ⟨its, rv, p, _⟩ := I.list hqx
    obtain ⟨its2, rv2, p2, _⟩ := I.list hqy
    obtain ⟨u, hu, ru⟩ := rv.get hx
    obtain ⟨u2, hu2, ru2⟩ := rv2.get hy
    have hzl : z < s.heap.objs.size := Heap.lt_size hz
    refine wpAny_pyNext_zipS_item D hz hTI hTO h1 h2 p.isList p2.isList (x := u) (y := u2) (by simpa using hu) (by simpa using hu2) fun h' z' TO' h1' h2' hT hsz hk => ?_
    refine ⟨_, rfl, wpAny_letOwnedTupleGo_zipS (s := { s with heap := h' }) z' fun h'' z'' sb => ?_⟩
    have hT2 : h''.get? s.heap.objs.size = some { cls := .type "tuple", data := .seq #[u, u2] } := (sb.2 _ (Nat.ne_of_gt hzl)).trans hT
    have new : ObjOk X.prog X.w (upd H s.heap.objs.size (.tup [x, y])) h'' s.heap.objs.size (.tup [x, y]) :=
      ⟨by show 2 ≤ sizeLine; decide, [u, u2], .cons ru (.cons ru2 .nil), ⟨_, hT2, rfl, _, rfl⟩⟩
    have I1 : Inv X pins σ (upd H s.heap.objs.size (.tup [x, y])) { s with heap := h'' } :=
      I.turnedNew (t' := s.toks) (ch := [z, TI, TO, i1, i2]) (fun c o hb q => (sb.2 c (fun q' => hb (by simp [q']))).trans (hk c o (fun q' => hb (by simp [q'])) (fun q' => hb (by simp [q'])) (fun q' => hb (by simp [q'])) (fun q' => hb (by simp [q'])) q)) hf (Nat.le_refl _) new
    refine ⟨.ref s.heap.objs.size, _, I1, rfl, ⟨_, x, y, rfl, I.hok.fresh (Nat.le_refl _), rfl, fun l hl => by rw [I.list_inj hl hqx]; exact hx, fun l hl => by rw [I.list_inj hl hqy]; exact hy⟩, ⟨z'', ?_, ⟨u, u2, ?_⟩, ?_, ?_⟩, fun c hcm => ?_⟩
    · exact (sb.2 _ D.TIz).trans (hk _ _ D.TIz D.TITO D.TIi1 D.TIi2 hTI)
    · exact (sb.2 _ D.TOz).trans TO'
    · exact h1'.at fun o q => (sb.2 _ D.i1z).trans q
    · exact h2'.at fun o q => (sb.2 _ D.i2z).trans q
    · have hlt : c < s.heap.objs.size := by
        have e' : c = z ∨ c = TI ∨ c = TO ∨ c = i1 ∨ c = i2 := by simpa using hcm
        rcases e' with q | q | q | q | q
        · rw [q]; exact hzl
        · rw [q]; exact Heap.lt_size hTI
        · rw [q]; exact Heap.lt_size hTO
        · rw [q]; obtain ⟨_, e1, _⟩ := h1; exact Heap.lt_size e1
        · rw [q]; obtain ⟨_, e2, _⟩ := h2; exact Heap.lt_size e2
      rw [upd_ne (Nat.ne_of_lt hlt)]
      exact (hf c hcm).1
  done := by
    intro X hP hw hK hc i pins s σ H E I hf st hg
    subst hP hw hK
    obtain ⟨hz, hTI, ⟨x0, y0, hTO⟩, h1, h2⟩ := st
    obtain ⟨xs, ys, hqx, hqy, hx, hy⟩ := hg
    obtain ⟨its, rv, p, _⟩ := I.list hqx
    obtain ⟨its2, rv2, p2, _⟩ := I.list hqy
    have l1 := rv.length
    have l2 := rv2.length
    exact wpAny_pyNext_zipS_end (I.ok.hd hc) D hz hTI hTO h1 h2 p.isList p2.isList (by simp; omega) (by simp; omega) fun h' hk => ⟨rfl, I.turnedL (t' := s.toks) (ch := [z, TI, TO, i1, i2]) (fun c o hb q =>
      hk c o (fun q' => hb (by simp [q'])) (fun q' => hb (by simp [q'])) (fun q' => hb (by simp [q'])) (fun q' => hb (by simp [q'])) q) hf⟩
  self := fun A i s Q E st h => wpAny_pyIter_zipS st.1 h
def Itz3 (K : PySem.W.Frag) (a b d : Addr) : It :=
  ⟨fun i H => ∃ (xs ys zs : List V) (x y z : V), SqL K H a xs ∧ SqL K H b ys ∧ SqL K H d zs ∧ xs[i]? = some x ∧ ys[i]? = some y ∧ zs[i]? = some z,
    fun i H v H' => ∃ T x y z, v = .ref T ∧ H T = none ∧ H' = upd H T (.tup [x, y, z]) ∧ (∀ xs, SqL K H a xs → xs[i]? = some x) ∧ (∀ ys, SqL K H b ys → ys[i]? = some y) ∧ ∀ zs, SqL K H d zs → zs[i]? = some z,
    fun i H => ∃ xs ys zs : List V, SqL K H a xs ∧ SqL K H b ys ∧ SqL K H d zs ∧ (xs.length ≤ i ∨ ys.length ≤ i ∨ zs.length ≤ i)⟩
theorem turn_zip3 {P : Program} {w : World} {K : PySem.W.Frag} {elts : List Expr} {kk : Nat} {tpos : Pos} {a b d z TI TO i1 i2 i3 : Addr} (D : Ap3 z TI TO i1 i2 i3 a b d) :
    Turn P w K (.Tuple elts kk tpos) (Itz3 K a b d) [z, TI, TO, i1, i2, i3] z (fun i h => IsZip h z TI TO .none ∧ IsTri h TI (.ref i1) (.ref i2) (.ref i3) ∧ (∃ x y v, IsTri h TO x y v) ∧ h.IsListIter i1 a i ∧ h.IsListIter i2 b i ∧ h.IsListIter i3 d i) where
  mem := by simp
  obj := fun i h st c hc => by
    obtain ⟨hz, hTI, ⟨x, y, v, hTO⟩, ⟨o1, e1, _, d1⟩, ⟨o2, e2, _, d2⟩, ⟨o3, e3, _, d3⟩⟩ := st
    have e' : c = z ∨ c = TI ∨ c = TO ∨ c = i1 ∨ c = i2 ∨ c = i3 := by simpa using hc
    rcases e' with q | q | q | q | q | q
    · rw [q]; exact ⟨_, hz, fun v q => nomatch q⟩
    · rw [q]; exact ⟨_, hTI, fun v q => nomatch q⟩
    · rw [q]; exact ⟨_, hTO, fun v q => nomatch q⟩
    · rw [q]; exact ⟨o1, e1, fun v q => by rw [d1] at q; cases q⟩
    · rw [q]; exact ⟨o2, e2, fun v q => by rw [d2] at q; cases q⟩
    · rw [q]; exact ⟨o3, e3, fun v q => by rw [d3] at q; cases q⟩
  keep := fun i h h' st k => by
    obtain ⟨hz, hTI, ⟨x, y, v, hTO⟩, h1, h2, h3⟩ := st
    exact ⟨k z (by simp) _ hz, k TI (by simp) _ hTI, ⟨x, y, v, k TO (by simp) _ hTO⟩, h1.at fun o q => k i1 (by simp) o q, h2.at fun o q => k i2 (by simp) o q, h3.at fun o q => k i3 (by simp) o q⟩
  item := by
    intro X hP hw hK hc i pins s σ H E I hf st hg
    subst hP hw hK
    obtain ⟨hz, hTI, ⟨x0, y0, v0, hTO⟩, h1, h2, h3⟩ := st
    obtain ⟨xs, ys, zs, x, y, v, hqx, hqy, hqz, hx, hy, hv⟩ := hg
    obtain ⟨its, rv, p, _⟩ := I.list hqx
    obtain ⟨its2, rv2, p2, _⟩ := I.list hqy
    obtain ⟨its3, rv3, p3, _⟩ := I.list hqz
    obtain ⟨u, hu, ru⟩ := rv.get hx
    obtain ⟨u2, hu2, ru2⟩ := rv2.get hy
    obtain ⟨u3, hu3, ru3⟩ := rv3.get hv
    have hzl : z < s.heap.objs.size := Heap.lt_size hz
    refine wpAny_pyNext_zip3_item D hz hTI hTO h1 h2 h3 p.isList p2.isList p3.isList (x := u) (y := u2) (v := u3) (by simpa using hu) (by simpa using hu2) (by simpa using hu3) fun h' z' TO' h1' h2' h3' hT hsz hk => ?_
    refine ⟨_, rfl, wpAny_letOwnedTupleGo_zip (s := { s with heap := h' }) z' fun h'' z'' sb => ?_⟩
    have hT2 : h''.get? s.heap.objs.size = some { cls := .type "tuple", data := .seq #[u, u2, u3] } := (sb.2 _ (Nat.ne_of_gt hzl)).trans hT
    have new : ObjOk X.prog X.w (upd H s.heap.objs.size (.tup [x, y, v])) h'' s.heap.objs.size (.tup [x, y, v]) :=
      ⟨by show 3 ≤ sizeLine; decide, [u, u2, u3], .cons ru (.cons ru2 (.cons ru3 .nil)), ⟨_, hT2, rfl, _, rfl⟩⟩
    have I1 : Inv X pins σ (upd H s.heap.objs.size (.tup [x, y, v])) { s with heap := h'' } :=
      I.turnedNew (t' := s.toks) (ch := [z, TI, TO, i1, i2, i3]) (fun c o hb q => (sb.2 c (fun q' => hb (by simp [q']))).trans (hk c o (fun q' => hb (by simp [q'])) (fun q' => hb (by simp [q'])) (fun q' => hb (by simp [q'])) (fun q' => hb (by simp [q'])) (fun q' => hb (by simp [q'])) q)) hf (Nat.le_refl _) new
    refine ⟨.ref s.heap.objs.size, _, I1, rfl, ⟨_, x, y, v, rfl, I.hok.fresh (Nat.le_refl _), rfl, fun l hl => by rw [I.list_inj hl hqx]; exact hx, fun l hl => by rw [I.list_inj hl hqy]; exact hy, fun l hl => by rw [I.list_inj hl hqz]; exact hv⟩, ⟨z'', ?_, ⟨u, u2, u3, ?_⟩, ?_, ?_, ?_⟩, fun c hcm => ?_⟩
    · exact (sb.2 _ D.TIz).trans (hk _ _ D.TIz D.TITO D.TIi1 D.TIi2 D.TIi3 hTI)
    · exact (sb.2 _ D.TOz).trans TO'
    · exact h1'.at fun o q => (sb.2 _ D.i1z).trans q
    · exact h2'.at fun o q => (sb.2 _ D.i2z).trans q
    · exact h3'.at fun o q => (sb.2 _ D.i3z).trans q
    · have hlt : c < s.heap.objs.size := by
        have e' : c = z ∨ c = TI ∨ c = TO ∨ c = i1 ∨ c = i2 ∨ c = i3 := by simpa using hcm
        rcases e' with q | q | q | q | q | q
        · rw [q]; exact hzl
        · rw [q]; exact Heap.lt_size hTI
        · rw [q]; exact Heap.lt_size hTO
        · rw [q]; obtain ⟨_, e1, _⟩ := h1; exact Heap.lt_size e1
        · rw [q]; obtain ⟨_, e2, _⟩ := h2; exact Heap.lt_size e2
        · rw [q]; obtain ⟨_, e3, _⟩ := h3; exact Heap.lt_size e3
      rw [upd_ne (Nat.ne_of_lt hlt)]
      exact (hf c hcm).1
  done := by
    intro X hP hw hK hc i pins s σ H E I hf st hg
    subst hP hw hK
    obtain ⟨hz, hTI, ⟨x0, y0, v0, hTO⟩, h1, h2, h3⟩ := st
    obtain ⟨xs, ys, zs, hqx, hqy, hqz, hend⟩ := hg
    obtain ⟨its, rv, p, _⟩ := I.list hqx
    obtain ⟨its2, rv2, p2, _⟩ := I.list hqy
    obtain ⟨its3, rv3, p3, _⟩ := I.list hqz
    have l1 := rv.length
    have l2 := rv2.length
    have l3 := rv3.length
    have he : its.toArray[i]? = none ∨ its2.toArray[i]? = none ∨ its3.toArray[i]? = none := by
      rcases hend with q | q | q
      · exact .inl (by simp; omega)
      · exact .inr (.inl (by simp; omega))
      · exact .inr (.inr (by simp; omega))
    exact wpAny_pyNext_zip3_end (I.ok.hd hc) D hz hTI hTO h1 h2 h3 p.isList p2.isList p3.isList he fun h' hk => ⟨rfl, I.turnedL (t' := s.toks) (ch := [z, TI, TO, i1, i2, i3]) (fun c o hb q =>
      hk c o (fun q' => hb (by simp [q'])) (fun q' => hb (by simp [q'])) (fun q' => hb (by simp [q'])) (fun q' => hb (by simp [q'])) (fun q' => hb (by simp [q'])) q) hf⟩
  self := fun A i s Q E st h => wpAny_pyIter_zip st.1 h
theorem ap3 (I a b d : Nat) (h1 : a < I) (h2 : b < I) (h3 : d < I) : Ap3 (I + 5) (I + 3) (I + 4) I (I + 1) (I + 2) a b d := by
  constructor <;> (intro h; replace h := (show @Eq Nat _ _ from h); omega)
def iZipS (K : PySem.W.Frag) (ta : TA) : TI := fun σ H R => ta σ H fun vs H1 => ∃ a b xs ys, vs = [.ref a, .ref b] ∧ SqL K H1 a xs ∧ SqL K H1 b ys ∧ R (ItzS K a b) H1
theorem pi_zipS {X : Cx} {e e2 : Expr} {ta : TA} {p pos tpos kpos kp2 : Pos} {elts : List Expr} {kk kj : Nat} (hg : Gl X "zip") (hm : X.mg "zip" = none) (ha : PA X [e, e2] ta)
    (hs : starEach [e, e2] X.env = (false, eval e X.env) :: starEach [e2] X.env)
    (hall : (backToKw pos (keywordEach [⟨some "strict", .Constant (.bool true) kj kp2, kpos⟩] X.env)).all (·.1.isSome) = true) (hks : (backToKw pos (keywordEach [⟨some "strict", .Constant (.bool true) kj kp2, kpos⟩] X.env)).filterMap (·.1) = [Str.ofString "strict"])
    (hpl : ((backTo pos (starEach [e, e2] X.env)).any (·.1) || (backToKw pos (keywordEach [⟨some "strict", .Constant (.bool true) kj kp2, kpos⟩] X.env)).any (·.1.isNone)) = false) :
    PI X (.Tuple elts kk tpos) (.Call (.Name "zip" p) [e, e2] [⟨some "strict", .Constant (.bool true) kj kp2, kpos⟩] pos) (iZipS X.K ta) := by
  refine ⟨fun pins s σ H R I h => ?_⟩
  have hk : PK X [⟨some "strict", .Constant (.bool true) kj kp2, kpos⟩] (tCons (tC (.bl true)) tNil) := pk_cons pe_bl pk_nil
  refine wpAny_Call_Name_kw (ld_blt I hg hm PyProof.Rows.boot_zip (callWith_typeK hall (thn (ha.run pos pins s σ H _ I h) fun us s1 ⟨vs, H1, I1, r1, q1⟩ => thn (hk.run pos pins s1 σ H1 (fun zs H2 => zs = [.bl true] ∧ H2 = H1) I1 ⟨rfl, rfl⟩) fun ws s2 ⟨zs, H2, I2, r2, ez, eH⟩ => ?_) hpl hs))
  subst ez eH
  obtain ⟨a, b, xs, ys, ex, hqx, hqy, q⟩ := q1
  subst ex
  cases r2 with
  | cons rz rr =>
    cases rr
    cases rz
    cases r1 with
    | cons r rr =>
      cases rr with
      | cons r' rr =>
        cases rr
        cases r
        cases r'
        obtain ⟨its, rv, p1, _⟩ := I2.list hqx
        obtain ⟨its2, rv2, p2, _⟩ := I2.list hqy
        have la : a < s2.heap.objs.size := p1.lt
        have lb : b < s2.heap.objs.size := p2.lt
        rw [hks]
        refine call_zipS p1.isList p2.isList fun h' hz hTI hTO h1 h2 hsz hkk => wpAny_pyIter_zipS hz ?_
        have I3 : Inv X pins σ H2 { s2 with heap := h' } := I2.kept (t' := s2.toks) hkk
        refine ⟨s2.heap.objs.size + 4, [s2.heap.objs.size + 4, s2.heap.objs.size + 2, s2.heap.objs.size + 3, s2.heap.objs.size, s2.heap.objs.size + 1], _, _, H2, rfl, I3, turn_zipS (PySem.W.ktu_apart s2.heap.objs.size a b la lb), ⟨hz, hTI, ⟨_, _, hTO⟩, h1, h2⟩, fun c hcm => ?_, q⟩
        have e' : c = s2.heap.objs.size + 4 ∨ c = s2.heap.objs.size + 2 ∨ c = s2.heap.objs.size + 3 ∨ c = s2.heap.objs.size ∨ c = s2.heap.objs.size + 1 := by simpa using hcm
        have hle : s2.heap.objs.size ≤ c := by rcases e' with z | z | z | z | z <;> rw [z] <;> first | exact Nat.le_add_right _ _ | exact Nat.le_refl _
        exact I2.fpOk hle (I2.hok.fresh hle)
def iZip3 (K : PySem.W.Frag) (ta : TA) : TI := fun σ H R => ta σ H fun vs H1 => ∃ a b d xs ys zs, vs = [.ref a, .ref b, .ref d] ∧ SqL K H1 a xs ∧ SqL K H1 b ys ∧ SqL K H1 d zs ∧ R (Itz3 K a b d) H1
theorem pi_zip3 {X : Cx} {e e2 e3 : Expr} {ta : TA} {p pos tpos : Pos} {elts : List Expr} {kk : Nat} (hg : Gl X "zip") (hm : X.mg "zip" = none) (ha : PA X [e, e2, e3] ta)
    (hs : starEach [e, e2, e3] X.env = (false, eval e X.env) :: starEach [e2, e3] X.env) (hpl : (backTo pos (starEach [e2, e3] X.env)).any (·.1) = false) :
    PI X (.Tuple elts kk tpos) (.Call (.Name "zip" p) [e, e2, e3] [] pos) (iZip3 X.K ta) := by
  refine ⟨fun pins s σ H R I h => ?_⟩
  refine Call_ (ld_blt I hg hm PyProof.Rows.boot_zip (PyProof.Rows.callWith_type1 (thn (ha.run pos pins s σ H _ I h) fun us s1 ⟨vs, H1, I1, r1, q1⟩ => ?_) hs hpl))
  obtain ⟨a, b, d, xs, ys, zs, ex, hqx, hqy, hqz, q⟩ := q1
  subst ex
  cases r1 with
  | cons r rr =>
    cases rr with
    | cons r' rr =>
      cases rr with
      | cons r'' rr =>
        cases rr
        cases r
        cases r'
        cases r''
        obtain ⟨its, rv, p1, _⟩ := I1.list hqx
        obtain ⟨its2, rv2, p2, _⟩ := I1.list hqy
        obtain ⟨its3, rv3, p3, _⟩ := I1.list hqz
        have la : a < s1.heap.objs.size := p1.lt
        have lb : b < s1.heap.objs.size := p2.lt
        have ld : d < s1.heap.objs.size := p3.lt
        refine call_zip3 p1.isList p2.isList p3.isList fun h' hz hTI hTO h1 h2 h3 hsz hkk => wpAny_pyIter_zip hz ?_
        have I3 : Inv X pins σ H1 { s1 with heap := h' } := I1.kept (t' := s1.toks) hkk
        refine ⟨s1.heap.objs.size + 5, [s1.heap.objs.size + 5, s1.heap.objs.size + 3, s1.heap.objs.size + 4, s1.heap.objs.size, s1.heap.objs.size + 1, s1.heap.objs.size + 2], _, _, H1, rfl, I3, turn_zip3 (ap3 s1.heap.objs.size a b d la lb ld), ⟨hz, hTI, ⟨_, _, _, hTO⟩, h1, h2, h3⟩, fun c hcm => ?_, q⟩
        have e' : c = s1.heap.objs.size + 5 ∨ c = s1.heap.objs.size + 3 ∨ c = s1.heap.objs.size + 4 ∨ c = s1.heap.objs.size ∨ c = s1.heap.objs.size + 1 ∨ c = s1.heap.objs.size + 2 := by simpa using hcm
        have hle : s1.heap.objs.size ≤ c := by rcases e' with z | z | z | z | z | z <;> rw [z] <;> first | exact Nat.le_add_right _ _ | exact Nat.le_refl _
        exact I1.fpOk hle (I1.hok.fresh hle)
/-! ### as sources -/
section
variable {X : Cx} {c : C} {e e2 e3 : Expr} {f f2 f3 : E} {pos p tpos kpos kp2 : Pos} {elts : List Expr} {kk kj : Nat}
theorem walk_zipS {K : PySem.W.Frag} {a b : Addr} {vs us : List V} {F H : Hp} {xs ys : List D} (h : F a = some (.lst vs)) (h' : F b = some (.lst us)) (r : RepAll c F vs xs) (r' : RepAll c F us ys) (hl : xs.length = ys.length) : WalkD c (ItzS K a b) [] F H (zip2 xs ys) := by
  have at' : ∀ F1 H1, Same F F1 → Same F1 H1 → H1 a = some (.lst vs) ∧ H1 b = some (.lst us) := fun F1 H1 t1 t2 => ⟨t2 _ _ (t1 _ _ h), t2 _ _ (t1 _ _ h')⟩
  refine ⟨fun _ z => (nomatch z), fun i F1 H1 hi s1 s2 _ _ => ?_, fun F1 H1 s1 s2 _ _ => ⟨vs, us, SqL.of (at' F1 H1 s1 s2).1, SqL.of (at' F1 H1 s1 s2).2, ?_, ?_⟩, fun i F1 H1 g x H2 hi s1 s2 _ gen hy => ?_⟩
  · rw [zip2_len] at hi
    obtain ⟨v, hv, _⟩ := r.get (List.getElem?_eq_getElem (show i < xs.length by omega))
    obtain ⟨u, hu, _⟩ := r'.get (List.getElem?_eq_getElem (show i < ys.length by omega))
    exact ⟨vs, us, v, u, SqL.of (at' F1 H1 s1 s2).1, SqL.of (at' F1 H1 s1 s2).2, hv, hu⟩
  · rw [zip2_len, r.length]
    omega
  · rw [zip2_len, r'.length]
    omega
  · obtain ⟨T, y, z, rfl, hT, rfl, hx, hz⟩ := hy
    obtain ⟨d, hd, rd⟩ := r.getV (hx vs (SqL.of (at' F1 H1 s1 s2).1))
    obtain ⟨e, he, re⟩ := r'.getV (hz us (SqL.of (at' F1 H1 s1 s2).2))
    have st := Stp.lay (o := .tup [y, z]) s2 gen hT
    refine ⟨upd F1 T (.tup [y, z]), .tup [d, e], ?_, st, .tup upd_same (.cons ((rd.up s1).up st.sub) (.cons ((re.up s1).up st.sub) .nil))⟩
    rw [zip2_get, hd, he]
/-- for x, y in zip(xs, ys, strict=True) -/
theorem di_zipS (hm : X.mg "zip" = none) (h : PE X e (tP c f)) (h2 : PE X e2 (tP c f2)) (hg : Gl X "zip" := by rfl) (hs : starEach [e, e2] X.env = (false, eval e X.env) :: starEach [e2] X.env := by rfl) (hs2 : starEach [e2] X.env = (false, eval e2 X.env) :: starEach [] X.env := by rfl)
    (hall : (backToKw pos (keywordEach [⟨some "strict", .Constant (.bool true) kj kp2, kpos⟩] X.env)).all (·.1.isSome) = true := by rfl) (hks : (backToKw pos (keywordEach [⟨some "strict", .Constant (.bool true) kj kp2, kpos⟩] X.env)).filterMap (·.1) = [Str.ofString "strict"] := by rfl)
    (hpl : ((backTo pos (starEach [e, e2] X.env)).any (·.1) || (backToKw pos (keywordEach [⟨some "strict", .Constant (.bool true) kj kp2, kpos⟩] X.env)).any (·.1.isNone)) = false := by rfl) :
    PI X (.Tuple elts kk tpos) (.Call (.Name "zip" p) [e, e2] [⟨some "strict", .Constant (.bool true) kj kp2, kpos⟩] pos) (iD c (xZs f f2)) :=
  (pi_zipS hg hm (pa_cons h (pa_cons h2 pa_nil hs2) hs) hs hall hks hpl).imp fun σ H R ⟨H0, F, δ, g, ds, g', w, o, q⟩ => by
    obtain ⟨x, g1, o1, o⟩ := ok_bind.mp o
    obtain ⟨y, g2, o2, o⟩ := ok_bind.mp o
    split at o
    · split at o
      · rename_i hl
        obtain ⟨rfl, rfl⟩ := ok_pure.mp o
        refine ⟨H0, F, δ, g, _, g1, w, o1, fun v F1 H1 s1 r1 => ⟨H0, F1, δ, g1, _, g2, w.step s1, o2, fun u F2 H2 s2 r2 => ?_⟩⟩
        cases r1 with
        | @lst _ a vs _ ea ra =>
          cases r2 with
          | @lst _ b us _ eb rb => exact ⟨a, b, vs, us, rfl, SqL.of (s2.le _ _ (s2.sub _ _ ea)), SqL.of (s2.le _ _ eb), q _ F2 H2 (s1.trans s2) (walk_zipS (s2.sub _ _ ea) eb (ra.up s2.sub) rb hl)⟩
      · exact absurd o not_ok_stuck
    · exact absurd o not_ok_stuck
theorem zip3_get : ∀ (xs ys zs : List D) (i : Nat), (zip3 xs ys zs)[i]? = match xs[i]?, ys[i]?, zs[i]? with
    | some x, some y, some z => some (.tup [x, y, z])
    | _, _, _ => none
  | [], ys, zs, i => by simp [zip3]
  | x :: xs, [], zs, i => by
    simp only [zip3, List.getElem?_nil]
    cases (x :: xs)[i]? <;> rfl
  | x :: xs, y :: ys, [], i => by
    simp only [zip3, List.getElem?_nil]
    cases (x :: xs)[i]? <;> cases (y :: ys)[i]? <;> rfl
  | x :: xs, y :: ys, z :: zs, 0 => by simp [zip3]
  | x :: xs, y :: ys, z :: zs, i + 1 => by
    show (zip3 xs ys zs)[i]? = _
    rw [zip3_get xs ys zs i]
    rfl
theorem zip3_len : ∀ (xs ys zs : List D), (zip3 xs ys zs).length = min xs.length (min ys.length zs.length)
  | [], ys, zs => by simp [zip3]
  | x :: xs, [], zs => by simp [zip3]
  | x :: xs, y :: ys, [] => by simp [zip3]
  | x :: xs, y :: ys, z :: zs => by
    simp only [zip3, List.length_cons, zip3_len xs ys zs]
    omega
theorem walk_zip3 {K : PySem.W.Frag} {a b d : Addr} {vs us ws : List V} {F H : Hp} {xs ys zs : List D} (h : F a = some (.lst vs)) (h' : F b = some (.lst us)) (h'' : F d = some (.lst ws)) (r : RepAll c F vs xs) (r' : RepAll c F us ys) (r'' : RepAll c F ws zs) : WalkD c (Itz3 K a b d) [] F H (zip3 xs ys zs) := by
  have at1 : ∀ F1 H1, Same F F1 → Same F1 H1 → SqL K H1 a vs := fun F1 H1 t1 t2 => SqL.of (t2 _ _ (t1 _ _ h))
  have at2 : ∀ F1 H1, Same F F1 → Same F1 H1 → SqL K H1 b us := fun F1 H1 t1 t2 => SqL.of (t2 _ _ (t1 _ _ h'))
  have at3 : ∀ F1 H1, Same F F1 → Same F1 H1 → SqL K H1 d ws := fun F1 H1 t1 t2 => SqL.of (t2 _ _ (t1 _ _ h''))
  have l1 := r.length
  have l2 := r'.length
  have l3 := r''.length
  refine ⟨fun _ z => (nomatch z), fun i F1 H1 hi s1 s2 _ _ => ?_, fun F1 H1 s1 s2 _ _ => ⟨vs, us, ws, at1 F1 H1 s1 s2, at2 F1 H1 s1 s2, at3 F1 H1 s1 s2, ?_⟩, fun i F1 H1 g x H2 hi s1 s2 _ gen hy => ?_⟩
  · rw [zip3_len] at hi
    obtain ⟨v, hv, _⟩ := r.get (List.getElem?_eq_getElem (show i < xs.length by omega))
    obtain ⟨u, hu, _⟩ := r'.get (List.getElem?_eq_getElem (show i < ys.length by omega))
    obtain ⟨w, hw, _⟩ := r''.get (List.getElem?_eq_getElem (show i < zs.length by omega))
    exact ⟨vs, us, ws, v, u, w, at1 F1 H1 s1 s2, at2 F1 H1 s1 s2, at3 F1 H1 s1 s2, hv, hu, hw⟩
  · rw [zip3_len]
    omega
  · obtain ⟨T, y, z, t, rfl, hT, rfl, hx, hz, ht⟩ := hy
    obtain ⟨d1, hd1, rd1⟩ := r.getV (hx vs (at1 F1 H1 s1 s2))
    obtain ⟨d2, hd2, rd2⟩ := r'.getV (hz us (at2 F1 H1 s1 s2))
    obtain ⟨d3, hd3, rd3⟩ := r''.getV (ht ws (at3 F1 H1 s1 s2))
    have st := Stp.lay (o := .tup [y, z, t]) s2 gen hT
    refine ⟨upd F1 T (.tup [y, z, t]), .tup [d1, d2, d3], ?_, st, .tup upd_same (.cons ((rd1.up s1).up st.sub) (.cons ((rd2.up s1).up st.sub) (.cons ((rd3.up s1).up st.sub) .nil)))⟩
    rw [zip3_get, hd1, hd2, hd3]
/-- for x, y, z in zip(xs, ys, zs) -/
theorem di_zip3 (hm : X.mg "zip" = none) (h : PE X e (tP c f)) (h2 : PE X e2 (tP c f2)) (h3 : PE X e3 (tP c f3)) (hg : Gl X "zip" := by rfl) (hs : starEach [e, e2, e3] X.env = (false, eval e X.env) :: starEach [e2, e3] X.env := by rfl) (hs2 : starEach [e2, e3] X.env = (false, eval e2 X.env) :: starEach [e3] X.env := by rfl) (hs3 : starEach [e3] X.env = (false, eval e3 X.env) :: starEach [] X.env := by rfl)
    (hpl : (backTo pos (starEach [e2, e3] X.env)).any (·.1) = false := by rfl) : PI X (.Tuple elts kk tpos) (.Call (.Name "zip" p) [e, e2, e3] [] pos) (iD c (xZ3 f f2 f3)) :=
  (pi_zip3 hg hm (pa_cons h (pa_cons h2 (pa_cons h3 pa_nil hs3) hs2) hs) hs hpl).imp fun σ H R ⟨H0, F, δ, g, ds, g', w, o, q⟩ => by
    obtain ⟨x, g1, o1, o⟩ := ok_bind.mp o
    obtain ⟨y, g2, o2, o⟩ := ok_bind.mp o
    obtain ⟨z, g3, o3, o⟩ := ok_bind.mp o
    split at o
    · obtain ⟨rfl, rfl⟩ := ok_pure.mp o
      refine ⟨H0, F, δ, g, _, g1, w, o1, fun v F1 H1 s1 r1 => ⟨H0, F1, δ, g1, _, g2, w.step s1, o2, fun u F2 H2 s2 r2 => ⟨H0, F2, δ, g2, _, g3, (w.step s1).step s2, o3, fun t F3 H3 s3 r3 => ?_⟩⟩⟩
      cases r1 with
      | @lst _ a vs _ ea ra =>
        cases r2 with
        | @lst _ b us _ eb rb =>
          cases r3 with
          | @lst _ d ws _ ed rd => exact ⟨a, b, d, vs, us, ws, rfl, SqL.of (s3.le _ _ (s3.sub _ _ (s2.sub _ _ ea))), SqL.of (s3.le _ _ (s3.sub _ _ eb)), SqL.of (s3.le _ _ ed), q _ F3 H3 ((s1.trans s2).trans s3) (walk_zip3 (s3.sub _ _ (s2.sub _ _ ea)) (s3.sub _ _ eb) ed ((ra.up s2.sub).up s3.sub) (rb.up s3.sub) rd)⟩
    · exact absurd o not_ok_stuck
end
end DL

/-! ## DTop -/
set_option Elab.async false
set_option autoImplicit false
set_option linter.all false
set_option maxRecDepth 100000
set_option maxHeartbeats 4000000
/-! DTop: what a printed walk of a def names: callees, built-ins, room. -/
namespace DL
open PySem PySem.Spec PyProof.Rows L2
/-- built-ins that the module doesn't cover -/
structure Blt (mg : Str → Option Value) : Prop where
  isi : mg "isinstance" = none
  bool_ : mg "bool" = none
  int_ : mg "int" = none
  str_ : mg "str" = none
  list_ : mg "list" = none
  tuple_ : mg "tuple" = none
  dict_ : mg "dict" = none
  len_ : mg "len" = none
  all_ : mg "all" = none
  any_ : mg "any" = none
  abs_ : mg "abs" = none
  max_ : mg "max" = none
  min_ : mg "min" = none
  sum_ : mg "sum" = none
  sorted_ : mg "sorted" = none
  repr_ : mg "repr" = none
  range_ : mg "range" = none
  zip_ : mg "zip" = none
  enumerate_ : mg "enumerate" = none
theorem hu64 {k : Nat} {A : Around} (r : Room k A) : A.units + 64 < cLine := by have := r.un; omega
theorem hu65 {k : Nat} {A : Around} (r : Room k A) : A.units + 65 < cLine := by have := r.un; omega
/-- a def that may be called at level k: its function -/
structure Cal (P : Program) (w : World) (K : PySem.W.Frag) (mg : Str → Option Value) (base : Heap) (k : Nat) (x : Str) (st : Stmt) (ps : List Str) (Fs : List D → M D) : Prop where
  ex : ∃ (f : Addr) (fd : FuncData), mg x = some (.ref f) ∧ Fun K x x st f fd ∧ Binds K fd ps [] ∧ FnG P w K mg base k f fd ps Fs
/-- where a def lies -/
structure At (K : PySem.W.Frag) (mg : Str → Option Value) (x : Str) (st : Stmt) (ps : List Str) : Prop where
  ex : ∃ (f : Addr) (fd : FuncData), mg x = some (.ref f) ∧ Fun K x x st f fd ∧ Binds K fd ps []
theorem At.cal {P : Program} {w : World} {K : PySem.W.Frag} {mg : Str → Option Value} {base : Heap} {k : Nat} {x : Str} {st : Stmt} {ps : List Str} {Fs : List D → M D} (a : At K mg x st ps) (h : ∀ f fd, Fun K x x st f fd → FnG P w K mg base k f fd ps Fs) : Cal P w K mg base k x st ps Fs := by
  obtain ⟨f, fd, h1, h2, h3⟩ := a.ex
  exact ⟨f, fd, h1, h2, h3, h f fd h2⟩
theorem Cal.mono {P : Program} {w : World} {K : PySem.W.Frag} {mg : Str → Option Value} {base : Heap} {j k : Nat} {x : Str} {st : Stmt} {ps : List Str} {Fs : List D → M D} (a : Cal P w K mg base j x st ps Fs) (h : j ≤ k) : Cal P w K mg base k x st ps Fs := by
  obtain ⟨f, fd, h1, h2, h3, h4⟩ := a.ex
  exact ⟨f, fd, h1, h2, h3, h4.mono h⟩
theorem Cal.le {P : Program} {w : World} {K : PySem.W.Frag} {mg : Str → Option Value} {base : Heap} {k : Nat} {x : Str} {st : Stmt} {ps : List Str} {Fs Gs' : List D → M D} (a : Cal P w K mg base k x st ps Fs) (h : ∀ ds g d g', Ok (Gs' ds) g d g' → Ok (Fs ds) g d g') : Cal P w K mg base k x st ps Gs' := by
  obtain ⟨f, fd, h1, h2, h3, h4⟩ := a.ex
  exact ⟨f, fd, h1, h2, h3, h4.le h⟩
def KwOk (x : Str) (st : Stmt) (ps ks : List Str) (n : Nat) (ix : List Nat) : Prop := (∀ (kV doc pm : Value) (an : Option Addr) (cdv ct : Value) (us ws : List Value), us.length = n → ws.length = ks.length → bindArgs (PySem.W.fnOf x x (defArgs st) (defBody st) (defScope st) .none kV doc pm an cdv ct) ⟨us, ks.zip ws⟩ = pure (ps.zip (pick ix (us ++ ws)))) ∧ ix.length = ps.length ∧ ∀ i ∈ ix, i < n + ks.length
theorem kwB_of {K : PySem.W.Frag} {x : Str} {st : Stmt} {f : Addr} {fd : FuncData} {ps ks : List Str} {n : Nat} {ix : List Nat} (F : Fun K x x st f fd) (h : KwOk x st ps ks n ix) : KwB fd ps ks n ix := by
  obtain ⟨oc, od, kV, doc, pm, an, cdv, ct, osl, rfl, lk, hcd⟩ := F.ex
  exact ⟨fun us ws h1 h2 => h.1 kV doc pm an cdv ct us ws h1 h2, h.2.1, h.2.2⟩
section
variable {X : Cx} {j k : Nat} {ps ks : List Str} {Fs : List D → M D} {x : Str} {st : Stmt} {p pos : Pos} {e : Expr} {es : List Expr} {fs gs : Es} {ga : Option Addr} {bo : Hp} {kws : List Keyword}
/-- f(e, ..) -/
theorem dc (C : Cal X.prog X.w X.K X.mg X.base j x st ps Fs) (hr : Room k X.A) (hgd : X.A.guards = some []) (ha : PA X (e :: es) (tAs ⟨X.K, X.mg, ga, bo, X.prog, X.w⟩ fs)) (hj : j ≤ k := by decide) (hg : Gl X x := by rfl)
    (hdb : (x == ("__debug__" : Str)) = false := by decide) (he : starEach (e :: es) X.env = (false, eval e X.env) :: starEach es X.env := by rfl) (hpl : (backTo pos (starEach es X.env)).any (·.1) = false := by rfl) :
    PE X (.Call (.Name x p) (e :: es) [] pos) (tP ⟨X.K, X.mg, ga, bo, X.prog, X.w⟩ (eCall Fs fs)) := by
  obtain ⟨f, fd, h1, h2, h3, h4⟩ := C.ex
  exact d_call (h4.mono hj) hr hgd h1 h2.kp h3 ha hg hdb he hpl
/-- f(e, .., k = v, ..) -/
theorem dcK {n : Nat} {ix : List Nat} (C : Cal X.prog X.w X.K X.mg X.base j x st ps Fs) (hr : Room k X.A) (hgd : X.A.guards = some []) (hkw : KwOk x st ps ks n ix) (ha : PA X (e :: es) (tAs ⟨X.K, X.mg, ga, bo, X.prog, X.w⟩ fs)) (hks : PK X kws (tAs ⟨X.K, X.mg, ga, bo, X.prog, X.w⟩ gs)) (hn : EsN n fs) (hn2 : EsN ks.length gs) (hj : j ≤ k := by decide) (hnk : kws.length = ks.length := by rfl)
    (hg : Gl X x := by rfl) (hall : (backToKw pos (keywordEach kws X.env)).all (·.1.isSome) = true := by rfl) (hke : (backToKw pos (keywordEach kws X.env)).filterMap (·.1) = ks := by rfl)
    (hdb : (x == ("__debug__" : Str)) = false := by decide) (he : starEach (e :: es) X.env = (false, eval e X.env) :: starEach es X.env := by rfl)
    (hpl : ((backTo pos (starEach (e :: es) X.env)).any (·.1) || (backToKw pos (keywordEach kws X.env)).any (·.1.isNone)) = false := by rfl) :
    PE X (.Call (.Name x p) (e :: es) kws pos) (tP ⟨X.K, X.mg, ga, bo, X.prog, X.w⟩ (eCallK Fs ix fs gs)) := by
  obtain ⟨f, fd, h1, h2, h3, h4⟩ := C.ex
  exact d_callK (h4.mono hj) hr hgd h1 h2.kp (kwB_of h2 hkw) ha hks hn hn2 hnk hg hall hke hdb he hpl
/-- f(k = v, ..) -/
theorem dcK0 {ix : List Nat} (C : Cal X.prog X.w X.K X.mg X.base j x st ps Fs) (hr : Room k X.A) (hgd : X.A.guards = some []) (hkw : KwOk x st ps ks 0 ix) (hks : PK X kws (tAs ⟨X.K, X.mg, ga, bo, X.prog, X.w⟩ gs)) (hn2 : EsN ks.length gs) (hj : j ≤ k := by decide)
    (hg : Gl X x := by rfl) (hall : (backToKw pos (keywordEach kws X.env)).all (·.1.isSome) = true := by rfl) (hke : (backToKw pos (keywordEach kws X.env)).filterMap (·.1) = ks := by rfl)
    (hdb : (x == ("__debug__" : Str)) = false := by decide) (hpl : ((backTo pos (starEach [] X.env)).any (·.1) || (backToKw pos (keywordEach kws X.env)).any (·.1.isNone)) = false := by rfl) :
    PE X (.Call (.Name x p) [] kws pos) (tP ⟨X.K, X.mg, ga, bo, X.prog, X.w⟩ (eCall (fun ys => Fs (pick ix ys)) gs)) := by
  obtain ⟨f, fd, h1, h2, h3, h4⟩ := C.ex
  exact d_callK0 (h4.mono hj) hr hgd h1 h2.kp (kwB_of h2 hkw) hks hn2 hg hall hke hdb hpl
end
/-! ### a sign, a chain -/
def dNeg (d : D) : M D := match d with
  | .int i => pure (.int (-i))
  | _ => stuck
section
variable {X : Cx} {c : C} {a b e : Expr} {fa fb fe f : E} {pos : Pos}
theorem d_neg (ha : PE X a (tR c fa)) : PE X (.UnaryOp .USub a pos) (tP c (eF dNeg fa)) := (pe_un un_neg ha).imp fun σ H Q ⟨H0, F, δ, g, d, g', w, o, q⟩ => by
  obtain ⟨x, g1, o1, o⟩ := ok_bind.mp o
  unfold dNeg at o
  split at o
  · obtain ⟨rfl, rfl⟩ := ok_pure.mp o
    refine ⟨H0, F, δ, g, _, g1, w, o1, fun v F1 H1 s1 r1 => ?_⟩
    have r1 := r1.rep rfl
    cases r1
    exact ⟨_, rfl, q _ F1 H1 s1 (.int _)⟩
  · exact absurd o not_ok_stuck
end
end DL

/-! ## DBor -/
set_option Elab.async false
set_option autoImplicit false
set_option linter.all false
set_option maxRecDepth 100000
set_option maxHeartbeats 4000000
/-! DBor: what is read alone: a def's outcome that is new to the last object. -/
namespace DL
open PySem PySem.Spec PyProof.Rows L2
mutual
/-- nothing that is read alone within -/
def D.nb : D → Bool
  | .lst xs => nbs xs
  | .tup xs => nbs xs
  | .bor _ => false
  | .exc _ d => d.nb
  | _ => true
def nbs : List D → Bool
  | [] => true
  | x :: xs => x.nb && nbs xs
end
theorem nbs_all : ∀ {xs : List D}, nbs xs = true ↔ ∀ d ∈ xs, d.nb = true
  | [] => by simp [nbs]
  | x :: xs => by
    have := nbs_all (xs := xs)
    simp [nbs, this]
def unB : D → D
  | .bor d => d
  | d => d
def eCallI (Fs : List D → M D) (fs : Es) : E := fun δ => fs δ >>= fun ds => Fs (ds.map unB) >>= fun d => if d.imm then pure d else stuck
/-- one heap laid over another -/
def un (F B : Hp) : Hp := fun a => match F a with
  | some o => some o
  | none => B a
mutual
theorem Rep.re {c c' : C} {F : Hp} (h1 : c'.mg = c.mg) (h2 : c'.ga = c.ga) (h3 : c'.prog = c.prog) (h4 : c'.w = c.w) : ∀ (d : D) (v : V), d.nb = true → Rep c F v d → Rep c' F v d
  | .non, _, _, r => by cases r; exact .non
  | .bl b, _, _, r => by cases r; exact .bl b
  | .int b, _, _, r => by cases r; exact .int b
  | .str b, _, _, r => by cases r; exact .str b
  | .lst ds, _, n, r => by
    cases r with
    | lst e q => exact .lst e (RepAll.re h1 h2 h3 h4 ds _ (by simpa [D.nb] using n) q)
  | .tup ds, _, n, r => by
    cases r with
    | tup e q => exact .tup e (RepAll.re h1 h2 h3 h4 ds _ (by simpa [D.nb] using n) q)
  | .dct _, _, _, r => by
    cases r with
    | dct0 e => exact .dct0 e
  | .gen, _, _, r => by
    cases r with
    | gen e => exact .gen (by rw [h2]; exact e)
  | .fn x, _, _, r => by
    cases r with
    | fn e => exact .fn (by rw [h1]; exact e)
  | .exc _ d, _, n, r => by
    cases r with
    | exc e1 e2 e3 q => exact .exc (by rw [h1]; exact e1) e2 e3 (Rep.re h1 h2 h3 h4 d _ (by simpa [D.nb] using n) q)
  | .thr _ _, _, _, r => by cases r
  | .bor _, _, n, _ => by simp [D.nb] at n
  | .dset _, _, _, r => by
    cases r with
    | dset e1 e2 e3 => exact .dset (by rw [h3, h4]; exact e1) e2 e3
theorem RepAll.re {c c' : C} {F : Hp} (h1 : c'.mg = c.mg) (h2 : c'.ga = c.ga) (h3 : c'.prog = c.prog) (h4 : c'.w = c.w) : ∀ (ds : List D) (vs : List V), nbs ds = true → RepAll c F vs ds → RepAll c' F vs ds
  | [], _, _, r => by cases r; exact .nil
  | d :: ds, _, n, r => by
    simp only [nbs, Bool.and_eq_true] at n
    cases r with
    | cons q t => exact .cons (Rep.re h1 h2 h3 h4 d _ n.1 q) (RepAll.re h1 h2 h3 h4 ds _ n.2 t)
end
section
variable {c : C} {F B H F' H' : Hp} {g g' : Gs}
theorem imm_any {v : V} {d : D} (h : d.imm = true) (r : Rep c B v d) : Rep c F v d := by
  cases d with
  | non => cases r; exact .non
  | bl b => cases r; exact .bl b
  | int i => cases r; exact .int i
  | str x => cases r; exact .str x
  | _ => cases h
theorem imms_any : ∀ {vs : List V} {ds : List D}, ds.all D.imm = true → RepAll c B vs ds → RepAll c F vs ds
  | _, _, _, .nil => .nil
  | _, _, h, .cons r t => by
    rw [List.all_cons, Bool.and_eq_true] at h
    exact .cons (imm_any h.1 r) (imms_any h.2 t)
theorem un_l : Same F (un F B) := fun a o e => by unfold un; rw [e]
theorem un_le (h1 : Same F H) (h2 : Same B H) : Same (un F B) H := fun a o e => by
  unfold un at e
  cases h : F a with
  | some u => rw [h] at e; cases e; exact h1 a _ h
  | none => rw [h] at e; exact h2 a _ e
theorem un_r (h1 : Same F H) (h2 : Same B H) : Same B (un F B) := fun a o e => by
  unfold un
  cases h : F a with
  | some u => exact (h1 a _ h).symm.trans (h2 a _ e)
  | none => exact e
theorem unB_rep (h1 : Same F H) (h2 : Same c.bo H) : ∀ {vs : List V} {ds : List D}, RepAll c F vs ds → RepAll c (un F c.bo) vs (ds.map unB)
  | _, _, .nil => .nil
  | _, _, .cons (d := d) r t => by
    refine .cons ?_ (unB_rep h1 h2 t)
    cases d with
    | bor d =>
      cases r with
      | bor r => exact r.up (un_r h1 h2)
    | _ => exact r.up un_l
/-- what was read alone is forgotten behind a call whose outcome is no object -/
theorem Stp.unB (gen : GenOk c F H g) (h1 : Same F H) (s : Stp c (un F c.bo) H F' H' g') : Stp c F H F H' g' :=
  ⟨Same.refl F, s.ext, fun _ a b => absurd b a, fun a o e => s.le a o (s.sub a o (un_l a o e)), ⟨fun a n => ⟨(gen.gen a n).1, (s.gen.gen a n).2⟩, s.gen.bo, s.gen.nb⟩⟩
theorem GenOk.unB (gen : GenOk c F H g) : GenOk c (un F c.bo) H g := ⟨fun a n => ⟨by
  unfold un
  rw [(gen.gen a n).1]
  exact gen.nb a n, (gen.gen a n).2⟩, gen.bo, gen.nb⟩
/-- new objects are relied on besides -/
theorem Stp.newer (h1 : Same F H) (gen : GenOk c F H g) {c0 : C} (hc : c0.ga = c.ga) (s : Stp c0 (fun _ => none) H F' H' g') : Stp c F H (un F F') H' g' := by
  have hf : Same F H' := fun a o e => s.ext a o (fun n => by
    rw [hc] at n
    rw [(gen.gen a n).1] at e; cases e) (h1 a o e)
  have hb : Same c.bo H' := fun a o e => s.ext a o (fun n => by
    rw [hc] at n
    rw [gen.nb a n] at e; cases e) (gen.bo a o e)
  refine ⟨un_l, fun a o n e => s.ext a o (by rw [hc]; exact n) e, fun a n e => ?_, un_le hf s.le, ⟨fun a n => ⟨?_, (s.gen.gen a (by rw [hc]; exact n)).2⟩, hb, gen.nb⟩⟩
  · unfold un at n
    rw [e] at n
    exact s.new a n rfl
  · unfold un
    rw [(gen.gen a n).1]
    exact (s.gen.gen a (by rw [hc]; exact n)).1
end
section
variable {X : Cx} {c : C} {a e : Expr} {f : E} {pos : Pos}
theorem d_ub (h : PE X a (tP c f)) : PE X a (tR c (eF dUnB f)) := h.imp fun σ H Q ⟨H0, F, δ, g, d, g', w, o, q⟩ => by
  obtain ⟨x, g1, o1, o⟩ := ok_bind.mp o
  unfold dUnB at o
  split at o
  · split at o
    · rename_i hi
      obtain ⟨rfl, rfl⟩ := ok_pure.mp o
      refine ⟨H0, F, δ, g, _, g1, w, o1, fun v F1 H1 s1 r1 => ?_⟩
      cases r1 with
      | bor r1 =>
        cases r1 with
        | @lst _ a vs _ ea ra => exact q _ F1 H1 s1 (.inr ⟨a, vs, _, rfl, rfl, s1.gen.bo _ _ ea, fun n => (by rw [s1.gen.nb a n] at ea; cases ea), imms_any hi ra⟩)
    · exact absurd o not_ok_stuck
  · obtain ⟨rfl, rfl⟩ := ok_pure.mp o
    exact ⟨H0, F, δ, g, _, g1, w, o1, fun v F1 H1 s1 r1 => q v F1 H1 s1 r1.b⟩
end
section
variable {X : Cx} {j k : Nat} {ps ks : List Str} {Fs : List D → M D} {x : Str} {st : Stmt} {p pos : Pos} {e : Expr} {es : List Expr} {fs gs : Es} {ga : Option Addr} {bo : Hp} {kws : List Keyword}
/-- f(e, ..), of what is read alone too, for an outcome that is no object -/
theorem dcI (C : Cal X.prog X.w X.K X.mg X.base j x st ps Fs) (hr : Room k X.A) (hgd : X.A.guards = some []) (ha : PA X (e :: es) (tAs ⟨X.K, X.mg, ga, bo, X.prog, X.w⟩ fs)) (hj : j ≤ k := by decide) (hg : Gl X x := by rfl)
    (hdb : (x == ("__debug__" : Str)) = false := by decide) (he : starEach (e :: es) X.env = (false, eval e X.env) :: starEach es X.env := by rfl) (hpl : (backTo pos (starEach es X.env)).any (·.1) = false := by rfl) :
    PE X (.Call (.Name x p) (e :: es) [] pos) (tP ⟨X.K, X.mg, ga, bo, X.prog, X.w⟩ (eCallI Fs fs)) := by
  obtain ⟨f, fd, h1, h2, h3, h4⟩ := C.ex
  refine (pe_callQ (h4.q.mono hj) hr hgd h1 h2.kp h3 ha hg hdb he hpl).imp fun σ H Q ⟨H0, F1, δ, g, d, g', w, o, q⟩ => ?_
  obtain ⟨ds, g1, o1, o⟩ := ok_bind.mp o
  obtain ⟨d1, g2, o2, o⟩ := ok_bind.mp o
  split at o
  · rename_i hi
    obtain ⟨rfl, rfl⟩ := ok_pure.mp o
    refine ⟨H0, F1, δ, g, ds, g1, w, o1, fun vs F1 H1 s1 r1 => ⟨by rw [r1.length, ← List.length_map (f := unB)]; exact h4.ar _ _ _ _ o2, ga, bo, un F1 bo, _, g1, d1, g2, un_le s1.le s1.gen.bo, GenOk.unB (c := ⟨X.K, X.mg, ga, bo, X.prog, X.w⟩) s1.gen, unB_rep (c := ⟨X.K, X.mg, ga, bo, X.prog, X.w⟩) s1.le s1.gen.bo r1, o2, fun v F2 H2 s2 r2 => ?_⟩⟩
    exact q v F1 H2 (s1.trans (Stp.unB (c := ⟨X.K, X.mg, ga, bo, X.prog, X.w⟩) s1.gen s1.le s2)) (imm_any hi r2)
  · exact absurd o not_ok_stuck
/-- f(k = v, ..), as dcI -/
def eCallIK (Fs : List D → M D) (ix : List Nat) (fs : Es) : E := fun δ => fs δ >>= fun ds => Fs (pick ix (ds.map unB)) >>= fun d => if d.imm then pure d else stuck
theorem dcIK0 {ix : List Nat} (C : Cal X.prog X.w X.K X.mg X.base j x st ps Fs) (hr : Room k X.A) (hgd : X.A.guards = some []) (hkw : KwOk x st ps ks 0 ix) (hks : PK X kws (tAs ⟨X.K, X.mg, ga, bo, X.prog, X.w⟩ gs)) (hn2 : EsN ks.length gs) (hj : j ≤ k := by decide)
    (hg : Gl X x := by rfl) (hall : (backToKw pos (keywordEach kws X.env)).all (·.1.isSome) = true := by rfl) (hke : (backToKw pos (keywordEach kws X.env)).filterMap (·.1) = ks := by rfl)
    (hdb : (x == ("__debug__" : Str)) = false := by decide) (hpl : ((backTo pos (starEach [] X.env)).any (·.1) || (backToKw pos (keywordEach kws X.env)).any (·.1.isNone)) = false := by rfl) :
    PE X (.Call (.Name x p) [] kws pos) (tP ⟨X.K, X.mg, ga, bo, X.prog, X.w⟩ (eCallIK Fs ix gs)) := by
  obtain ⟨f, fd, h1, h2, h3, h4⟩ := C.ex
  refine (pe_callQK0 (h4.q.mono hj) hr hgd h1 h2.kp (kwB_of h2 hkw) hks hg hall hke hdb hpl).imp fun σ H Q ⟨H0, F1, δ, g, d, g', w, o, q⟩ => ?_
  obtain ⟨ds, g1, o1, o⟩ := ok_bind.mp o
  obtain ⟨d1, g2, o2, o⟩ := ok_bind.mp o
  split at o
  · rename_i hi
    obtain ⟨rfl, rfl⟩ := ok_pure.mp o
    refine ⟨H0, F1, δ, g, ds, g1, w, o1, fun vs F1 H1 s1 r1 => ⟨by rw [r1.length]; exact hn2 _ _ _ _ o1, ga, bo, un F1 bo, _, g1, d1, g2, un_le s1.le s1.gen.bo, GenOk.unB (c := ⟨X.K, X.mg, ga, bo, X.prog, X.w⟩) s1.gen, pick_rep (unB_rep (c := ⟨X.K, X.mg, ga, bo, X.prog, X.w⟩) s1.le s1.gen.bo r1), o2, fun v F2 H2 s2 r2 => ?_⟩⟩
    exact q v F1 H2 (s1.trans (Stp.unB (c := ⟨X.K, X.mg, ga, bo, X.prog, X.w⟩) s1.gen s1.le s2)) (imm_any hi r2)
  · exact absurd o not_ok_stuck
end
theorem FnG.stuck {P : Program} {w : World} {K : PySem.W.Frag} {mg : Str → Option Value} {base : Heap} {k : Nat} {f : Addr} {fd : FuncData} {ps : List Str} : FnG P w K mg base k f fd ps (fun _ => stuck) :=
  ⟨⟨fun A outer s H args us vs Q hr hg he hb hv hl ⟨ga, bo, F, ds, g, d, g', s', gn, r, o, q⟩ => absurd o not_ok_stuck⟩, fun ds g d g' o => absurd o not_ok_stuck⟩
/-- the promise of what is new: all that the outcome is made of was not there before -/
def spN (P : Program) (w : World) (K : PySem.W.Frag) (mg : Str → Option Value) (Fs : List D → M D) (vs : List V) (H : Hp) (Q : VK) : Prop := ∃ (ga : Option Addr) (bo : Hp) (F : Hp) (ds : List D) (g : Gs) (d : D) (g' : Gs), Same F H ∧ GenOk ⟨K, mg, ga, bo, P, w⟩ F H g ∧ RepAll ⟨K, mg, ga, bo, P, w⟩ F vs ds ∧ nbs ds = true ∧ Ok (Fs (ds.map wrapB)) g d g' ∧ d.nb = true ∧
  ∀ v F' H', Stp ⟨K, mg, ga, F, P, w⟩ (fun _ => none) H F' H' g' → Rep ⟨K, mg, ga, bo, P, w⟩ F' v d → Q v H'
theorem wrap_all {c c' : C} {F : Hp} (h1 : c'.mg = c.mg) (h2 : c'.ga = c.ga) (h3 : c'.bo = F) (h4 : c'.prog = c.prog) (h5 : c'.w = c.w) : ∀ {vs : List V} {ds : List D}, RepAll c F vs ds → nbs ds = true → RepAll c' (fun _ => none) vs (ds.map wrapB)
  | _, _, .nil, _ => .nil
  | _, _, .cons (d := d) r t, n => by
    simp only [nbs, Bool.and_eq_true] at n
    refine .cons ?_ (wrap_all h1 h2 h3 h4 h5 t n.2)
    have r' := Rep.re h1 h2 h4 h5 d _ n.1 r
    unfold wrapB
    split
    · rename_i h
      exact imm_any h r'
    · exact .bor (by rw [h3]; exact r')
theorem FnG.new {P : Program} {w : World} {K : PySem.W.Frag} {mg : Str → Option Value} {base : Heap} {k : Nat} {f : Addr} {fd : FuncData} {ps : List Str} {Fs : List D → M D} (G : FnG P w K mg base k f fd ps Fs) : FnQ P w K mg base k f fd ps (spN P w K mg Fs) :=
  G.q.imp fun vs H Q hl ⟨ga, bo, F, ds, g, d, g', s, gn, r, n, o, nd, q⟩ => ⟨ga, F, fun _ => none, ds.map wrapB, g, d, g', fun a o e => (by cases e), ⟨fun a m => ⟨rfl, (gn.gen a m).2⟩, s, fun a m => (gn.gen a m).1⟩, wrap_all (c := ⟨K, mg, ga, bo, P, w⟩) (c' := ⟨K, mg, ga, F, P, w⟩) rfl rfl rfl rfl rfl r n, o,
    fun v F' H' s' r' => q v F' H' s' (Rep.re (c := ⟨K, mg, ga, F, P, w⟩) (c' := ⟨K, mg, ga, bo, P, w⟩) rfl rfl rfl rfl d v nd r')⟩
end DL

/-! ## DEsc -/
set_option Elab.async false
set_option autoImplicit false
set_option linter.all false
set_option maxRecDepth 100000
set_option maxHeartbeats 2000000
/-! DEsc: an own error class whose __init__(self, value) says super().__init__(value); self.value = value. -/
namespace PySem
namespace EscX
open PySem.W PySem.Calls PyProof.Rows PySem.HandSPX
/-! ### the text of __init__ -/
def iA : Arguments := { posonlyargs := [], args := [{ arg := "self", annotation := none, pos := ⟨4, 17, 4, 21⟩ }, { arg := "value", annotation := none, pos := ⟨4, 23, 4, 28⟩ }], vararg := none, kwonlyargs := [], kw_defaults := [], kwarg := none, defaults := [] }
def iB : List Stmt := [.Expr (.Call (.Attribute (.Call (.Name "super" ⟨5, 8, 5, 13⟩) [] [] ⟨5, 8, 5, 15⟩) "__init__" ⟨5, 8, 5, 24⟩) [.Name "value" ⟨5, 25, 5, 30⟩] [] ⟨5, 8, 5, 31⟩) ⟨5, 8, 5, 31⟩, .Assign [.Attribute (.Name "self" ⟨6, 8, 6, 12⟩) "value" ⟨6, 8, 6, 18⟩] (.Name "value" ⟨6, 21, 6, 26⟩) ⟨6, 8, 6, 26⟩]
def iS : Scope := { kind := .function, names := [(PySem.Str.ofString "self", .local), (PySem.Str.ofString "value", .local), (PySem.Str.ofString "__class__", .free), (PySem.Str.ofString "super", .globalImplicit)], isGenerator := false, isCoroutine := false, more := [] }
/-- what the written part says of __init__ at fI, of the class D in whose text it stands -/
structure EscI (prog : Program) (K : Frag) (mg : Str → Option Value) (D fI : Addr) : Prop where
  tI : typeIn K (.ref fI) = some (.type "function")
  sup : mg "super" = none
  clD : ∃ cd, clsIn K D = some cd
  op : nsIn K cStatics "thirdparty.any" = some none
  top : (prog.main.scope.names.lookup ("super" : Str)).isSome = false
  fn : ∃ (oc : Value) (od : Option Addr) (doc pm : Value) (an : Option Addr) (cda cc : Addr) (ct : Value) (osl : Array (Option Value)),
    K.lookup fI = some ⟨oc, od, .func (ksFn "__init__" "EscapeError.__init__" iA iB iS .none .none doc pm an (.ref cda) ct cc), osl⟩ ∧ codeIn K (.ref cda) "EscapeError.__init__" = true ∧
    (∃ (ccl : Value) (cdd : Option Addr) (vs : Array Value) (ccs : Array (Option Value)) (file : Str) (tf : Tok), K.lookup cda = some ⟨ccl, cdd, .fields vs, ccs⟩ ∧ vs[2]? = some (.str file tf) ∧ ((prog.main.file : Str) == file) = true) ∧
    (∃ (cl : Value) (cld : Option Addr) (csl : Array (Option Value)), K.lookup cc = some ⟨cl, cld, .cell (some (.ref D)), csl⟩)
/-- what the written part says of the class at C -/
structure EscC (K : Frag) (D fI C : Addr) : Prop where
  cls : ∃ nm q N bs bm sn sub ab col dd k0 k1 k2 k3 k5, K.lookup C = some (excClassObj nm q C N bs bm true sn sub ab col dd k0 k1 k2 k3 k5 "ValueError.__new__") ∧ refsVE bm = true
  sa : findIn K (.ref C) "__setattr__" = some (some (.builtin "object.__setattr__"))
  ga : findIn K (.ref C) "__getattribute__" = some (some (.builtin "BaseException.__getattribute__"))
  gg : findIn K (.ref C) "__getattr__" = some none
  noN : findIn K (.ref C) "value" = some none
  iC : findIn K (.ref C) "__init__" = some (some (.ref fI))
  kC : keepIn K (.ref C) = true
  exC : subIn K (.ref C) (.type "BaseException") = some true
  veC : subIn K (.ref C) (.type "ValueError") = some true
  tyC : typeIn K (.ref C) = some (.type "type")
  hdC : hasDictIn K C = true
  sub : mroIn K C (.ref D) = some true
  sup : ks_superIn K C D "__init__" = some (some (.builtin "ValueError.__init__"))
theorem one_size (v : Value) : [v].length ≤ sizeLine := by
  rw [sizeLine_eq]
  exact (by decide : 1 ≤ 16777216)
/-- what __init__ leaves of a fresh exception at x -/
structure InitEnd (h h' : Heap) (x C dx t1 : Addr) (v : Value) : Prop where
  keep : ∀ b o, b ≠ x → h.get? b = some o → h'.get? b = some o
  obj : h'.get? x = some { cls := .ref C, dict := some dx, data := .fields #[.ref t1, .none, .none, .none, .bool false, .none] }
  dbig : h.objs.size ≤ dx
  dne : dx ≠ x
  ns : h'.Ns1 dx (fun y => if y = "value" then some v else none)
structure OwnMade (h h' : Heap) (e C d : Addr) (v : Value) : Prop where
  keep : ∀ b o, h.get? b = some o → h'.get? b = some o
  new : h.objs.size ≤ e
  obj : ∃ t1 : Addr, h'.get? e = some { cls := .ref C, dict := some d, data := .fields #[.ref t1, .none, .none, .none, .bool false, .none] }
  dbig : h.objs.size ≤ d
  dne : d ≠ e
  ns : h'.Ns1 d (fun y => if y = "value" then some v else none)
section
variable {prog : Program} {w : World} {A : Around} {E : Value → Shared → Prop} {R : Result → Shared → Prop} {s : Shared} {K : Frag} {mg mb : Str → Option Value} {C D fI : Addr}
theorem esc_init (TI : EscI prog K mg D fI) (T : EscC K D fI C) {x t0 : Addr} {v : Value} (X : K.In s.heap) (hg : s.heap.Ns mainGlobals mg) (hb : s.heap.Ns builtinsNs mb) (boot : ∀ y : Str, y ≠ "__name__" → mb y = bootBuiltins y) (hlim : s.heap.NoLimit)
    (hx : s.heap.get? x = some (excO C t0)) (hnx : K.lookup x = none) (hroom : A.depth < recursionLimit) (hq : ∀ h' tk dx t1, InitEnd s.heap h' x C dx t1 v → R (.ok (.ret .none)) { s with heap := h', toks := tk }) :
    codeAny (model prog w) A (.call (.ref fI) ⟨[.ref x, v], []⟩) R s := by
  obtain ⟨oc, od, doc, pm, an, cda, cc, ct, osl, ho, hcd, ⟨ccl, cdd, vs, ccs, file, tf, hcode, hvs, hfile⟩, ⟨cl, cld, csl, hcell⟩⟩ := TI.fn
  obtain ⟨nm, q, N, bs, bm, sn, sub, ab, col, dd, k0, k1, k2, k3, k5, hC, hbm⟩ := T.cls
  obtain ⟨cdD, hclD⟩ := TI.clD
  have hcl : clsIn K C = some { name := nm, bases := bs, mro := .ref C :: bm, ns := N, qualname := q, hasDict := true, slotNames := sn, subclasses := sub, abstract := ab, collection := col, hasDel := false } := by unfold clsIn; rw [hC] <;> rfl
  refine ks_codeAny_call_defAt (fd := ksFn "__init__" "EscapeError.__init__" iA iB iS .none .none doc pm an (.ref cda) ct cc) (body := iB) (binds := [("self", .ref x), ("value", v)]) hroom (X _ _ ho) rfl hlim (codeRec_of X hcd) rfl
    (BindsTo.of_eq (by first | rfl | with_unfolding_all rfl)) (show ∀ y ∈ iS.names, y.2 ≠ .cell by decide) (fun y hy => ?_) (fun h₁ hn k => ?_) rfl rfl rfl
  · have e : y = (PySem.Str.ofString "self", .ref x) ∨ y = (PySem.Str.ofString "value", v) := by simpa using hy
    rcases e with rfl | rfl
    · rfl
    · rfl
  have X₁ : K.In h₁ := X.keeps k
  have hx₁ := k _ _ hx
  have hxL : s.heap.objs.size ≠ x := Nat.ne_of_gt (Heap.lt_size hx)
  obtain ⟨oD, hD1, hD2⟩ : ∃ oD, h₁.get? D = some oD ∧ oD.data = .cls cdD := by
    unfold clsIn at hclD
    split at hclD
    · rename_i c d cd' sl ho'
      cases hclD
      exact ⟨_, X₁ _ _ ho', rfl⟩
    · cases hclD
  have hv1 : ([(PySem.Str.ofString "self", Value.ref x), (PySem.Str.ofString "value", v)] : List (Str × Value)).reverse.lookup (PySem.Str.ofString "self") = some (Value.ref x) := by rfl
  have hv2 : ([(PySem.Str.ofString "self", Value.ref x), (PySem.Str.ofString "value", v)] : List (Str × Value)).reverse.lookup (PySem.Str.ofString "value") = some v := by rfl
  have hks : iS.names.lookup ("super" : Str) = some .globalImplicit := by rfl
  have hkc : iS.names.lookup ("__class__" : Str) = some .free := by rfl
  have hka : iS.names.lookup ("self" : Str) = some .local := by rfl
  have hkv : iS.names.lookup ("value" : Str) = some .local := by rfl
  show wpAt _ _ (.func iB (ksEnv "EscapeError.__init__" iS s.heap.objs.size fI (.ref cda) cc)) (execs iB (ksEnv "EscapeError.__init__" iS s.heap.objs.size fI (.ref cda) cc)) _ _ _
  refine ks_wpAt_execs_cons (ks_wpAt_Expr_any (ks_wpAt_MethodCall ?_))
  refine ks_wpAt_super_base (env := ksEnv "EscapeError.__init__" iS s.heap.objs.size fI (.ref cda) cc) hks hkc (by decide) rfl (X₁ _ _ ho) rfl (by rfl) rfl (X₁ _ _ hcode) rfl hvs hfile TI.top ?_
  refine ks_loadName_global rfl hks (loadGlobal_builtin (env := ksEnv "EscapeError.__init__" iS s.heap.objs.size fI (.ref cda) cc) (hg.keeps k) TI.sup (hb.keeps k) ((boot _ (by decide)).trans (by decide +kernel)) ⟨rfl, ?_⟩)
  refine wpAny_loadName_free rfl hkc rfl ⟨_, X₁ _ _ hcell, rfl⟩ ?_
  refine wpAny_loadName_local rfl hka hn hv1 ?_
  refine ks_wpAny_isType_cls hD1 hD2 ⟨rfl, ?_⟩
  refine ks_wpAny_call_super hD1 hD2 hx₁ rfl (fun c e => by cases e) (looks_mroIn X₁ T.sub) (fun h2 e2 k2 => ?_)
  have X2 : K.In h2 := X₁.keeps k2
  have I2 : InstAt h2 x (excO C t0) C none := ⟨k2 _ _ hx₁, rfl, rfl, trivial⟩
  have hsup := T.sup
  unfold ks_superIn at hsup
  rw [hcl] at hsup
  refine kxs_getMethod kxs_ValueError e2 (looks_opaque X2 TI.op) (l₀ := .ref C :: bm) (fun A Q E s k q => wpAny_bind ((looks_clsIn X2 hcl) A _ E s k (wpAny_pure q))) rfl X2 hsup (I2.type.andThen (looks_subIn X2 T.veC)) (ks_ne X2 I2 hcl) (by decide) ?_
  have k3 : ∀ b o, h2.get? b = some o → (h2.push (kxs_mw "ValueError.__init__" x)).get? b = some o := fun b o e => Heap.get?_push_of_some _ e
  have hu : (h2.push (kxs_mw "ValueError.__init__" x)).get? h2.objs.size = some (kxs_mw "ValueError.__init__" x) := Heap.get?_push_at rfl rfl
  have he3 : (h2.push (kxs_mw "ValueError.__init__" x)).get? x = some (excO C t0) := k3 _ _ (k2 _ _ hx₁)
  refine kxs_callWith (i := "ValueError.__init__") (x := x) (by rfl) (evalArgs_plain (spliced_cons (wpAny_Name (wpAny_loadName_local rfl hkv ((hn.keeps k2).keeps k3) hv2 (spliced_nil ⟨hu, ?_⟩)) (by decide))))
  refine wpAny_call (codeAny_of_tree ?_)
  show wpAny _ _ (callAny (.ref h2.objs.size) ⟨[v], []⟩) _ _ _
  simp only [callAny]
  refine wpAny_bind (wpAny_load hu ?_)
  simp only [kxs_mw, show (Value.type "method-wrapper" == Value.type "method" || Value.type "method-wrapper" == Value.type "builtin_function_or_method" || Value.type "method-wrapper" == Value.type "method-wrapper") = true by decide, if_true]
  refine KFB.if_so (by decide) ?_
  refine wpAny_bind (check_bound_init PySem.F.excBase_ValueError.toExcCallFacts (k3 _ _ (X2 _ _ hC)) he3 rfl ?_)
  refine wpAny_bind (wpAny_pure (wpAny_pure ?_))
  refine ⟨plainId_quiet PySem.F.excBase_ValueError.init.plain _, codeAny_builtin PySem.F.excBase_ValueError.initEntry ?_⟩
  refine exc_init_tree (cls := .ref C) (t0 := t0) (dv := none) (c2 := .none) (c3 := .none) (b4 := .bool false) he3 (one_size v) (fun h4 k4 hx4 _ => ?_)
  -- self.value = value
  have hL4 : ∀ o, h₁.get? s.heap.objs.size = some o → h4.get? s.heap.objs.size = some o := fun o e => k4 _ _ hxL (k3 _ _ (k2 _ _ e))
  have hn4 := hn.at hL4
  have X4 : K.In h4 := fun a o e => k4 a o (fun z => by rw [z, hnx] at e; cases e) (k3 _ _ (X2 _ _ e))
  refine ks_wpAt_execs_cons (wpAt_of_wpAny (plainObj_wpAny_Assign_Attribute ?_))
  refine wpAny_Name (wpAny_loadName_local rfl hkv hn4 hv2 (wpAny_Name (wpAny_loadName_local rfl hka hn4 hv1 ?_) (by decide))) (by decide)
  refine set_plain X4 (od := none) ⟨hx4, rfl, rfl, trivial⟩ T.sa ?_
  refine exc_osa X4 hx4 hcl (show refsVE (.ref C :: bm) = true from hbm) rfl T.noN (fun h5 tk5 dx k5 dn dne hx5 hn5 => ?_)
  refine wpAt_of_wpAny (wpAny_execs_nil (hq h5 tk5 dx _ ⟨fun b o hb e => k5 b o hb (k4 b o hb (k3 _ _ (k2 _ _ (k _ _ e)))), hx5, ?_, dne, hn5⟩))
  exact Nat.le_of_lt (Nat.lt_of_lt_of_le hn4.lt dn)
theorem esc_made (TI : EscI prog K mg D fI) (T : EscC K D fI C) {v : Value} (X : K.In s.heap) (hg : s.heap.Ns mainGlobals mg) (hb : s.heap.Ns builtinsNs mb) (boot : ∀ y : Str, y ≠ "__name__" → mb y = bootBuiltins y) (hlim : s.heap.NoLimit) (hroom : A.depth + 1 < recursionLimit)
    (hq : ∀ h' tk e d, OwnMade s.heap h' e C d v → R (.ok (.ret (.ref e))) { s with heap := h', toks := tk }) :
    codeAny (model prog w) A (.call (.ref C) ⟨[v], []⟩) R s := by
  obtain ⟨nm, q, N, bs, bm, sn, sub, ab, col, dd, k0, k1, k2, k3, k5, hC, hbm⟩ := T.cls
  obtain ⟨hp, g, dr, tk, os⟩ := s
  have k : ∀ b o, hp.get? b = some o → ((hp.push (kdv_tup [v])).push (excO C hp.objs.size)).get? b = some o := fun b o e => Heap.get?_push_of_some _ (Heap.get?_push_of_some _ e)
  have hget : ((hp.push (kdv_tup [v])).push (excO C hp.objs.size)).get? (hp.objs.size + 1) = some (excO C hp.objs.size) := by heap_get
  have hnx : K.lookup (hp.objs.size + 1) = none := by
    cases e : K.lookup (hp.objs.size + 1) with
    | none => rfl
    | some o =>
      have z : hp.get? (hp.objs.size + 1) = some o := X _ _ e
      exact absurd (Nat.lt_of_succ_lt (Heap.lt_size z)) (Nat.lt_irrefl _)
  refine call_own F.excBase_ValueError (fun X => refsVE_contains X bm hbm) (X _ _ hC) (looks_findIn X T.iC) (fun self => bind_fn X self TI.tI) (one_size v) ?_
  refine esc_init (s := ⟨(hp.push (kdv_tup [v])).push (excO C hp.objs.size), g, dr, tk, os⟩) TI T (X.keeps k) (hg.keeps k) (hb.keeps k) boot (hlim.keeps k) hget hnx ?_ fun h' tk' dx t1 ⟨k', hx, dn, dne, hns⟩ => ?_
  · show A.depth + 1 < recursionLimit
    exact hroom
  · have old : ∀ b o, hp.get? b = some o → h'.get? b = some o := fun b o e => k' b o (Nat.ne_of_lt (Nat.lt_succ_of_lt (Heap.lt_size e))) (k b o e)
    have z : hp.objs.size + 1 + 1 ≤ dx := by
      first
        | (simpa only [Heap.size_push] using dn)
        | exact dn
        | (have q := dn; rw [Heap.size_push, Heap.size_push] at q; exact q)
    exact ⟨rfl, hq h' tk' (hp.objs.size + 1) dx ⟨old, Nat.le_succ _, ⟨_, hx⟩, Nat.le_trans (Nat.le_trans (Nat.le_succ _) (Nat.le_succ _)) z, dne, hns⟩⟩
end
end EscX
end PySem

/-! ## DExc -/
set_option Elab.async false
set_option autoImplicit false
set_option linter.all false
set_option maxRecDepth 100000
set_option maxHeartbeats 4000000
/-! DExc: raise, calls that may raise, try .. except, what is caught, by plain data. -/
namespace DL
open PySem PySem.Spec PyProof.Rows L2
abbrev valueS : Str := PySem.Str.ofString "value"
/-- an own error class, by its name -/
structure ErrC (P : Program) (K : PySem.W.Frag) (mg : Str → Option Value) (x : Str) (C : Addr) : Prop where
  gC : mg x = some (.ref C)
  txt : ∃ D fI, PySem.EscX.EscI P K mg D fI ∧ PySem.EscX.EscC K D fI C
theorem relO_value {v : V} {v' : Value} (r : RelV v v') (f : Str) : RelO (List.lookup f [(valueS, v)]) (if f = "value" then some v' else none) := by
  by_cases hw : f = valueS
  · subst hw
    rw [if_pos rfl]
    have q : List.lookup valueS [(valueS, v)] = some v := by simp [List.lookup]
    rw [q]
    exact r
  · rw [if_neg hw]
    have qw : (f == valueS) = false := by simpa using hw
    have q2 : List.lookup f [(valueS, v)] = none := by simp [List.lookup, qw]
    rw [q2]
    trivial
section
variable {X : Cx} {x : Str} {C : Addr}
/-- X(e) -/
def tMkE (C : Addr) (ta : TA) : L2.St → Hp → XK → Prop := fun σ H Q => ta σ H fun vs H1 => ∃ v, vs = [v] ∧ ∀ d, H1 d = none → Q (.ref C) (some d) (upd H1 d (.xd [(valueS, v)]))
theorem pmk_esc {a : Expr} {ta : TA} {p pos : Pos} {k : Nat} (T : ErrC X.prog X.K X.mg x C) (hr : Room k X.A) (ha : PA X [a] ta) (hg : Gl X x) (hdb : (x == ("__debug__" : Str)) = false)
    (he : starEach (a :: []) X.env = (false, eval a X.env) :: starEach [] X.env := by rfl) (hpl : (backTo pos (starEach [] X.env)).any (·.1) = false := by rfl) :
    PMk X (.Call (.Name x p) [a] [] pos) (tMkE C ta) := by
  intro pins s σ H Q I h
  obtain ⟨D, fI, TI, TC⟩ := T.txt
  refine wpAny_Call_Name_kw (ld_glob I hg T.gC ?_ hdb)
  refine PySem.W.callWith_K (h₀ := X.base) I.ok.mod.kin TC.kC (thn (ha.run pos pins s σ H _ I h) fun us s1 hh => ?_) he hpl
  obtain ⟨vs, H1, I1, r1, v, ev, q1⟩ := hh
  subst ev
  refine ⟨I1.kIn, ?_⟩
  cases r1 with
  | cons rv rn =>
    rename_i v' us'
    cases rn
    show wpAny _ _ (call (.ref C) [v']) _ _ _
    have hlim := I1.nolimit
    have kin := I1.kIn
    have bk := I1.bk
    obtain ⟨mb, bns, boot⟩ := I1.ok.mod.blt
    have glob := I1.ok.mod.glob
    obtain ⟨hp, g, dr, tk, os⟩ := s1
    refine wpAny_call (PySem.EscX.esc_made TI TC kin (glob.keeps bk) (bns.keeps bk) boot hlim (by have := hr.dp; omega) fun h' tk' e d M => ?_)
    show MkP X pins σ Q (.ref e) ⟨h', g, dr, tk', os⟩
    obtain ⟨t1, hoe⟩ := M.obj
    have hns := M.ns
    obtain ⟨G', g1, g2⟩ := restrict h' fun b => decide (b ≠ e)
    have gk : ∀ b, b ≠ e → G'.get? b = h'.get? b := fun b hb => g1 b (decide_eq_true hb)
    have ge : G'.get? e = none := g2 e (by simp)
    have old : ∀ b o, hp.get? b = some o → G'.get? b = some o := fun b o q => (gk b (Nat.ne_of_lt (Nat.lt_of_lt_of_le (Heap.lt_size q) M.new))).trans (M.keep b o q)
    have ob : ObjOk X.prog X.w (upd H1 d (.xd [(valueS, v)])) G' d (.xd [(valueS, v)]) :=
      ⟨_, hns.at (fun o q => (gk d M.dne).trans q), fun f => relO_value rv f⟩
    have J : Inv X pins σ (upd H1 d (.xd [(valueS, v)])) ⟨G', g, dr, tk', os⟩ := I1.laid (t' := tk') old M.dbig ob
    refine ⟨e, _, _, ⟨G', g, dr, tk', os⟩, _, .ref C, some d, rfl, J, fun b o q => ?_, ge, hoe, ⟨rfl, rfl⟩, rfl, rfl, ?_, rfl, I1.bare, raises_own TC.exC TC.tyC, q1 d (I1.hok.fresh M.dbig)⟩
    · by_cases hb : b = e
      · have q' : G'.get? b = some o := q
        rw [hb, ge] at q'; cases q'
      · exact (gk b hb).symm.trans q
    · rw [upd_ne (Ne.symm M.dne)]
      exact I1.hok.fresh M.new
end

/-! ### a def that may raise -/
/-- x(e) is raised: told as an end of its own -/
def sThr (x : Str) (f : E) : S := fun δ => f δ >>= fun d => pure (.rt (.thr x d))
def D.isThr : D → Bool
  | .thr _ _ => true
  | _ => false
/-- a call whose outcome is let fall, or that raises -/
def sDoX (Fs : List D → M D) (fs : Es) : S := fun δ => fs δ >>= fun ds => Fs ds >>= fun d => if d.isThr then pure (.rt d) else pure (.nx δ)
/-- what is wanted where x(e) is raised -/
def RaisedAt (c : C) (F0 H0 : Hp) (g : Gs) (x : Str) (e : D) (W : Value → Option Addr → Hp → Prop) : Prop :=
  ∀ C dd u F' H', c.mg x = some (.ref C) → Stp c F0 H0 F' H' g → F' dd = some (.xd [(valueS, u)]) → Rep c F' u e → W (.ref C) (some dd) H'
/-- a statement that may raise -/
def tSB (c : C) (W : Value → Option Addr → Hp → Prop) (s : S) : TS := fun D σ H => ∃ F0 H0 F δ g r g', Wd c H0 F H σ δ g ∧ Stp c F0 H0 F H g ∧ Ok (s δ) g r g' ∧ match r with
  | .nx δ' => ∀ σ' F' H', Wd c H0 F' H' σ' δ' g' → Stp c F0 H0 F' H' g' → Same F F' → D.nx σ' H'
  | .rt d => (∀ v F' H', Stp c F0 H0 F' H' g' → Rep c F' v d → D.rt v H') ∧ ∀ x e, d = .thr x e → RaisedAt c F0 H0 g' x e W
  | .bk δ' => ∀ σ' F' H', Wd c H0 F' H' σ' δ' g' → Stp c F0 H0 F' H' g' → Same F F' → D.bk σ' H'
  | .ct δ' => ∀ σ' F' H', Wd c H0 F' H' σ' δ' g' → Stp c F0 H0 F' H' g' → Same F F' → D.ct σ' H'
theorem tSB_tS {c : C} {W : Value → Option Addr → Hp → Prop} {s : S} : ∀ D σ H, tSB c W s D σ H → tS c s D σ H := fun D σ H ⟨F0, H0, F, δ, g, r, g', w, sp, o, q⟩ => by
  refine ⟨F0, H0, F, δ, g, r, g', w, sp, o, ?_⟩
  cases r with
  | rt d => exact q.1
  | nx _ => exact q
  | bk _ => exact q
  | ct _ => exact q
/-- a call's promise, raising or not -/
def spB (P : Program) (w : World) (K : PySem.W.Frag) (mg : Str → Option Value) (Fs : List D → M D) (vs : List V) (H : Hp) (Q : VK) (E : XK) : Prop := ∃ (ga : Option Addr) (bo : Hp) (F : Hp) (ds : List D) (g : Gs) (d : D) (g' : Gs), Same F H ∧ GenOk ⟨K, mg, ga, bo, P, w⟩ F H g ∧ RepAll ⟨K, mg, ga, bo, P, w⟩ F vs ds ∧ Ok (Fs ds) g d g' ∧
  (∀ v F' H', Stp ⟨K, mg, ga, bo, P, w⟩ F H F' H' g' → Rep ⟨K, mg, ga, bo, P, w⟩ F' v d → Q v H') ∧ ∀ x e, d = .thr x e → RaisedAt ⟨K, mg, ga, bo, P, w⟩ F H g' x e E
structure FnB (P : Program) (w : World) (K : PySem.W.Frag) (mg : Str → Option Value) (base : Heap) (k : Nat) (f : Addr) (fd : FuncData) (ps : List Str) (Fs : List D → M D) : Prop where
  run : ∀ (A : Around) (outer : List Env) (s : Shared) (H : Hp) (args : Args) (us : List Value) (vs : List V) (Q : VK) (E : XK), Room k A → A.guards = some [] → Env0 P w K mg base A outer s H → BindsTo s fd args (ps.zip us) → Vals vs us → vs.length = ps.length → spB P w K mg Fs vs H Q E →
    codeAny (model P w) A (.call (.ref f) args) (CR (L2.CX P w) outer P w H s Q E) s
  ar : ∀ ds g d g', Ok (Fs ds) g d g' → ds.length = ps.length
section
variable {P : Program} {w : World} {K : PySem.W.Frag} {mg : Str → Option Value} {base : Heap} {k : Nat} {f : Addr} {fd : FuncData} {ps : List Str}
theorem FnB.mono {j : Nat} {Fs : List D → M D} (F : FnB P w K mg base j f fd ps Fs) (h : j ≤ k) : FnB P w K mg base k f fd ps Fs := ⟨fun A outer s H args us vs Q E hr => F.run A outer s H args us vs Q E (hr.mono h), F.ar⟩
theorem fnB_of {x qual : Str} {st : Stmt} {N : List Str} {s : S} (F : Fun K x qual st f fd) (S : FnScope N ps (defScope st)) (hN : ps.length ≤ N.length := by decide)
    (hbody : ∀ (cdv : Value) (A : Around) (outer : List Env) (sh : Shared) (H : Hp) (ga : Option Addr) (bo : Hp) (E : XK), Room k (A.deeper (envOfC qual (defScope st) sh.heap.objs.size f cdv)) → (A.deeper (envOfC qual (defScope st) sh.heap.objs.size f cdv)).guards = some [] →
      Takes (cxOf (L2.CX P w) P w K mg base N qual (defScope st) f cdv A outer sh H E) (fun cls d _ H => E cls d H) →
      PSs (cxOf (L2.CX P w) P w K mg base N qual (defScope st) f cdv A outer sh H E) (defBody st) (tSB ⟨K, mg, ga, bo, P, w⟩ E s)) : FnB P w K mg base (k + 1) f fd ps (fn N.length ps.length s) := by
  obtain ⟨oc, od, kV, doc, pm, an, cdv, ct, osl, rfl, lk, hcd⟩ := F.ex
  refine ⟨fun A outer s H args us vs Q E hr hgd e0 hb r hl ⟨ga, bo, F1, ds, g, d, g', le, gen, ra, o, q1, q2⟩ => ?_, fun ds g d g' o => fn_ar o⟩
  have h1 := hbody cdv A outer s H ga bo E (hr.deeper _) hgd (takes_of (E := E) rfl rfl rfl rfl)
  have hd : ds.length = ps.length := by rw [← ra.length]; exact hl
  unfold fn at o
  rw [if_pos hd] at o
  obtain ⟨fl, g1, o1, o2⟩ := ok_bind.mp o
  have w0 := start_wd (N := N) le gen ra (by rw [hd]; exact hN)
  have h2 : tSB ⟨K, mg, ga, bo, P, w⟩ E _ { nx := fun _ H' => Q .non H', rt := Q } (start N vs) H := ⟨F1, H, F1, _, g, fl, g1, w0, .refl le gen, o1, by
    cases fl with
    | nx δ' =>
      obtain ⟨rfl, rfl⟩ := ok_pure.mp o2
      exact fun σ' F' H' w' sp' _ => q1 .non F' H' sp' .non
    | rt d' =>
      obtain ⟨rfl, rfl⟩ := ok_pure.mp o2
      exact ⟨q1, q2⟩
    | bk δ' => exact absurd o2 not_ok_stuck
    | ct δ' => exact absurd o2 not_ok_stuck⟩
  have KX : K.In s.heap := e0.mod.kin.keeps fun b o e => (e0.bs b o e).1
  have hkind : ∀ y ∈ ps.zip us, (defScope st).names.lookup y.1 = some .local ∨ ((defScope st).names.lookup y.1 = some .cell ∧ ((cellsFrom (s.heap.objs.size + 1) (defScope st).names []).lookup y.1).isSome = true) := by
    rintro ⟨n, v⟩ hy
    rcases S.par n (List.of_mem_zip hy).1 with q | q
    · exact .inl q
    · exact .inr ⟨q, PySem.W.cellsFrom_some _ _ _ (.inl q)⟩
  refine codeAny_call_function (hroom := hr.depth) (KX _ _ lk) rfl S.co S.gen rfl (PySem.W.codeRec_of KX hcd)
    (hb _ _ _ _ (wpAny_newFunctionEnv_cells S.kind hkind fun env he s1 x => ?_))
  subst he
  refine ⟨(e0.mod.nolimit.keeps fun b o e => (e0.bs b o e).1).keeps x.toInCall.keep, codeAny_func ?_⟩
  have I : Inv (cxOf (L2.CX P w) P w K mg base N qual (defScope st) f cdv A outer s H E) [] (start N vs) H s1 :=
    inv_start S hr.hd e0 hl r x
  refine wpAny_mono (h1.run [] s1 (start N vs) H _ I h2) (fun fl s' hs => ?_) fun e s' hs => hs
  cases fl with
  | ret u =>
    obtain ⟨v, σ', H', J, rv, q⟩ := hs
    exact ⟨v, H', J.os, J.bare, J.base, J.hok, rv, q⟩
  | next =>
    obtain ⟨σ', H', J, q⟩ := hs
    exact ⟨V.non, H', J.os, J.bare, J.base, J.hok, rfl, q⟩
  | brk =>
    obtain ⟨_, _, _, q⟩ := hs
    exact q.elim
  | cont =>
    obtain ⟨_, _, _, q⟩ := hs
    exact q.elim
end
/-- a def that may be called at level k: its function, raising or not -/
structure CalB (P : Program) (w : World) (K : PySem.W.Frag) (mg : Str → Option Value) (base : Heap) (k : Nat) (x : Str) (st : Stmt) (ps : List Str) (Fs : List D → M D) : Prop where
  ex : ∃ (f : Addr) (fd : FuncData), mg x = some (.ref f) ∧ Fun K x x st f fd ∧ Binds K fd ps [] ∧ FnB P w K mg base k f fd ps Fs
theorem At.calB {P : Program} {w : World} {K : PySem.W.Frag} {mg : Str → Option Value} {base : Heap} {k : Nat} {x : Str} {st : Stmt} {ps : List Str} {Fs : List D → M D} (a : At K mg x st ps) (h : ∀ f fd, Fun K x x st f fd → FnB P w K mg base k f fd ps Fs) : CalB P w K mg base k x st ps Fs := by
  obtain ⟨f, fd, h1, h2, h3⟩ := a.ex
  exact ⟨f, fd, h1, h2, h3, h f fd h2⟩
theorem CalB.mono {P : Program} {w : World} {K : PySem.W.Frag} {mg : Str → Option Value} {base : Heap} {j k : Nat} {x : Str} {st : Stmt} {ps : List Str} {Fs : List D → M D} (a : CalB P w K mg base j x st ps Fs) (h : j ≤ k) : CalB P w K mg base k x st ps Fs := by
  obtain ⟨f, fd, h1, h2, h3, h4⟩ := a.ex
  exact ⟨f, fd, h1, h2, h3, h4.mono h⟩
section
variable {X : Cx} {c : C} {W : Value → Option Addr → Hp → Prop} {st : Stmt} {sts xs ys : List Stmt} {s t : S} {e : Expr} {es : List Expr} {f : E} {fs : Es} {pos : Pos}
theorem dsB_of (h : PSs X sts (tS c s)) : PSs X sts (tSB c W s) := h.imp tSB_tS
theorem dB_of (h : PS X st (tS c s)) : PS X st (tSB c W s) := h.imp tSB_tS
theorem dsB_one (h : PS X st (tSB c W s)) : PSs X [st] (tSB c W s) := pss_one h
theorem seqB_imp : ∀ D σ H, tSB c W (sSeq s t) D σ H → tSeq (tSB c W s) (tSB c W t) D σ H := fun D σ H ⟨F0, H0, F, δ, g, r, g', w, sp, o, q⟩ => by
  obtain ⟨r1, g1, o1, o2⟩ := ok_bind.mp o
  refine ⟨F0, H0, F, δ, g, r1, g1, w, sp, o1, ?_⟩
  cases r1 with
  | nx δ1 =>
    intro σ1 F1 H1 w1 sp1 sm1
    refine ⟨F0, H0, F1, δ1, g1, r, g', w1, sp1, o2, ?_⟩
    cases r with
    | nx δ' => exact fun σ' F' H' w' sp' sm' => q σ' F' H' w' sp' (sm1.trans sm')
    | rt d => exact q
    | bk δ' => exact fun σ' F' H' w' sp' sm' => q σ' F' H' w' sp' (sm1.trans sm')
    | ct δ' => exact fun σ' F' H' w' sp' sm' => q σ' F' H' w' sp' (sm1.trans sm')
  | rt d =>
    obtain ⟨rfl, rfl⟩ := ok_pure.mp o2
    exact q
  | bk δ1 =>
    obtain ⟨rfl, rfl⟩ := ok_pure.mp o2
    exact q
  | ct δ1 =>
    obtain ⟨rfl, rfl⟩ := ok_pure.mp o2
    exact q
theorem dsB_cons (h1 : PS X st (tSB c W s)) (h2 : PSs X sts (tSB c W t)) : PSs X (st :: sts) (tSB c W (sSeq s t)) := (pss_cons h1 h2).imp seqB_imp
theorem dB_if {ca : Expr} {fc : E} (hc : PT X ca (tT c fc)) (ha : PSs X xs (tSB c W s)) (hb : PSs X ys (tSB c W t)) : PS X (.If ca xs ys pos) (tSB c W (sIf fc s t)) := (ps_if hc ha hb).imp fun D σ H ⟨F0, H0, F, δ, g, r, g', w, sp, o, q⟩ => by
  obtain ⟨x, g1, o1, o⟩ := ok_bind.mp o
  have fin : ∀ (u : S) F1 H1, Stp c F H F1 H1 g1 → Ok (u δ) g1 r g' → tSB c W u D σ H1 := fun u F1 H1 s1 ou => by
    refine ⟨F0, H0, F1, δ, g1, r, g', w.step s1, sp.trans s1, ou, ?_⟩
    cases r with
    | nx δ' => exact fun σ' F' H' w' sp' sm' => q σ' F' H' w' sp' (s1.sub.trans sm')
    | rt d => exact q
    | bk δ' => exact fun σ' F' H' w' sp' sm' => q σ' F' H' w' sp' (s1.sub.trans sm')
    | ct δ' => exact fun σ' F' H' w' sp' sm' => q σ' F' H' w' sp' (s1.sub.trans sm')
  split at o
  · exact ⟨H0, F, δ, g, true, g1, w, o1, fun F1 H1 s1 => iteT (fin s F1 H1 s1 o)⟩
  · exact ⟨H0, F, δ, g, false, g1, w, o1, fun F1 H1 s1 => iteF (fin t F1 H1 s1 o)⟩
  · exact absurd o not_ok_stuck
/-- raise x(e) -/
theorem dB_raise {k : Nat} {x : Str} {p pos2 : Pos} {C : Addr} {ga : Option Addr} {bo : Hp} (T : ErrC X.prog X.K X.mg x C) (hr : Room k X.A) (tk : Takes X (fun cls d _ H => W cls d H)) (he : PE X e (tP ⟨X.K, X.mg, ga, bo, X.prog, X.w⟩ f)) (hc : X.calm = true := by rfl) (hg : Gl X x := by rfl) (hdb : (x == ("__debug__" : Str)) = false := by decide)
    (hs : starEach (e :: []) X.env = (false, eval e X.env) :: starEach [] X.env := by rfl) (hpl : (backTo pos (starEach [] X.env)).any (·.1) = false := by rfl) :
    PS X (.Raise (some (.Call (.Name x p) [e] [] pos)) none pos2) (tSB ⟨X.K, X.mg, ga, bo, X.prog, X.w⟩ W (sThr x f)) := (ps_raise hc tk (pmk_esc T hr (pa_cons he pa_nil hs) hg hdb hs hpl)).imp fun D σ H ⟨F0, H0, F, δ, g, r, g', w, sp, o, q⟩ => by
  obtain ⟨d, g1, o1, o⟩ := ok_bind.mp o
  obtain ⟨rfl, rfl⟩ := ok_pure.mp o
  refine ⟨H0, F, δ, g, d, g1, w, o1, fun v F1 H1 s1 r1 => ⟨v, rfl, fun dd hd => ?_⟩⟩
  have st := Stp.lay (c := ⟨X.K, X.mg, ga, bo, X.prog, X.w⟩) (o := .xd [(valueS, v)]) s1.le s1.gen hd
  exact q.2 x d rfl C dd v _ _ T.gC ((sp.trans s1).trans st) upd_same (r1.up st.sub)
/-- f(e, ..) as a statement -/
theorem pe_callB' {k : Nat} {g0 : Addr} {fd : FuncData} {ps : List Str} {Fs : List D → M D} {x : Str} {p : Pos} {t : TA} (F : FnB X.prog X.w X.K X.mg X.base k g0 fd ps Fs) (hr : Room k X.A) (hgd : X.A.guards = some []) (hm : X.mg x = some (.ref g0)) (hk : PySem.W.keepIn X.K (.ref g0) = true) (hb : Binds X.K fd ps []) {W' : WX} (tk : Takes X W') (ha : PA X (e :: es) t) (hg : Gl X x := by rfl)
    (hdb : (x == ("__debug__" : Str)) = false := by decide) (he : starEach (e :: es) X.env = (false, eval e X.env) :: starEach es X.env := by rfl) (hpl : (backTo pos (starEach es X.env)).any (·.1) = false := by rfl) :
    PE X (.Call (.Name x p) (e :: es) [] pos) (fun σ H Q => t σ H fun vs H1 => vs.length = ps.length ∧ spB X.prog X.w X.K X.mg Fs vs H1 Q fun cls d H => W' cls d σ H) := by
  refine ⟨fun pins s σ H Q I h => ?_⟩
  refine wpAny_Call_Name_kw (ld_glob I hg hm ?_ hdb)
  refine PySem.W.callWith_K (h₀ := X.base) I.ok.mod.kin hk (thn (ha.run pos pins s σ H _ I h) fun us s1 ⟨vs, H1, I1, r, hl, q⟩ => ⟨I1.kIn, ?_⟩) he hpl
  have b := hb s1 us I1.kIn (by rw [List.append_nil, ← r.length]; exact hl)
  rw [List.append_nil] at b
  refine wpAny_call (codeAny_mono (F.run X.A X.stack s1 H1 ⟨us, []⟩ us vs Q _ hr hgd I1.env0 b r hl q) fun r s' hq => ?_)
  cases r with
  | error er => exact tk _ _ (XE.of_call I1 (fun _ _ _ h => h) hq)
  | ok fl =>
    cases fl with
    | ret u => exact I1.after hq
    | next => exact False.elim hq
    | brk => exact False.elim hq
    | cont => exact False.elim hq
theorem dB_do {j k : Nat} {ps : List Str} {Fs : List D → M D} {x : Str} {st : Stmt} {p p2 : Pos} {ga : Option Addr} {bo : Hp} (C : CalB X.prog X.w X.K X.mg X.base j x st ps Fs) (hr : Room k X.A) (hgd : X.A.guards = some []) (tk : Takes X (fun cls d _ H => W cls d H)) (ha : PA X (e :: es) (tAs ⟨X.K, X.mg, ga, bo, X.prog, X.w⟩ fs)) (hj : j ≤ k := by decide) (hg : Gl X x := by rfl)
    (hdb : (x == ("__debug__" : Str)) = false := by decide) (he : starEach (e :: es) X.env = (false, eval e X.env) :: starEach es X.env := by rfl) (hpl : (backTo pos (starEach es X.env)).any (·.1) = false := by rfl)
    (hs : swapsWith (.Call (.Name x p) (e :: es) [] pos) none p2.line X.env = pure false := by rfl) :
    PS X (.Expr (.Call (.Name x p) (e :: es) [] pos) p2) (tSB ⟨X.K, X.mg, ga, bo, X.prog, X.w⟩ W (sDoX Fs fs)) := by
  obtain ⟨g0, fd, h1, h2, h3, h4⟩ := C.ex
  refine (ps_expr (pe_callB' (h4.mono hj) hr hgd h1 h2.kp h3 tk ha hg hdb he hpl) hs).imp fun D σ H ⟨F0, H0, F, δ, g, r, g', w, sp, o, q⟩ => ?_
  obtain ⟨ds, g1, o1, o⟩ := ok_bind.mp o
  obtain ⟨d, g2, o2, o⟩ := ok_bind.mp o
  refine ⟨H0, F, δ, g, ds, g1, w, o1, fun vs F1 H1 s1 r1 => ⟨by rw [r1.length]; exact h4.ar _ _ _ _ o2, ga, bo, F1, ds, g1, d, g2, s1.le, s1.gen, r1, o2, fun v F2 H2 s2 r2 => ?_, fun x' e' ed => ?_⟩⟩
  · split at o
    · rename_i ht
      cases d <;> first | (cases ht; done) | cases r2
    · obtain ⟨rfl, rfl⟩ := ok_pure.mp o
      exact q σ F2 H2 ((w.step s1).step s2) ((sp.trans s1).trans s2) (s1.sub.trans s2.sub)
  · subst ed
    have o' : Ok (pure (Fl.rt (.thr x' e')) : M Fl) g2 r g' := o
    obtain ⟨rfl, rfl⟩ := ok_pure.mp o'
    exact fun C dd u F' H' m s2 e1 r2 => q.2 x' e' rfl C dd u F' H' m ((sp.trans s1).trans s2) e1 r2
end
end DL

/-! ## DTry -/
set_option Elab.async false
set_option autoImplicit false
set_option linter.all false
set_option maxRecDepth 100000
set_option maxHeartbeats 4000000
/-! DTry: try .. except, what is caught, defs as values, by plain data. -/
namespace DL
open PySem PySem.Spec PyProof.Rows L2
theorem exq_ok {P : Program} {w : World} {H : Hp} {h : Heap} {a C dd : Addr} {oe : Obj} {vs : Array Value} (e : h.get? a = some oe) (z : Zc (.ref C) (some dd) oe) (d : oe.data = .fields vs) : ObjOk P w H h a (exq a C dd) :=
  ⟨⟨oe, vs, e, z, d⟩, ⟨oe, e⟩, fun _ _ ⟨o, v, q, r⟩ k => ⟨o, v, k o q, r⟩⟩
section
variable {X : Cx} {pins : List (Addr × Obj)} {σ : L2.St} {H : Hp} {s : Shared}
/-- an object that is there, and was not at the entry, is tracked from here on -/
theorem track_exq {a C dd : Addr} {oe : Obj} {vs : Array Value} (I : Inv X ((a, oe) :: pins) σ H s) (h0 : X.s_0.heap.get? a = none) (z : Zc (.ref C) (some dd) oe) (d : oe.data = .fields vs) (hp : ∀ p ∈ X.pn ++ pins, p.1 ≠ a) : Inv X pins σ (upd H a (exq a C dd)) s := by
  obtain ⟨e, n, nL, nF, nc⟩ := I.pin (a, oe) (List.mem_append_right _ List.mem_cons_self)
  have ne0 : ∀ b o, X.s_0.heap.get? b = some o → b ≠ a := fun b o q z => by rw [z, h0] at q; cases q
  have neH : ∀ b u, H b = some u → b ≠ a := fun b u q z => by rw [z] at q; rw [show H a = none from n] at q; cases q
  refine ⟨I.ok, I.os, I.bare, ⟨fun b o q n1 hb hx => I.base.keep b o q n1 hb hx, fun b o q n1 hb hx => I.base.slot b o q n1 hb hx, fun b o q n1 hx => by rw [upd_ne (ne0 b o q)]; exact I.base.free b o q n1 hx, I.base.there, fun b xs q => ?_, fun b o u q => ?_, fun b ps q => ?_⟩,
    I.loc, I.cell, by rw [upd_ne (Ne.symm nL)]; exact I.free, fun x c q => ?_, fun p hp' => ?_, fun b u q => ?_, I.len⟩
  · have q' := I.base.tups b xs q
    rw [upd_ne (neH b _ q')]; exact q'
  · have q' := I.base.frzs b o u q
    rw [upd_ne (neH b _ q')]; exact q'
  · obtain ⟨m, q'⟩ := I.base.tbls b ps q
    exact ⟨m, by rw [upd_ne (neH b _ q')]; exact q'⟩
  · have ca : c ≠ a := fun z => by
      obtain ⟨v, o, ho, hd⟩ := I.cell x c q
      rw [z] at ho
      rw [show s.heap.get? a = some oe from e] at ho
      cases ho
      exact nc v hd
    rw [upd_ne ca]; exact I.freeC x c q
  · obtain ⟨q1, q2, q3, q4, q5⟩ := I.pin p (by
      rcases List.mem_append.mp hp' with z | z
      · exact List.mem_append_left _ z
      · exact List.mem_append_right _ (List.mem_cons_of_mem _ z))
    exact ⟨q1, by rw [upd_ne (hp p hp')]; exact q2, q3, q4, q5⟩
  · by_cases hb : b = a
    · subst hb
      rw [upd_same] at q
      cases q
      exact exq_ok e z d
    · rw [upd_ne hb] at q
      refine (I.hok b u q).stay (fun c v hc r => r) (fun c r => ?_) fun c xs r => ?_
      · rw [upd_ne (neH c _ r)]; exact r
      · rw [upd_ne (neH c _ r)]; exact r
end
/-- what 'except x as n: y = n' wishes: slot i is n's, slot j y's -/
def wCau (K : PySem.W.Frag) (cE : Value) (i j : Nat) (D : Ends) : WX := fun cls d σ H => ∃ C dd, cls = .ref C ∧ d = some dd ∧ PySem.W.exmOne K cls cE = some true ∧ ∀ a, H a = none → D.nx ((σ.set i (some (.ref a))).set j (some (.ref a)) |>.set i none) (upd H a (exq a C dd))
section
variable {X : Cx} {x n y : Str} {cE : Value} {i j : Nat} {body : List Stmt} {np p1 p2 p3 pos pos' : Pos} {tb : WX → TS}
theorem ps_try1 (hs : X.stack = X.env :: X.outer) (hf : X.env.frame = some X.env.locals) (hex : X.ex = []) (hN : X.N.Nodup) (hi : X.N[i]? = some n) (hln : X.env.kindOf n = some .local) (hj : X.N[j]? = some y) (hlj : X.env.kindOf y = some .local) (hc : Names X x cE)
    (hb : ∀ (W : WX) (pn : List (Addr × Obj)) (xe : Value → Shared → Prop), Takes (X.tr pn xe) W → PassesOwn (model X.prog X.w) X.A X.env xe → PSs (X.tr pn xe) body (tb W))
    (hd1 : (n == ("__debug__" : Str)) = false := by decide) (hd2 : (n == ("__classdict__" : Str)) = false := by decide) (hsw : swapsWithSole [.Name y p1] (.Name n p2) p3.line X.env = pure false := by rfl) (hw : swappedStores [.Name y p1] (.Name n p2) X.env = pure none := by rfl)
    (h1 : (assignEach [.Name y p1] X.env).map (·.2) = [assign (.Name y p1) X.env] := by rfl) :
    PS X (.Try body [.ExceptHandler (some (.Name x np)) (some n) [.Assign [.Name y p1] (.Name n p2) p3] pos'] [] [] pos) (fun D σ H => tb (wCau X.K cE i j D) D σ H) := by
  refine ⟨fun pins s σ H D I h => ?_⟩
  have ok := I.ok
  have hfr : X.A.frames = some (X.env :: X.outer) := by rw [ok.frames, hs]
  have hloc : Loc X.env.scope n := .inl hln
  refine wpAny_Try_except ?_
  refine wpAny_mono ((hb (wCau X.K cE i j D) (X.pn ++ pins) (fun e s₁ => wpAny (model X.prog X.w) X.A (noteFrame e X.env) (fun _ s₂ => wpAny (model X.prog X.w) X.A (setFlight e none) (fun _ s₃ =>
    wpAny (model X.prog X.w) X.A (handleBy e X.env [.ExceptHandler (some (.Name x np)) (some n) [.Assign [.Name y p1] (.Name n p2) p3] pos']) (SP X pins D) X.xe s₃) X.xe s₂) X.xe s₁) (fun u s' xx => ?_) PassesOwn.looking).run [] s σ H D (I.toTry _) h) (fun f s1 hsp => ?_) (fun e s1 he => he)
  · -- the catch
    obtain ⟨a, B, sI, pins', σ', H', cls, d, rfl, J', nb, up, sky, na, os, ag, C, dd, rfl, rfl, hb1, hyes⟩ := xx
    have J : Inv X pins σ' H' sI := J'.ofTry ok
    have sky' : Sky B (X.env :: X.outer) a (Zc (.ref C) (some dd)) X.env.locals s'.heap := by rw [← hs]; exact sky
    show wpAny (model X.prog X.w) X.A (noteFrame (.ref a) X.env) _ _ _
    refine Sky.land Zc.steady hfr hf sky' fun h3 fl3 up3 => ?_
    have J3 : Inv X pins σ' H' { s' with heap := h3 } := J.landed nb fl3.1 (up.trans up3) os ag
    obtain ⟨oe3, vs3, he3, hz3, hd3⟩ := fl3.there
    have notFr : ∀ {h : Heap} {o : Obj} {vs : Array Value}, h.FunFrames B (X.env :: X.outer) → h.get? a = some o → o.data = .fields vs → a ∉ frs (X.env :: X.outer) := fun {h o vs} ff e dd hm => by
      obtain ⟨_, o', e', hnf⟩ := ff.mem hm
      rw [e] at e'; cases e'
      exact hnf _ dd
    have nfr := notFr fl3.2.2.1 he3 hd3
    have nL : a ≠ X.env.locals := fun z => nfr (List.mem_filterMap.mpr ⟨X.env, List.mem_cons_self, by rw [hf, z]⟩)
    have nF : a ∉ X.fs := fun hm => by
      obtain ⟨e, he, q⟩ := List.mem_filterMap.mp hm
      exact nfr (List.mem_filterMap.mpr ⟨e, List.mem_cons_of_mem _ he, q⟩)
    -- it was not there when the def was entered
    have nI : sI.heap.get? a = none := by
      cases e : sI.heap.get? a with
      | none => rfl
      | some o =>
        have q := nb a o e (by rw [hs]; exact nfr)
        rw [fl3.2.1] at q
        cases q
    have n0 : X.s_0.heap.get? a = none := by
      cases e : X.s_0.heap.get? a with
      | none => rfl
      | some o =>
        obtain ⟨o', q⟩ := J.base.there a o e (by rw [hex]; simp)
        rw [nI] at q
        cases q
    have hpn : ∀ p ∈ X.pn ++ pins, p.1 ≠ a := fun p hp z => by
      have q := (J.pin p hp).1
      rw [z, nI] at q
      cases q
    have S3 := J3.suite he3 hd3 na nL nF
    refine wpAny_handleBy_cons (codeAny_handlers_test ?_) (by intro q; cases q)
    have LT : PySem.W.Looks (model X.prog X.w) h3 (typeOf (.ref a)) (.ref C) := fun A Q E s k q => wpAny_typeOf_ref (k _ _ he3) (by rw [hz3.1]; exact q)
    have LM := PySem.W.exm_one (M := model X.prog X.w) (J3.kIn) LT hb1
    have test : ∀ {Q : Value → Shared → Prop} {E : Value → Shared → Prop}, Q cE { s' with heap := h3 } → wpAny (model X.prog X.w) (X.A.mark (some (.ref a))) (eval (.Name x np) X.env) Q E { s' with heap := h3 } := fun {Q E} q => by
      obtain ⟨hg, hdbg, hm | ⟨hm, hv, hnn⟩⟩ := hc
      · exact ld_glob (X := X.suite a ((a, oe3) :: (X.pn ++ pins))) S3 hg hm q hdbg
      · exact ld_blt (X := X.suite a ((a, oe3) :: (X.pn ++ pins))) S3 hg hm hv q hnn hdbg
    refine test (LM.here ?_)
    refine codeAny_handlers_suite_as ?_
    refine HandSPX.lands_againZ fl3 fun h4 fl4 up4 => ?_
    have J4 : Inv X pins σ' H' { s' with heap := h4 } := J.landed nb fl4.1 ((up.trans up3).trans up4) os ag
    obtain ⟨oe4, vs4, he4, hz4, hd4⟩ := fl4.there
    have S4 := J4.suite he4 hd4 na nL nF
    refine store_ok (X := X.suite a ((a, oe4) :: (X.pn ++ pins))) (v := .ref a) S4 hN hi hloc rfl (fun s5 S5 => ?_) (.inr hln)
    have hil : i < σ'.length := by rw [J.len]; exact (List.getElem?_eq_some_iff.mp hi).1
    have hsu : PSs (X.suite a ((a, oe4) :: (X.pn ++ pins))) [.Assign [.Name y p1] (.Name n p2) p3] (tAsg (tVar i) (gName j)) := pss_one (ps_asg (pe_var hi (.inl hln) hd1 hd2) (pg_name (i := j) hN hj (.inl hlj) (hf := .inr hlj)) hsw hw h1)
    refine wpAny_mono (hsu.run [] s5 _ H' { nx := fun σ6 H6 => σ6 = (σ'.set i (some (.ref a))).set j (some (.ref a)) ∧ H6 = H', rt := fun _ _ => False, bk := fun _ _ => False, ct := fun _ _ => False } S5 ⟨.ref a, List.getElem?_set_self hil, rfl, rfl⟩) (fun f s6 hsp => ?_) (fun _ _ z => False.elim z)
    cases f with
    | next =>
      obtain ⟨σ6, H6, S6, rfl, rfl⟩ := hsp
      have S7 : Inv X ((a, oe4) :: pins) ((σ'.set i (some (.ref a))).set j (some (.ref a))) H6 s6 := ⟨ok, S6.os, S6.bare, S6.base, S6.loc, S6.cell, S6.free, S6.freeC, fun p hp => S6.pin p (by
        rw [List.append_nil]
        rcases List.mem_append.mp hp with z | z
        · exact List.mem_cons_of_mem _ (List.mem_append_left _ z)
        · rcases List.mem_cons.mp z with z | z
          · rw [z]; exact List.mem_cons_self
          · exact List.mem_cons_of_mem _ (List.mem_append_right _ z)), S6.hok, S6.len⟩
      exact gone_ok S7 hN hi hln fun s7 J7 => ⟨_, _, track_exq J7 n0 hz4 hd4 hpn, hyes a na⟩
    | brk =>
      obtain ⟨_, _, _, z⟩ := hsp
      exact z.elim
    | cont =>
      obtain ⟨_, _, _, z⟩ := hsp
      exact z.elim
    | ret u =>
      obtain ⟨_, _, _, _, _, z⟩ := hsp
      exact z.elim
  · cases f with
    | next =>
      obtain ⟨σ', H', J', q⟩ := hsp
      exact wpAny_execs_nil ⟨σ', H', J'.ofTry ok, q⟩
    | brk =>
      obtain ⟨σ', H', J', q⟩ := hsp
      exact ⟨σ', H', J'.ofTry ok, q⟩
    | cont =>
      obtain ⟨σ', H', J', q⟩ := hsp
      exact ⟨σ', H', J'.ofTry ok, q⟩
    | ret u =>
      obtain ⟨v, σ', H', J', r, q⟩ := hsp
      exact ⟨v, σ', H', J'.ofTry ok, r, q⟩
end
/-- in a try's body: what is raised leaves the slots as they stood -/
def tSC (c : C) (W : WX) (s : S) : TS := fun D σ H => ∃ F0 H0 F δ g r g', Wd c H0 F H σ δ g ∧ Stp c F0 H0 F H g ∧ Ok (s δ) g r g' ∧ match r with
  | .nx δ' => ∀ σ' F' H', Wd c H0 F' H' σ' δ' g' → Stp c F0 H0 F' H' g' → Same F F' → D.nx σ' H'
  | .rt d => d.isThr = true ∧ ∀ x e, d = .thr x e → ∀ C dd u F' H', c.mg x = some (.ref C) → Wd c H0 F' H' σ δ g' → Stp c F0 H0 F' H' g' → Same F F' → F' dd = some (.xd [(valueS, u)]) → Rep c F' u e → W (.ref C) (some dd) σ H'
  | .bk _ => False
  | .ct _ => False
def sTry (names : List Str) (i j : Nat) (s : S) : S := fun δ => s δ >>= fun r => match r with
  | .nx δ' => pure (.nx δ')
  | .rt (.thr x e) => if names.contains x then pure (.nx (((δ.set i .no).set j (.val (.exc x e))).set i .no)) else stuck
  | _ => stuck
section
variable {X : Cx} {x n y : Str} {cE : Value} {i j : Nat} {body xs ys : List Stmt} {np p1 p2 p3 pos pos' : Pos} {s t : S} {ga : Option Addr} {bo : Hp} {names : List Str} {c : C} {W : WX} {st : Stmt} {e : Expr} {es : List Expr} {fs : Es}
theorem ds_try (hs : X.stack = X.env :: X.outer) (hf : X.env.frame = some X.env.locals) (hex : X.ex = []) (hN : X.N.Nodup) (hi : X.N[i]? = some n) (hln : X.env.kindOf n = some .local) (hj : X.N[j]? = some y) (hlj : X.env.kindOf y = some .local) (hc : Names X x cE)
    (hE : ∀ z ∈ names, ∀ C, X.mg z = some (.ref C) → PySem.W.exmOne X.K (.ref C) cE = some true)
    (hb : ∀ (W : WX) (pn : List (Addr × Obj)) (xe : Value → Shared → Prop), Takes (X.tr pn xe) W → PSs (X.tr pn xe) body (tSC ⟨X.K, X.mg, ga, bo, X.prog, X.w⟩ W s))
    (hd1 : (n == ("__debug__" : Str)) = false := by decide) (hd2 : (n == ("__classdict__" : Str)) = false := by decide) (hsw : swapsWithSole [.Name y p1] (.Name n p2) p3.line X.env = pure false := by rfl) (hw : swappedStores [.Name y p1] (.Name n p2) X.env = pure none := by rfl)
    (h1 : (assignEach [.Name y p1] X.env).map (·.2) = [assign (.Name y p1) X.env] := by rfl) :
    PS X (.Try body [.ExceptHandler (some (.Name x np)) (some n) [.Assign [.Name y p1] (.Name n p2) p3] pos'] [] [] pos) (tS ⟨X.K, X.mg, ga, bo, X.prog, X.w⟩ (sTry names i j s)) :=
  (ps_try1 hs hf hex hN hi hln hj hlj hc (fun W pn xe tk _ => hb W pn xe tk) hd1 hd2 hsw hw h1).imp fun D σ H ⟨F0, H0, F, δ, g, r, g', w, sp, o, q⟩ => by
    obtain ⟨r1, g1, o1, o⟩ := ok_bind.mp o
    refine ⟨F0, H0, F, δ, g, r1, g1, w, sp, o1, ?_⟩
    split at o
    · obtain ⟨rfl, rfl⟩ := ok_pure.mp o
      exact q
    · rename_i x' e'
      split at o
      · rename_i hm
        obtain ⟨rfl, rfl⟩ := ok_pure.mp o
        refine ⟨rfl, fun x e ed C dd u F' H' m w' sp' sm e1 r1 => ?_⟩
        cases ed
        refine ⟨C, dd, rfl, rfl, hE _ (by simpa using hm) C m, fun a ha => ?_⟩
        have st := Stp.lay (c := ⟨X.K, X.mg, ga, bo, X.prog, X.w⟩) (o := exq a C dd) w'.le w'.gen ha
        have ne : dd ≠ a := fun z => by
          rw [z] at e1
          have := w'.le _ _ e1
          rw [ha] at this
          cases this
        refine q _ _ _ ((((w'.step st).forget (i := i) (x := some (.ref a))).set (.exc m upd_same (by rw [upd_ne ne]; exact e1) (r1.up st.sub))).forget (i := i) (x := none)) (sp'.trans st) (sm.trans st.sub)
      · exact absurd o not_ok_stuck
    · exact absurd o not_ok_stuck
theorem dC_one (h : PS X st (tSC c W s)) : PSs X [st] (tSC c W s) := pss_one h
theorem dC_if {ca : Expr} {fc : E} (hc : PT X ca (tT c fc)) (ha : PSs X xs (tSC c W s)) (hb : PSs X ys (tSC c W t)) : PS X (.If ca xs ys pos) (tSC c W (sIf fc s t)) := (ps_if hc ha hb).imp fun D σ H ⟨F0, H0, F, δ, g, r, g', w, sp, o, q⟩ => by
  obtain ⟨x, g1, o1, o⟩ := ok_bind.mp o
  have fin : ∀ (u : S) F1 H1, Stp c F H F1 H1 g1 → Ok (u δ) g1 r g' → tSC c W u D σ H1 := fun u F1 H1 s1 ou => by
    refine ⟨F0, H0, F1, δ, g1, r, g', w.step s1, sp.trans s1, ou, ?_⟩
    cases r with
    | nx δ' => exact fun σ' F' H' w' sp' sm' => q σ' F' H' w' sp' (s1.sub.trans sm')
    | rt d => exact ⟨q.1, fun x e ed C dd u F' H' m w' sp' sm e1 r1 => q.2 x e ed C dd u F' H' m w' sp' (s1.sub.trans sm) e1 r1⟩
    | bk δ' => exact q
    | ct δ' => exact q
  split at o
  · exact ⟨H0, F, δ, g, true, g1, w, o1, fun F1 H1 s1 => iteT (fin s F1 H1 s1 o)⟩
  · exact ⟨H0, F, δ, g, false, g1, w, o1, fun F1 H1 s1 => iteF (fin t F1 H1 s1 o)⟩
  · exact absurd o not_ok_stuck
/-- defs by their names, as values -/
abbrev Tab := Str → Option (List D → M D)
structure TabB (P : Program) (w : World) (K : PySem.W.Frag) (mg : Str → Option Value) (base : Heap) (k : Nat) (T : Tab) : Prop where
  of : ∀ x Fs, T x = some Fs → ∃ st ps, CalB P w K mg base k x st ps Fs
def sCallX (T : Tab) (i : Nat) (fs : Es) : S := fun δ => fs δ >>= fun ds => match δ[i]? with
  | some (.val (.fn x)) => match T x with
    | some Fs => Fs ds >>= fun d => if d.isThr then pure (.rt d) else pure (.nx δ)
    | none => stuck
  | _ => stuck
theorem dC_call {k : Nat} {T : Tab} {z : Str} {p pz : Pos} (TB : TabB X.prog X.w X.K X.mg X.base k T) (hr : Room k X.A) (hgd : X.A.guards = some []) (tk : Takes X W) (hN : X.N[i]? = some z) (hv : Vis X.env.scope z) (ha : PA X (e :: es) (tAs ⟨X.K, X.mg, ga, bo, X.prog, X.w⟩ fs))
    (hdb : (z == ("__debug__" : Str)) = false := by decide) (hcd : (z == ("__classdict__" : Str)) = false := by decide)
    (he : starEach (e :: es) X.env = (false, eval e X.env) :: starEach es X.env := by rfl) (hpl : (backTo pos (starEach es X.env)).any (·.1) = false := by rfl) (hs : swapsWith (.Call (.Name z p) (e :: es) [] pos) none pz.line X.env = pure false := by rfl) :
    PS X (.Expr (.Call (.Name z p) (e :: es) [] pos) pz) (tSC ⟨X.K, X.mg, ga, bo, X.prog, X.w⟩ W (sCallX T i fs)) := by
  have pe : PE X (.Call (.Name z p) (e :: es) [] pos) (fun σ H Q => ∃ x Fs a, T x = some Fs ∧ X.mg x = some (.ref a) ∧ σ[i]? = some (some (.ref a)) ∧ tAs ⟨X.K, X.mg, ga, bo, X.prog, X.w⟩ fs σ H fun vs H1 => spB X.prog X.w X.K X.mg Fs vs H1 Q fun cls d H => W cls d σ H) := by
    refine ⟨fun pins s σ H Q I ⟨x, Fs, a, hT, hm, hσ, h⟩ => ?_⟩
    obtain ⟨st, ps, C⟩ := TB.of x Fs hT
    obtain ⟨g0, fd, h1, h2, h3, F⟩ := C.ex
    cases hm.symm.trans h1
    refine wpAny_Call_Name_kw (thn ((pe_var (pos := p) hN hv hdb hcd).run pins s σ H (fun v H1 => v = .ref a ∧ H1 = H) I ⟨.ref a, hσ, rfl, rfl⟩) fun u s1 ⟨v, H1, I1, r1, q1⟩ => ?_)
    obtain ⟨rfl, rfl⟩ := q1
    cases r1
    refine PySem.W.callWith_K (h₀ := X.base) I.ok.mod.kin h2.kp (thn (ha.run pos pins s1 σ _ _ I1 h) fun us s2 ⟨vs, H2, I2, r, q⟩ => ⟨I2.kIn, ?_⟩) he hpl
    have hl : vs.length = ps.length := by
      obtain ⟨_, _, _, ds, _, _, _, _, _, rr, o, _⟩ := q
      rw [rr.length]
      exact F.ar _ _ _ _ o
    have b := h3 s2 us I2.kIn (by rw [List.append_nil, ← r.length]; exact hl)
    rw [List.append_nil] at b
    refine wpAny_call (codeAny_mono (F.run X.A X.stack s2 H2 ⟨us, []⟩ us vs Q _ hr hgd I2.env0 b r hl q) fun r s' hq => ?_)
    cases r with
    | error er => exact tk _ _ (XE.of_call I2 (fun _ _ _ h => h) hq)
    | ok fl =>
      cases fl with
      | ret u => exact I2.after hq
      | next => exact False.elim hq
      | brk => exact False.elim hq
      | cont => exact False.elim hq
  refine (ps_expr pe hs).imp fun D σ H ⟨F0, H0, F, δ, g, r, g', w, sp, o, q⟩ => ?_
  obtain ⟨ds, g1, o1, o⟩ := ok_bind.mp o
  split at o
  · rename_i x hx
    split at o
    · rename_i Fs hT
      obtain ⟨v, e1, rv⟩ := w.val i _ hx
      cases rv with
      | @fn _ a _ em =>
        obtain ⟨d, g2, o2, o⟩ := ok_bind.mp o
        refine ⟨x, Fs, a, hT, em, e1, H0, F, δ, g, ds, g1, w, o1, fun vs F1 H1 s1 r1 => ⟨ga, bo, F1, ds, g1, d, g2, s1.le, s1.gen, r1, o2, fun v F2 H2 s2 r2 => ?_, fun x' e' ed => ?_⟩⟩
        · split at o
          · rename_i ht
            cases d <;> first | (cases ht; done) | cases r2
          · obtain ⟨rfl, rfl⟩ := ok_pure.mp o
            exact q σ F2 H2 ((w.step s1).step s2) ((sp.trans s1).trans s2) (s1.sub.trans s2.sub)
        · subst ed
          have o' : Ok (pure (Fl.rt (.thr x' e')) : M Fl) g2 r g' := o
          obtain ⟨rfl, rfl⟩ := ok_pure.mp o'
          exact fun C dd u F' H' m s2 e1 r2 => q.2 x' e' rfl C dd u F' H' m ((w.step s1).step s2) ((sp.trans s1).trans s2) (s1.sub.trans s2.sub) e1 r2
    · exact absurd o not_ok_stuck
  · exact absurd o not_ok_stuck
/-- a def's name as a value -/
theorem d_fn {z : Str} {p : Pos} (hm : ∃ a, X.mg z = some (.ref a)) (hg : Gl X z := by rfl) (hdb : (z == ("__debug__" : Str)) = false := by decide) : PE X (.Name z p) (tP ⟨X.K, X.mg, ga, bo, X.prog, X.w⟩ (eK (.fn z))) := by
  obtain ⟨a, hm⟩ := hm
  refine ⟨fun pins s σ H Q I ⟨H0, F, δ, g, d, g', w, o, q⟩ => ?_⟩
  obtain ⟨rfl, rfl⟩ := ok_pure.mp o
  exact ld_glob I hg hm ⟨.ref a, H, I, rfl, q _ F H (.refl w.le w.gen) (.fn hm)⟩ hdb
end

/-! ### what was caught -/
/-- what an own error class says of its instances -/
structure ErrIs (K : PySem.W.Frag) (mg : Str → Option Value) (x : Str) (C : Addr) : Prop where
  gC : mg x = some (.ref C)
  cl : (PySem.W.clsIn K C).isSome = true
  ga : PySem.W.findIn K (.ref C) "__getattribute__" = some (some (.builtin "BaseException.__getattribute__"))
  gg : PySem.W.findIn K (.ref C) "__getattr__" = some none
  noN : PySem.W.findIn K (.ref C) "value" = some none
  exC : PySem.W.subIn K (.ref C) (.type "BaseException") = some true
  hdC : PySem.W.hasDictIn K C = true
  ha : PySem.W.findIn K (.ref C) "__class__" = some (some (.builtin "object.__class__"))
  hn : PySem.W.specialIn K (.builtin "object.__class__") "__get__" = some (some (.builtin "getset_descriptor.__get__"))
  ht : PySem.W.takesIn K (.builtin "object.__class__") = some true
  hm : PySem.W.mroIn K C (.type "object") = some true
/-- isinstance(d, T), T an own error class without classes under it -/
def dIsE (T : Str) (d : D) : M D := match d with
  | .exc x _ => pure (.bl (decide (x = T)))
  | .non => pure (.bl false)
  | _ => stuck
/-- d.value -/
def dVal (d : D) : M D := match d with
  | .exc _ e => pure e
  | _ => stuck
section
variable {X : Cx} {c : C} {a : Expr} {fa : E} {pos : Pos} {ga : Option Addr} {bo : Hp}
theorem exq_inst {pins : List (Addr × Obj)} {σ : L2.St} {H : Hp} {s : Shared} {a C dd : Addr} {u : V} (I : Inv X pins σ H s) (e2 : H a = some (exq a C dd)) (e3 : H dd = some (.xd [(valueS, u)])) : ∃ oe od v, PySem.W.InstAt s.heap a oe C (some od) ∧ PySem.W.lookIn "value" od = some (some v) ∧ RelV u v := by
  have x : ObjOk X.prog X.w H s.heap a (.ext fun h => ∃ (oe : Obj) (vs : Array Value), h.get? a = some oe ∧ Zc (.ref C) (some dd) oe ∧ oe.data = .fields vs) := I.hok a _ e2
  obtain ⟨oe, vs, g1, z, d⟩ := x.1
  obtain ⟨mA, hns, hr⟩ := (show ObjOk X.prog X.w H s.heap dd (.xd [(valueS, u)]) from I.hok dd _ e3)
  obtain ⟨od, ho, hl⟩ := lookIn_ns hns
  have l : List.lookup valueS [(valueS, u)] = some u := by simp [List.lookup]
  obtain ⟨v, hv, rv⟩ := RelO.some_of (v := u) (o := mA valueS) (by rw [← l]; exact hr valueS)
  exact ⟨oe, od, v, ⟨g1, z.1, by unfold PySem.W.notCls; rw [d] <;> rfl, by rw [z.2]; exact ho⟩, by rw [hl, hv], rv⟩
theorem d_val {xs : List Str} (T : ∀ x, ∀ C, X.mg x = some (.ref C) → x ∈ xs → ErrIs X.K X.mg x C) (ha : PE X a (tP ⟨X.K, X.mg, ga, bo, X.prog, X.w⟩ fa)) (hb : attributeBase a "value" X.env (eval a X.env) = eval a X.env := by rfl) :
    PE X (.Attribute a "value" pos) (tP ⟨X.K, X.mg, ga, bo, X.prog, X.w⟩ (eF (fun d => match d with | .exc x e => if xs.contains x then pure e else stuck | _ => stuck) fa)) := by
  refine ⟨fun pins s σ H Q I ⟨H0, F, δ, g, d, g', w, o, q⟩ => ?_⟩
  obtain ⟨x, g1, o1, o⟩ := ok_bind.mp o
  split at o
  · rename_i y e
    split at o
    · rename_i hy
      obtain ⟨rfl, rfl⟩ := ok_pure.mp o
      refine attr_of hb (thn (ha.run pins s σ H (fun v H1 => ∃ F1, Stp ⟨X.K, X.mg, ga, bo, X.prog, X.w⟩ F H F1 H1 g1 ∧ Rep ⟨X.K, X.mg, ga, bo, X.prog, X.w⟩ F1 v (.exc y e)) I ⟨H0, F, δ, g, _, g1, w, o1, fun v F1 H1 s1 r1 => ⟨F1, s1, r1⟩⟩) fun u s1 ⟨v, H1, I1, rv, F1, st, r1⟩ => ?_)
      cases r1 with
      | @exc _ b C dd _ z _ m e2 e3 r2 =>
        cases rv
        obtain ⟨oe, od, v', J, l, rv⟩ := exq_inst I1 (st.le _ _ e2) (st.le _ _ e3)
        have E := T y C m (by simpa using hy)
        exact HandSPX.exc_get I1.kIn J E.ga E.gg E.exC (PySem.W.findObj_own E.hdC E.noN rfl l) (handed_of rv) ⟨z, H1, I1.tok _, rv, q _ F1 H1 st r2⟩
    · exact absurd o not_ok_stuck
  · exact absurd o not_ok_stuck
theorem isE_c {T : Str} {CT : Addr} {xs : List Str} (hT : X.mg T = some (.ref CT)) (E : ∀ x, ∀ C, X.mg x = some (.ref C) → x ∈ xs → ErrIs X.K X.mg x C ∧ PySem.W.kitOne X.K (.ref C) (.ref CT) = some (decide (x = T))) (hN : PySem.W.kitOne X.K (.type "NoneType") (.ref CT) = some false) :
    CallR X (.builtin "isinstance") (fun vs H Q => ∃ v F d g d' g', vs = [v, .ref CT] ∧ Same F H ∧ GenOk ⟨X.K, X.mg, ga, bo, X.prog, X.w⟩ F H g ∧ Rep ⟨X.K, X.mg, ga, bo, X.prog, X.w⟩ F v d ∧ Ok ((match d with | .exc x _ => if xs.contains x then pure (.bl (decide (x = T))) else stuck | .non => pure (.bl false) | _ => stuck : M D)) g d' g' ∧ ∀ v' F' H', Stp ⟨X.K, X.mg, ga, bo, X.prog, X.w⟩ F H F' H' g' → Rep ⟨X.K, X.mg, ga, bo, X.prog, X.w⟩ F' v' d' → Q v' H') := by
  intro pins s σ H vs us Q I r ⟨v, F, d, g, d', g', ev, le, gen, rd, o, q⟩
  subst ev
  split at o
  · rename_i x e
    split at o
    · rename_i hy
      obtain ⟨rfl, rfl⟩ := ok_pure.mp o
      cases rd with
      | @exc _ b C dd _ z _ m e2 e3 r2 =>
        obtain ⟨u1, u2, rfl, r1, r2'⟩ := vals2 r
        cases r1
        cases r2'
        obtain ⟨oe, od, v', J, l, rv⟩ := exq_inst I (le _ _ e2) (le _ _ e3)
        obtain ⟨E1, E2⟩ := E x C m (by simpa using hy)
        exact PySem.W.kia_one (PySem.W.kitx_exc E1.cl E1.ga E1.gg E1.exC E1.ha E1.hn E1.ht E1.hm) I.kIn J E2 (fun z => nomatch z) fun tk => ⟨.bl _, H, I.tok tk, rfl, q _ F H (.refl le gen) (.bl _)⟩
    · exact absurd o not_ok_stuck
  · obtain ⟨rfl, rfl⟩ := ok_pure.mp o
    cases rd
    exact call_isi pins s σ H _ us Q I r ⟨.non, .ref CT, .type "NoneType", .ref CT, false, rfl, .own CT, .base .non, hN, q _ F H (.refl le gen) (.bl _)⟩
  · exact absurd o not_ok_stuck
end
end DL

/-! ## DScope -/
set_option Elab.async false
set_option autoImplicit false
set_option linter.all false
set_option maxRecDepth 100000
set_option maxHeartbeats 4000000
/-! DScope: a block whose new values are spoilt at its end: what stood before is read alone within. -/
namespace DL
open PySem PySem.Spec PyProof.Rows L2

/-! ### what is read alone, looked through -/
mutual
/-- all that is read alone, as what it is -/
def D.un : D → D
  | .bor d => d.un
  | .lst xs => .lst (uns xs)
  | .tup xs => .tup (uns xs)
  | .exc x d => .exc x d.un
  | d => d
def uns : List D → List D
  | [] => []
  | x :: xs => x.un :: uns xs
end
theorem uns_map : ∀ xs : List D, uns xs = xs.map D.un
  | [] => rfl
  | x :: xs => by rw [uns, uns_map xs]; rfl
mutual
theorem un_nb : ∀ d : D, d.nb = true → d.un = d
  | .non, _ => rfl
  | .bl _, _ => rfl
  | .int _, _ => rfl
  | .str _, _ => rfl
  | .lst xs, h => by rw [D.un, uns_nb xs (by simpa [D.nb] using h)]
  | .tup xs, h => by rw [D.un, uns_nb xs (by simpa [D.nb] using h)]
  | .dct _, _ => rfl
  | .gen, _ => rfl
  | .fn _, _ => rfl
  | .exc x d, h => by rw [D.un, un_nb d (by simpa [D.nb] using h)]
  | .thr _ _, _ => rfl
  | .bor _, h => by simp [D.nb] at h
  | .dset _, _ => rfl
theorem uns_nb : ∀ xs : List D, nbs xs = true → uns xs = xs
  | [], _ => rfl
  | x :: xs, h => by
    simp only [nbs, Bool.and_eq_true] at h
    rw [uns, un_nb x h.1, uns_nb xs h.2]
end
section
variable {c : C} {H : Hp}
mutual
theorem un_rep : ∀ (d : D) {F : Hp} (v : V), Same F H → Same c.bo H → Rep c F v d → Rep c (un F c.bo) v d.un
  | .non, _, _, _, _, r => by cases r; exact .non
  | .bl b, _, _, _, _, r => by cases r; exact .bl b
  | .int b, _, _, _, _, r => by cases r; exact .int b
  | .str b, _, _, _, _, r => by cases r; exact .str b
  | .lst ds, _, _, h1, h2, r => by
    cases r with
    | lst e q => exact .lst (un_l _ _ e) (uns_rep ds _ h1 h2 q)
  | .tup ds, _, _, h1, h2, r => by
    cases r with
    | tup e q => exact .tup (un_l _ _ e) (uns_rep ds _ h1 h2 q)
  | .dct _, _, _, _, _, r => by
    cases r with
    | dct0 e => exact .dct0 (un_l _ _ e)
  | .gen, _, _, _, _, r => by
    cases r with
    | gen e => exact .gen e
  | .fn x, _, _, _, _, r => by
    cases r with
    | fn e => exact .fn e
  | .exc x d, _, _, h1, h2, r => by
    cases r with
    | exc e1 e2 e3 q => exact .exc e1 (un_l _ _ e2) (un_l _ _ e3) (un_rep d _ h1 h2 q)
  | .thr _ _, _, _, _, _, r => by cases r
  | .dset _, _, _, h1, h2, r => by
    cases r with
    | dset e1 e2 e3 => exact .dset (un_l _ _ e1) (fun x hx => un_l _ _ (e2 x hx)) e3
  | .bor d, F, _, h1, h2, r => by
    cases r with
    | bor q =>
      have e := un_rep d _ h2 h2 q
      refine e.up fun a o eo => ?_
      refine un_r h1 h2 a o ?_
      unfold un at eo
      cases h : c.bo a with
      | some u => rw [h] at eo; exact eo
      | none => rw [h] at eo; cases eo
theorem uns_rep : ∀ (ds : List D) {F : Hp} (vs : List V), Same F H → Same c.bo H → RepAll c F vs ds → RepAll c (un F c.bo) vs (uns ds)
  | [], _, _, _, _, r => by cases r; exact .nil
  | d :: ds, _, _, h1, h2, r => by
    cases r with
    | cons q t => exact .cons (un_rep d _ h1 h2 q) (uns_rep ds _ h1 h2 t)
end
theorem unB_RepB {F : Hp} {v : V} {d : D} (h1 : Same F H) (h2 : Same c.bo H) (r : RepB c F H v d) : RepB c (un F c.bo) H v d.un := by
  rcases r with r | ⟨a, vs, ds, e1, e2, e3, e4, r⟩
  · exact .inl (un_rep d v h1 h2 r)
  · subst e2
    exact .inr ⟨a, vs, uns ds, e1, rfl, e3, e4, uns_rep ds vs h1 h2 r⟩
end
/-- an outcome that is no object, of all that is looked through -/
def hI (h : D → D → M D) (x y : D) : M D := h x.un y.un >>= fun d => if d.imm then pure d else stuck
def hU (h : D → M D) (x : D) : M D := h x.un >>= fun d => if d.imm then pure d else stuck
section
variable {X : Cx} {c : C} {f : Value → Value → Sem Value} {u : Value}
theorem oD_i {h : D → D → M D} {x y : V} {H : Hp} {Q : VK} : oD c (hI h) x y H Q → oD c h x y H Q := fun ⟨F, d, e, d', g, g', le, gen, rx, ry, o, q⟩ => by
  obtain ⟨d1, g1, o1, o⟩ := ok_bind.mp o
  split at o
  · rename_i hi
    obtain ⟨rfl, rfl⟩ := ok_pure.mp o
    exact ⟨un F c.bo, d.un, e.un, d1, g, g1, un_le le gen.bo, GenOk.unB gen, unB_RepB le gen.bo rx, unB_RepB le gen.bo ry, o1, fun v F' H' s r => q v F H' (Stp.unB gen le s) (imm_any hi r)⟩
  · exact absurd o not_ok_stuck
theorem op_i {h : D → D → M D} (ho : OpR X f (oD c h)) : OpR X f (oD c (hI h)) := fun pins s σ H x y a b Q I r1 r2 q => ho pins s σ H x y a b Q I r1 r2 (oD_i q)
theorem uD_i {h : D → M D} {x : V} {H : Hp} {Q : VK} : uD c (hU h) x H Q → uD c h x H Q := fun ⟨F, d, d', g, g', le, gen, rx, o, q⟩ => by
  obtain ⟨d1, g1, o1, o⟩ := ok_bind.mp o
  split at o
  · rename_i hi
    obtain ⟨rfl, rfl⟩ := ok_pure.mp o
    exact ⟨un F c.bo, d.un, d1, g, g1, un_le le gen.bo, GenOk.unB gen, unB_RepB le gen.bo rx, o1, fun v F' H' s r => q v F H' (Stp.unB gen le s) (imm_any hi r)⟩
  · exact absurd o not_ok_stuck
theorem c1_i {h : D → M D} (hc : CallR X u (c1 c h)) : CallR X u (c1 c (hU h)) := fun pins s σ H xs us Q I r ⟨x, e, q⟩ => hc pins s σ H xs us Q I r ⟨x, e, uD_i q⟩
end
/-- a list that is read alone, as a list of what is read alone -/
def dUw (d : D) : M D := match d with
  | .bor (.lst xs) => pure (.lst (xs.map wrapB))
  | d => pure d
section
variable {X : Cx} {c : C} {a e : Expr} {f : E} {pos : Pos}
theorem d_uw (h : PE X a (tP c f)) : PE X a (tR c (eF dUw f)) := h.imp fun σ H Q ⟨H0, F, δ, g, d, g', w, o, q⟩ => by
  obtain ⟨x, g1, o1, o⟩ := ok_bind.mp o
  unfold dUw at o
  split at o
  · obtain ⟨rfl, rfl⟩ := ok_pure.mp o
    refine ⟨H0, F, δ, g, _, g1, w, o1, fun v F1 H1 s1 r1 => ?_⟩
    cases r1 with
    | bor r1 =>
      cases r1 with
      | @lst _ a vs _ ea ra => exact q _ F1 H1 s1 (.inr ⟨a, vs, _, rfl, rfl, s1.gen.bo _ _ ea, fun n => (by rw [s1.gen.nb a n] at ea; cases ea), wrapB_rep ra⟩)
  · obtain ⟨rfl, rfl⟩ := ok_pure.mp o
    exact ⟨H0, F, δ, g, _, g1, w, o1, fun v F1 H1 s1 r1 => q v F1 H1 s1 r1.b⟩
end
/-! ### calls with an outcome that is no object -/
/-- f(e, ..) of all that is looked through -/
def eCallD (Fs : List D → M D) (fs : Es) : E := fun δ => fs δ >>= fun ds => Fs (uns ds) >>= fun d => if d.imm then pure d else stuck
def eCallDK (Fs : List D → M D) (ix : List Nat) (fs : Es) : E := fun δ => fs δ >>= fun ds => Fs (pick ix (uns ds)) >>= fun d => if d.imm then pure d else stuck
section
variable {X : Cx} {j k : Nat} {ps ks : List Str} {Fs : List D → M D} {x : Str} {st : Stmt} {p pos : Pos} {e : Expr} {es : List Expr} {fs gs : Es} {ga : Option Addr} {bo : Hp} {kws : List Keyword}
theorem dcD (C : Cal X.prog X.w X.K X.mg X.base j x st ps Fs) (hr : Room k X.A) (hgd : X.A.guards = some []) (ha : PA X (e :: es) (tAs ⟨X.K, X.mg, ga, bo, X.prog, X.w⟩ fs)) (hj : j ≤ k := by decide) (hg : Gl X x := by rfl)
    (hdb : (x == ("__debug__" : Str)) = false := by decide) (he : starEach (e :: es) X.env = (false, eval e X.env) :: starEach es X.env := by rfl) (hpl : (backTo pos (starEach es X.env)).any (·.1) = false := by rfl) :
    PE X (.Call (.Name x p) (e :: es) [] pos) (tP ⟨X.K, X.mg, ga, bo, X.prog, X.w⟩ (eCallD Fs fs)) := by
  obtain ⟨f, fd, h1, h2, h3, h4⟩ := C.ex
  refine (pe_callQ (h4.q.mono hj) hr hgd h1 h2.kp h3 ha hg hdb he hpl).imp fun σ H Q ⟨H0, F1, δ, g, d, g', w, o, q⟩ => ?_
  obtain ⟨ds, g1, o1, o⟩ := ok_bind.mp o
  obtain ⟨d1, g2, o2, o⟩ := ok_bind.mp o
  split at o
  · rename_i hi
    obtain ⟨rfl, rfl⟩ := ok_pure.mp o
    refine ⟨H0, F1, δ, g, ds, g1, w, o1, fun vs F1 H1 s1 r1 => ⟨by rw [r1.length, ← List.length_map (f := D.un), ← uns_map]; exact h4.ar _ _ _ _ o2, ga, bo, un F1 bo, _, g1, d1, g2, un_le s1.le s1.gen.bo, GenOk.unB (c := ⟨X.K, X.mg, ga, bo, X.prog, X.w⟩) s1.gen, uns_rep (c := ⟨X.K, X.mg, ga, bo, X.prog, X.w⟩) ds vs s1.le s1.gen.bo r1, o2, fun v F2 H2 s2 r2 => ?_⟩⟩
    exact q v F1 H2 (s1.trans (Stp.unB (c := ⟨X.K, X.mg, ga, bo, X.prog, X.w⟩) s1.gen s1.le s2)) (imm_any hi r2)
  · exact absurd o not_ok_stuck
theorem dcDK0 {ix : List Nat} (C : Cal X.prog X.w X.K X.mg X.base j x st ps Fs) (hr : Room k X.A) (hgd : X.A.guards = some []) (hkw : KwOk x st ps ks 0 ix) (hks : PK X kws (tAs ⟨X.K, X.mg, ga, bo, X.prog, X.w⟩ gs)) (hn2 : EsN ks.length gs) (hj : j ≤ k := by decide)
    (hg : Gl X x := by rfl) (hall : (backToKw pos (keywordEach kws X.env)).all (·.1.isSome) = true := by rfl) (hke : (backToKw pos (keywordEach kws X.env)).filterMap (·.1) = ks := by rfl)
    (hdb : (x == ("__debug__" : Str)) = false := by decide) (hpl : ((backTo pos (starEach [] X.env)).any (·.1) || (backToKw pos (keywordEach kws X.env)).any (·.1.isNone)) = false := by rfl) :
    PE X (.Call (.Name x p) [] kws pos) (tP ⟨X.K, X.mg, ga, bo, X.prog, X.w⟩ (eCallDK Fs ix gs)) := by
  obtain ⟨f, fd, h1, h2, h3, h4⟩ := C.ex
  refine (pe_callQK0 (h4.q.mono hj) hr hgd h1 h2.kp (kwB_of h2 hkw) hks hg hall hke hdb hpl).imp fun σ H Q ⟨H0, F1, δ, g, d, g', w, o, q⟩ => ?_
  obtain ⟨ds, g1, o1, o⟩ := ok_bind.mp o
  obtain ⟨d1, g2, o2, o⟩ := ok_bind.mp o
  split at o
  · rename_i hi
    obtain ⟨rfl, rfl⟩ := ok_pure.mp o
    refine ⟨H0, F1, δ, g, ds, g1, w, o1, fun vs F1 H1 s1 r1 => ⟨by rw [r1.length]; exact hn2 _ _ _ _ o1, ga, bo, un F1 bo, _, g1, d1, g2, un_le s1.le s1.gen.bo, GenOk.unB (c := ⟨X.K, X.mg, ga, bo, X.prog, X.w⟩) s1.gen, pick_rep (uns_rep (c := ⟨X.K, X.mg, ga, bo, X.prog, X.w⟩) ds vs s1.le s1.gen.bo r1), o2, fun v F2 H2 s2 r2 => ?_⟩⟩
    exact q v F1 H2 (s1.trans (Stp.unB (c := ⟨X.K, X.mg, ga, bo, X.prog, X.w⟩) s1.gen s1.le s2)) (imm_any hi r2)
  · exact absurd o not_ok_stuck
end

/-! ### the scope -/
/-- a slot at a scope's begin: what it holds is read alone -/
def wrapSl : Sl → Sl
  | .val .gen => .val .gen
  | .val (.fn x) => .val (.fn x)
  | .val d => if d.nb then .val (wrapB d) else .no
  | _ => .no
/-- a slot behind it: what is new is forgotten -/
def unSl : Sl → Sl
  | .val .gen => .val .gen
  | .val (.fn x) => .val (.fn x)
  | .val (.bor d) => if d.nb then .val d else .no
  | .val d => if d.imm then .val d else .no
  | _ => .no
theorem unSl_imm {d : D} (h : d.imm = true) : unSl (.val d) = .val d := by
  cases d <;> first | rfl | (cases h; done)
abbrev Cin (c : C) (F : Hp) : C := ⟨c.K, c.mg, c.ga, F, c.prog, c.w⟩
theorem wrap_slot {c : C} {F : Hp} {v : V} {d e : D} (hs : wrapSl (.val d) = .val e) (r : Rep c F v d) : Rep (Cin c F) (fun _ => none) v e := by
  have gen : ∀ d : D, d.nb = true → Rep c F v d → Rep (Cin c F) (fun _ => none) v (wrapB d) := fun d n r => by
    have r' := Rep.re (c := c) (c' := Cin c F) rfl rfl rfl rfl d v n r
    unfold wrapB
    split
    · rename_i hi
      exact imm_any hi r'
    · exact .bor r'
  have other : ∀ d : D, Rep c F v d → wrapSl (.val d) = .val e → wrapSl (.val d) = (if D.nb d then Sl.val (wrapB d) else Sl.no) → Rep (Cin c F) (fun _ => none) v e := fun d r hs hd => by
    rw [hd] at hs
    split at hs
    · rename_i n
      cases hs
      exact gen _ n r
    · cases hs
  cases d with
  | gen =>
    cases hs
    cases r with
    | gen q => exact .gen q
  | fn x =>
    cases hs
    cases r with
    | fn q => exact .fn q
  | _ => exact other _ r hs rfl
theorem un_slot {c : C} {F F1 : Hp} {v : V} {d e : D} (hs : unSl (.val d) = .val e) (r : Rep (Cin c F) F1 v d) : Rep c F v e := by
  cases d with
  | gen =>
    cases hs
    cases r with
    | gen q => exact .gen q
  | fn x =>
    cases hs
    cases r with
    | fn q => exact .fn q
  | bor d =>
    replace hs : (if D.nb d then Sl.val d else Sl.no) = Sl.val e := hs
    split at hs
    · rename_i n
      cases hs
      cases r with
      | bor q => exact Rep.re (c := Cin c F) (c' := c) rfl rfl rfl rfl _ v n q
    · cases hs
  | non => cases hs; cases r; exact .non
  | bl b => cases hs; cases r; exact .bl b
  | int b => cases hs; cases r; exact .int b
  | str b => cases hs; cases r; exact .str b
  | _ => cases hs
def sScope (s : S) : S := fun δ => s (δ.map wrapSl) >>= fun r => match r with
  | .rt d => if d.imm then pure (.rt d) else stuck
  | r => pure r
/-- within: c the outer world, F what was relied on, HE the heap at the begin -/
def tSS (c : C) (s : S) : TS := fun D σ H => ∃ F0 H0 F HE gE F1 δ g r g', Stp c F0 H0 F HE gE ∧ Same c.bo H0 ∧ Wd (Cin c F) HE F1 H σ δ g ∧ Stp (Cin c F) (fun _ => none) HE F1 H g ∧ Ok (s δ) g r g' ∧ match r with
  | .nx δ' => ∀ σ' H', Wd c H0 F H' σ' δ' g' → Stp c F0 H0 F H' g' → D.nx σ' H'
  | .rt d => d.imm = true ∧ ∀ v H', Stp c F0 H0 F H' g' → Rep c F v d → D.rt v H'
  | .bk δ' => ∀ σ' H', Wd c H0 F H' σ' δ' g' → Stp c F0 H0 F H' g' → D.bk σ' H'
  | .ct δ' => ∀ σ' H', Wd c H0 F H' σ' δ' g' → Stp c F0 H0 F H' g' → D.ct σ' H'
/-- from within to without, where all but new objects is as it was -/
theorem scope_out {c : C} {F0 H0 F HE F1 H H' : Hp} {gE g : Gs} {σ : L2.St} {δ : Dlt} (so : Stp c F0 H0 F HE gE) (hb : Same c.bo H0) (w : Wd (Cin c F) HE F1 H σ δ g) (si : Stp (Cin c F) (fun _ => none) HE F1 H g)
    (hH : ∀ a, F1 a = none → H' a = H a) : Wd c H0 F H' σ (δ.map unSl) g ∧ Stp c F0 H0 F H' g := by
  have new : ∀ a, F1 a ≠ none → HE a = none := fun a h => si.new a h rfl
  have old : ∀ a o, c.ga ≠ some a → HE a = some o → H' a = some o := fun a o n e => by
    rw [hH a ?_]
    · exact si.ext a o n e
    · cases q : F1 a with
      | none => rfl
      | some u => rw [new a (by rw [q]; simp)] at e; cases e
  have genF : ∀ a, c.ga = some a → F a = none := fun a n => (so.gen.gen a n).1
  have leH : Same F H' := fun a o e => old a o (fun n => by rw [genF a n] at e; cases e) (so.le a o e)
  have gen : GenOk c F H' g := ⟨fun a n => ⟨genF a n, by
    obtain ⟨q1, q2⟩ := si.gen.gen a n
    rw [hH a q1]; exact q2⟩, fun a o e => old a o (fun n => by rw [so.gen.nb a n] at e; cases e) (so.gen.bo a o e), so.gen.nb⟩
  have st : Stp c F0 H0 F H' g := ⟨so.sub, fun a o n e => old a o n (so.ext a o n e), so.new, leH, gen⟩
  refine ⟨⟨leH, gen, by rw [List.length_map]; exact w.len, fun i d h => ?_, fun i xs h => ?_, fun i j xs ys _ h => ?_, hb⟩, st⟩
  · rw [List.getElem?_map] at h
    cases e : δ[i]? with
    | none => rw [e] at h; cases h
    | some sl =>
      rw [e] at h
      have h : unSl sl = .val d := Option.some.inj h
      cases sl with
      | val d0 =>
        obtain ⟨v, e1, r⟩ := w.val i d0 e
        exact ⟨v, e1, un_slot h r⟩
      | no => cases h
      | own xs => cases h
  all_goals
    rw [List.getElem?_map] at h
    cases e : δ[i]? with
    | none => rw [e] at h; cases h
    | some sl =>
      rw [e] at h
      have h : unSl sl = .own xs := Option.some.inj h
      cases sl with
      | no => cases h
      | own xs => cases h
      | val d0 =>
        unfold unSl at h
        split at h <;> first | (cases h; done) | (split at h <;> cases h)
section
variable {X : Cx} {c : C} {a b e : Expr} {st : Stmt} {sts xs ys : List Stmt} {s t : S} {f fa fb : E} {pos : Pos}
theorem dss_scope (h : PSs X sts (tSS c s)) : PSs X sts (tS c (sScope s)) := h.imp fun D σ H ⟨F0, H0, F, δ, g, r, g', w, sp, o, q⟩ => by
  have wi : Wd (Cin c F) H (fun _ => none) H σ (δ.map wrapSl) g := by
    refine ⟨fun a o e => (by cases e), ⟨fun a n => ⟨rfl, (w.gen.gen a n).2⟩, w.le, fun a n => (w.gen.gen a n).1⟩, by rw [List.length_map]; exact w.len, fun i d h => ?_, fun i xs h => ?_, fun i j xs ys _ h => ?_, w.le⟩
    · rw [List.getElem?_map] at h
      cases e : δ[i]? with
      | none => rw [e] at h; cases h
      | some sl =>
        rw [e] at h
        have h : wrapSl sl = .val d := Option.some.inj h
        cases sl with
        | val d0 =>
          obtain ⟨v, e1, r⟩ := w.val i d0 e
          exact ⟨v, e1, wrap_slot h r⟩
        | no => cases h
        | own xs => cases h
    all_goals
      rw [List.getElem?_map] at h
      cases e : δ[i]? with
      | none => rw [e] at h; cases h
      | some sl =>
        rw [e] at h
        have h : wrapSl sl = .own xs := Option.some.inj h
        cases sl with
        | no => cases h
        | own xs => cases h
        | val d0 =>
          unfold wrapSl at h
          split at h <;> first | (cases h; done) | (split at h <;> cases h)
  obtain ⟨r1, g1, o1, o⟩ := ok_bind.mp o
  refine ⟨F0, H0, F, H, g, fun _ => none, _, g, r1, g1, sp, w.bo0, wi, .refl wi.le wi.gen, o1, ?_⟩
  cases r1 with
  | nx δ' =>
    obtain ⟨rfl, rfl⟩ := ok_pure.mp o
    exact fun σ' H' w' sp' => q σ' F H' w' sp' (.refl F)
  | rt d =>
    replace o : Ok (if d.imm then pure (Fl.rt d) else stuck) g1 r g' := o
    split at o
    · rename_i hi
      obtain ⟨rfl, rfl⟩ := ok_pure.mp o
      exact ⟨hi, fun v H' sp' r' => q v F H' sp' r'⟩
    · exact absurd o not_ok_stuck
  | bk δ' =>
    obtain ⟨rfl, rfl⟩ := ok_pure.mp o
    exact fun σ' H' w' sp' => q σ' F H' w' sp' (.refl F)
  | ct δ' =>
    obtain ⟨rfl, rfl⟩ := ok_pure.mp o
    exact fun σ' H' w' sp' => q σ' F H' w' sp' (.refl F)
end
/-! ### within a scope -/
theorem scope_stp {c : C} {F0 H0 F HE F1 H H' : Hp} {gE g : Gs} (so : Stp c F0 H0 F HE gE) (si : Stp (Cin c F) (fun _ => none) HE F1 H g) (hH : ∀ a, F1 a = none → H' a = H a) : Stp c F0 H0 F H' g := by
  have new : ∀ a, F1 a ≠ none → HE a = none := fun a h => si.new a h rfl
  have old : ∀ a o, c.ga ≠ some a → HE a = some o → H' a = some o := fun a o n e => by
    rw [hH a ?_]
    · exact si.ext a o n e
    · cases q : F1 a with
      | none => rfl
      | some u => rw [new a (by rw [q]; simp)] at e; cases e
  have genF : ∀ a, c.ga = some a → F a = none := fun a n => (so.gen.gen a n).1
  have leH : Same F H' := fun a o e => old a o (fun n => by rw [genF a n] at e; cases e) (so.le a o e)
  have gen : GenOk c F H' g := ⟨fun a n => ⟨genF a n, by
    obtain ⟨q1, q2⟩ := si.gen.gen a n
    rw [hH a q1]; exact q2⟩, fun a o e => old a o (fun n => by rw [so.gen.nb a n] at e; cases e) (so.gen.bo a o e), so.gen.nb⟩
  exact ⟨so.sub, fun a o n e => old a o n (so.ext a o n e), so.new, leH, gen⟩
/-- a statement's reading, whatever is read alone -/
def tSw (P : Program) (w : World) (K : PySem.W.Frag) (mg : Str → Option Value) (s : S) : TS := fun D σ H => ∃ ga bo, tS ⟨K, mg, ga, bo, P, w⟩ s D σ H
theorem psw {X : Cx} {st : Stmt} {s : S} (h : ∀ ga bo, PS X st (tS ⟨X.K, X.mg, ga, bo, X.prog, X.w⟩ s)) : PS X st (tSw X.prog X.w X.K X.mg s) := ⟨fun pins t σ H D I ⟨ga, bo, q⟩ => (h ga bo).run pins t σ H D I q⟩
def tTw (P : Program) (w : World) (K : PySem.W.Frag) (mg : Str → Option Value) (f : E) : TT := fun σ H Q => ∃ ga bo, tT ⟨K, mg, ga, bo, P, w⟩ f σ H Q
theorem ptw {X : Cx} {e : Expr} {f : E} (h : ∀ ga bo, PT X e (tT ⟨X.K, X.mg, ga, bo, X.prog, X.w⟩ f)) : PT X e (tTw X.prog X.w X.K X.mg f) := ⟨fun pins t σ H Q I ⟨ga, bo, q⟩ => (h ga bo).run pins t σ H Q I q⟩
theorem imm_c {c c' : C} {F F' : Hp} {v : V} {d : D} (h : d.imm = true) (r : Rep c F v d) : Rep c' F' v d := by
  cases d with
  | non => cases r; exact .non
  | bl b => cases r; exact .bl b
  | int i => cases r; exact .int i
  | str x => cases r; exact .str x
  | _ => cases h
def sSeqS (a t : S) : S := fun δ => a δ >>= fun r => match r with
  | .nx δ1 => t δ1
  | .rt d => if d.imm then pure (.rt d) else stuck
  | .bk δ1 => pure (.bk (δ1.map unSl))
  | .ct δ1 => pure (.ct (δ1.map unSl))
def sUn : S := fun δ => pure (.nx (δ.map unSl))
section
variable {X : Cx} {c : C} {a b e : Expr} {st : Stmt} {sts xs ys : List Stmt} {s t : S} {f fa fb fc : E} {pos : Pos} {ga : Option Addr} {bo : Hp}
theorem dSS_nil : PSs X [] (tSS c sUn) := pss_nil.imp fun D σ H ⟨F0, H0, F, HE, gE, F1, δ, g, r, g', so, hb, w, si, o, q⟩ => by
  obtain ⟨rfl, rfl⟩ := ok_pure.mp o
  obtain ⟨w', s'⟩ := scope_out so hb w si (fun _ _ => rfl)
  exact q σ H w' s'
theorem dSS_cons (h1 : ∀ ga bo, PS X st (tS ⟨X.K, X.mg, ga, bo, X.prog, X.w⟩ s)) (h2 : PSs X sts (tSS ⟨X.K, X.mg, ga, bo, X.prog, X.w⟩ t)) : PSs X (st :: sts) (tSS ⟨X.K, X.mg, ga, bo, X.prog, X.w⟩ (sSeqS s t)) :=
  (pss_cons (psw h1) h2).imp fun D σ H ⟨F0, H0, F, HE, gE, F1, δ, g, r, g', so, hb, w, si, o, q⟩ => by
    obtain ⟨r1, g1, o1, o⟩ := ok_bind.mp o
    refine ⟨ga, F, fun _ => none, HE, F1, δ, g, r1, g1, w, si, o1, ?_⟩
    cases r1 with
    | nx δ1 => exact fun σ' F' H' w' si' _ => ⟨F0, H0, F, HE, gE, F', δ1, g1, r, g', so, hb, w', si', o, q⟩
    | rt d =>
      replace o : Ok (if d.imm then pure (Fl.rt d) else stuck) g1 r g' := o
      split at o
      · rename_i hi
        obtain ⟨rfl, rfl⟩ := ok_pure.mp o
        exact fun v F' H' si' r' => q.2 v H' (scope_stp so si' fun _ _ => rfl) (imm_c hi r')
      · exact absurd o not_ok_stuck
    | bk δ1 =>
      obtain ⟨rfl, rfl⟩ := ok_pure.mp o
      exact fun σ' F' H' w' si' _ => by
        obtain ⟨w2, s2⟩ := scope_out so hb w' si' (fun _ _ => rfl)
        exact q σ' H' w2 s2
    | ct δ1 =>
      obtain ⟨rfl, rfl⟩ := ok_pure.mp o
      exact fun σ' F' H' w' si' _ => by
        obtain ⟨w2, s2⟩ := scope_out so hb w' si' (fun _ _ => rfl)
        exact q σ' H' w2 s2
theorem dSS_if (hc : ∀ ga bo, PT X a (tT ⟨X.K, X.mg, ga, bo, X.prog, X.w⟩ fc)) (ha : PSs X xs (tSS ⟨X.K, X.mg, ga, bo, X.prog, X.w⟩ s)) (hb : PSs X ys (tSS ⟨X.K, X.mg, ga, bo, X.prog, X.w⟩ t)) : PSs X [.If a xs ys pos] (tSS ⟨X.K, X.mg, ga, bo, X.prog, X.w⟩ (sIf fc s t)) :=
  (pss_one (ps_if (ptw hc) ha hb)).imp fun D σ H ⟨F0, H0, F, HE, gE, F1, δ, g, r, g', so, hb, w, si, o, q⟩ => by
    obtain ⟨x, g1, o1, o⟩ := ok_bind.mp o
    have fin : ∀ (u : S) F2 H2, Stp (Cin ⟨X.K, X.mg, ga, bo, X.prog, X.w⟩ F) F1 H F2 H2 g1 → Ok (u δ) g1 r g' → tSS ⟨X.K, X.mg, ga, bo, X.prog, X.w⟩ u D σ H2 := fun u F2 H2 s1 ou => ⟨F0, H0, F, HE, gE, F2, δ, g1, r, g', so, hb, w.step s1, si.trans s1, ou, q⟩
    split at o
    · exact ⟨ga, F, HE, F1, δ, g, true, g1, w, o1, fun F2 H2 s1 => iteT (fin s F2 H2 s1 o)⟩
    · exact ⟨ga, F, HE, F1, δ, g, false, g1, w, o1, fun F2 H2 s1 => iteF (fin t F2 H2 s1 o)⟩
    · exact absurd o not_ok_stuck
end

/-! ### spoiling -/
mutual
/-- lists that are not too long, all the way down -/
def D.sm : D → Bool
  | .lst xs => decide (xs.length ≤ 1000000) && sms xs
  | .tup xs => sms xs
  | _ => true
def sms : List D → Bool
  | [] => true
  | x :: xs => x.sm && sms xs
end
def D.isLT : D → Bool
  | .lst _ => true
  | .tup _ => true
  | _ => false
mutual
/-- v has the shape of d, its lists (all in N) perhaps longer -/
inductive RepS (H : Hp) (N : Addr → Prop) (B : Nat) : V → D → Prop
  | lst {a : Addr} {vs ex : List V} {ds : List D} : H a = some (.lst (vs ++ ex)) → N a → (vs ++ ex).length + B ≤ sizeLine → RepSs H N B vs ds → RepS H N B (.ref a) (.lst ds)
  | tup {a : Addr} {vs : List V} {ds : List D} : H a = some (.tup vs) → RepSs H N B vs ds → RepS H N B (.ref a) (.tup ds)
  | oth {v : V} {d : D} : d.isLT = false → RepS H N B v d
inductive RepSs (H : Hp) (N : Addr → Prop) (B : Nat) : List V → List D → Prop
  | nil : RepSs H N B [] []
  | cons {v : V} {vs : List V} {d : D} {ds : List D} : RepS H N B v d → RepSs H N B vs ds → RepSs H N B (v :: vs) (d :: ds)
end
theorem RepSs.get {H : Hp} {N : Addr → Prop} {B : Nat} : ∀ {vs : List V} {ds : List D} {k : Nat} {d : D}, RepSs H N B vs ds → ds[k]? = some d → ∃ v, vs[k]? = some v ∧ RepS H N B v d
  | _, _, _, _, .nil, e => by simp at e
  | _, _, 0, _, .cons r _, e => by simp at e; subst e; exact ⟨_, rfl, r⟩
  | _, _, k + 1, d, .cons _ t, e => by
    obtain ⟨v, h1, h2⟩ := RepSs.get (k := k) (d := d) t (by simpa using e)
    exact ⟨v, by simpa using h1, h2⟩
section
variable {c : C} {F H : Hp} {B : Nat}
mutual
theorem reps_of (le : Same F H) (hB : B ≤ 1000000) : ∀ (d : D) (v : V), d.sm = true → Rep c F v d → RepS H (fun a => F a ≠ none) B v d
  | .lst ds, _, h, r => by
    simp only [D.sm, Bool.and_eq_true, decide_eq_true_eq] at h
    cases r with
    | @lst _ a vs _ e q =>
      have l := q.length
      refine .lst (ex := []) (by rw [List.append_nil]; exact le _ _ e) (by rw [e]; simp) (by rw [List.append_nil, sizeLine_eq, l]; omega) (reps_ofs le hB ds vs h.2 q)
  | .tup ds, _, h, r => by
    cases r with
    | @tup _ a vs _ e q => exact .tup (le _ _ e) (reps_ofs le hB ds vs (by simpa [D.sm] using h) q)
  | .non, _, _, _ => .oth rfl
  | .bl _, _, _, _ => .oth rfl
  | .int _, _, _, _ => .oth rfl
  | .str _, _, _, _ => .oth rfl
  | .dct _, _, _, _ => .oth rfl
  | .gen, _, _, _ => .oth rfl
  | .fn _, _, _, _ => .oth rfl
  | .exc _ _, _, _, _ => .oth rfl
  | .thr _ _, _, _, _ => .oth rfl
  | .bor _, _, _, _ => .oth rfl
  | .dset _, _, _, _ => .oth rfl
theorem reps_ofs (le : Same F H) (hB : B ≤ 1000000) : ∀ (ds : List D) (vs : List V), sms ds = true → RepAll c F vs ds → RepSs H (fun a => F a ≠ none) B vs ds
  | [], _, _, r => by cases r; exact .nil
  | d :: ds, _, h, r => by
    simp only [sms, Bool.and_eq_true] at h
    cases r with
    | cons q t => exact .cons (reps_of le hB d _ h.1 q) (reps_ofs le hB ds _ h.2 t)
end
variable {N : Addr → Prop}
mutual
theorem reps_grow {b : Addr} {ys : List V} {x : V} (hb : H b = some (.lst ys)) : ∀ (d : D) (v : V), RepS H N (B + 1) v d → RepS (upd H b (.lst (ys ++ [x]))) N B v d
  | .lst ds, _, r => by
    cases r with
    | @lst a vs ex _ e n l q =>
      by_cases h : a = b
      · subst h
        rw [hb] at e
        cases e
        exact .lst (ex := ex ++ [x]) (by rw [upd_same, List.append_assoc]) n (by rw [← List.append_assoc, List.length_append]; simp only [List.length_cons, List.length_nil]; omega) (reps_grows hb ds vs q)
      · exact .lst (by rw [upd_ne h]; exact e) n (by omega) (reps_grows hb ds vs q)
    | oth h => cases h
  | .tup ds, _, r => by
    cases r with
    | @tup a vs _ e q =>
      have h : a ≠ b := fun z => by rw [z, hb] at e; cases e
      exact .tup (by rw [upd_ne h]; exact e) (reps_grows hb ds vs q)
    | oth h => cases h
  | .non, _, _ => .oth rfl
  | .bl _, _, _ => .oth rfl
  | .int _, _, _ => .oth rfl
  | .str _, _, _ => .oth rfl
  | .dct _, _, _ => .oth rfl
  | .gen, _, _ => .oth rfl
  | .fn _, _, _ => .oth rfl
  | .exc _ _, _, _ => .oth rfl
  | .thr _ _, _, _ => .oth rfl
  | .bor _, _, _ => .oth rfl
  | .dset _, _, _ => .oth rfl
theorem reps_grows {b : Addr} {ys : List V} {x : V} (hb : H b = some (.lst ys)) : ∀ (ds : List D) (vs : List V), RepSs H N (B + 1) vs ds → RepSs (upd H b (.lst (ys ++ [x]))) N B vs ds
  | [], _, r => by cases r; exact .nil
  | d :: ds, _, r => by
    cases r with
    | cons q t => exact .cons (reps_grow hb d _ q) (reps_grows hb ds _ t)
end
end
/-- a path into what a slot holds, its last step first -/
def dfol (d : D) : List Nat → Option D
  | [] => some d
  | k :: p => (dfol d p).bind fun e => match e with
    | .lst xs => xs[k]?
    | .tup xs => xs[k]?
    | _ => none
inductive Fol (H : Hp) (v : V) : List Nat → V → Prop
  | nil : Fol H v [] v
  | step {p : List Nat} {k : Nat} {b : Addr} {xs : List V} {w : V} : Fol H v p (.ref b) → (H b = some (.lst xs) ∨ H b = some (.tup xs)) → xs[k]? = some w → Fol H v (k :: p) w
theorem fol_of {H : Hp} {N : Addr → Prop} {B : Nat} {v : V} {d : D} (r : RepS H N B v d) : ∀ {p : List Nat} {e : D}, dfol d p = some e → ∃ w, Fol H v p w ∧ RepS H N B w e
  | [], e, h => by cases h; exact ⟨v, .nil, r⟩
  | k :: p, e, h => by
    obtain ⟨e1, h1, h2⟩ := Option.bind_eq_some_iff.mp h
    obtain ⟨w, f, rw'⟩ := fol_of r h1
    cases e1 with
    | lst xs =>
      cases rw' with
      | @lst a vs ex _ e2 n l q =>
        obtain ⟨u, q1, q2⟩ := q.get h2
        exact ⟨u, .step f (.inl e2) (by rw [List.getElem?_append_left (List.getElem?_eq_some_iff.mp q1).1]; exact q1), q2⟩
      | oth h => cases h
    | tup xs =>
      cases rw' with
      | @tup a vs _ e2 q =>
        obtain ⟨u, q1, q2⟩ := q.get h2
        exact ⟨u, .step f (.inr e2) q1, q2⟩
      | oth h => cases h
    | _ => cases h2
def tAt (i : Nat) (p : List Nat) : TE := fun σ H Q => ∃ v w, σ[i]? = some (some v) ∧ Fol H v p w ∧ Q w H
section
variable {X : Cx} {a e : Expr} {i k : Nat} {p : List Nat}
theorem pa_nm (h : PE X a (tVar i)) : PE X a (tAt i []) := h.imp fun σ H Q ⟨v, w, e, f, q⟩ => by
  cases f
  exact ⟨v, e, q⟩
theorem pa_ix {j : Nat} {kp ip : Pos} (h : PE X a (tAt i p)) : PE X (.Subscript a (.Constant (.int (k : Nat)) j kp) ip) (tAt i (k :: p)) := (pe_ix ix_seq h pe_int (fun _ _ => rfl)).imp fun σ H Q ⟨v, w, e, f, q⟩ => by
  cases f with
  | @step _ _ b xs _ f hb hk =>
    refine ⟨v, _, e, f, ?_⟩
    rcases hb with hb | hb
    · exact .inl ⟨b, xs, _, w, rfl, rfl, SqL.of hb, atI_nat hk, q⟩
    · exact .inr (.inl ⟨b, xs, _, w, rfl, rfl, SqT.of hb, atI_nat hk, q⟩)
/-- ..append('odd') -/
def tOddP (i : Nat) (p : List Nat) : TS := fun D σ H => ∃ v b ys, σ[i]? = some (some v) ∧ Fol H v p (.ref b) ∧ H b = some (.lst ys) ∧ ys.length < sizeLine ∧ D.nx σ (upd H b (.lst (ys ++ [.str "odd"])))
theorem ps_oddP {apos pos p2 sp : Pos} {sj : Nat} (hv : PE X a (tAt i p)) (hbase : attributeBase a "append" X.env (eval a X.env) = eval a X.env := by rfl)
    (hfew : ((backTo pos (starEach [.Constant (.str "odd") sj sp] X.env)).all (fun x => !x.1) && (backToKw pos (keywordEach [] X.env)).all (fun x => x.1.isSome) && decide ([Expr.Constant (.str "odd") sj sp].length + ([] : List Keyword).length + (if ([] : List Keyword).isEmpty then 0 else 1) < 30)) = true := by rfl)
    (hline : (apos.endLine == pos.line) = true := by rfl) (hs : starEach [.Constant (.str "odd") sj sp] X.env = (false, eval (.Constant (.str "odd") sj sp) X.env) :: starEach [] X.env := by rfl)
    (hsw : swapsWith (.Call (.Attribute a "append" apos) [.Constant (.str "odd") sj sp] [] pos) none p2.line X.env = pure false := by rfl) :
    PS X (.Expr (.Call (.Attribute a "append" apos) [.Constant (.str "odd") sj sp] [] pos) p2) (tOddP i p) :=
  (ps_expr (pe_bm PySem.F.plainAttrs_list PySem.F.slot_list_append PySem.F.type_list_append mt_append hv (pa_cons pe_str pa_nil hs) hbase hfew hline hs rfl) hsw).imp fun D σ H ⟨v, b, ys, e, f, h, hz, q⟩ =>
    ⟨v, .ref b, e, f, .inl ⟨rfl, ys, SqL.of h⟩, b, ys, .str "odd", rfl, rfl, h, hz, q⟩
def tOdds : List (Nat × List Nat) → TS
  | [] => tNext
  | q :: r => tSeq (tOddP q.1 q.2) (tOdds r)
theorem pso_nil : PSs X [] (tOdds []) := pss_nil
theorem pso_cons {st : Stmt} {sts : List Stmt} {r : List (Nat × List Nat)} (h : PS X st (tOddP i p)) (t : PSs X sts (tOdds r)) : PSs X (st :: sts) (tOdds ((i, p) :: r)) := pss_cons h t
end
def okAt (δ : Dlt) (q : Nat × List Nat) : Bool := match δ[q.1]? with
  | some (.val d) => d.sm && (match dfol d q.2 with
    | some (.lst _) => true
    | _ => false)
  | _ => false
def sOdd (ps : List (Nat × List Nat)) : S := fun δ => if ps.length ≤ 1000 ∧ ps.all (okAt δ) = true then pure (.nx (δ.map unSl)) else stuck
theorem odds_run {F1 Hs : Hp} {De : Ends} {σ : L2.St} : ∀ (ps : List (Nat × List Nat)) (H : Hp), (∀ a, F1 a = none → H a = Hs a) → (∀ q ∈ ps, ∃ v d e, σ[q.1]? = some (some v) ∧ RepS H (fun a => F1 a ≠ none) ps.length v d ∧ dfol d q.2 = some (.lst e)) →
    (∀ H', (∀ a, F1 a = none → H' a = Hs a) → De.nx σ H') → tOdds ps De σ H
  | [], H, h1, _, h3 => h3 H h1
  | q :: r, H, h1, h2, h3 => by
    obtain ⟨v, d, e, e1, rd, e2⟩ := h2 q List.mem_cons_self
    obtain ⟨w, f, rw'⟩ := fol_of rd e2
    cases rw' with
    | oth h => cases h
    | @lst b vs ex _ e3 n l _ =>
      refine ⟨v, b, vs ++ ex, e1, f, e3, ?_, ?_⟩
      · rw [List.length_cons] at l
        omega
      · refine odds_run r _ (fun a ha => ?_) (fun q' hq => ?_) h3
        · rw [upd_ne (fun z => n (by rw [← z]; exact ha))]
          exact h1 a ha
        · obtain ⟨v', d', e', k1, k2, k3⟩ := h2 q' (List.mem_cons_of_mem _ hq)
          exact ⟨v', d', e', k1, reps_grow e3 d' v' (by rw [List.length_cons] at k2; exact k2), k3⟩
section
variable {X : Cx} {c : C} {sts : List Stmt} {ps : List (Nat × List Nat)}
theorem dSS_odd (h : PSs X sts (tOdds ps)) : PSs X sts (tSS c (sOdd ps)) := h.imp fun D σ H ⟨F0, H0, F, HE, gE, F1, δ, g, r, g', so, hb, w, si, o, q⟩ => by
  unfold sOdd at o
  split at o
  · rename_i hc
    obtain ⟨rfl, rfl⟩ := ok_pure.mp o
    refine odds_run (F1 := F1) (Hs := H) ps H (fun _ _ => rfl) (fun p hp => ?_) fun H' hH => ?_
    · have k := List.all_eq_true.mp hc.2 p hp
      unfold okAt at k
      split at k
      · rename_i d hd
        rw [Bool.and_eq_true] at k
        obtain ⟨v, e1, r⟩ := w.val _ _ hd
        obtain ⟨k1, k2⟩ := k
        split at k2
        · rename_i e he
          exact ⟨v, d, e, e1, reps_of w.le (by omega) d v k1 r, he⟩
        · cases k2
      · cases k
    · obtain ⟨w', s'⟩ := scope_out so hb w si hH
      exact q σ H' w' s'
  · exact absurd o not_ok_stuck
end
end DL

/-! ## DOps4 -/
set_option Elab.async false
set_option autoImplicit false
set_option linter.all false
set_option maxRecDepth 100000
set_option maxHeartbeats 4000000
/-! DOps4: x is True, repr of data with {} within, divmod, list(range(..)), reversed of what is read alone. -/
namespace DL
open PySem PySem.Spec PyProof.Rows L2
/-! ### is True, is False -/
def dIsBl (b : Bool) (d : D) : M D := match d with
  | .bl c => pure (.bl (decide (c = b)))
  | .bor _ => stuck
  | _ => pure (.bl false)
def dNotBl (b : Bool) (d : D) : M D := match d with
  | .bl c => pure (.bl (!decide (c = b)))
  | .bor _ => stuck
  | _ => pure (.bl true)
section
variable {M' : Model} {A : Around} {E : Value → Shared → Prop} {s : Shared}
theorem is_bl_gen {v : Value} {b : Bool} {Q : Value → Shared → Prop} (hv : ∀ p, v ≠ .builtin p) (h : Q (.bool (v == .bool b)) s) : wpAny M' A (compareOp .Is v (.bool b)) Q E s := by
  cases v with
  | builtin p => exact absurd rfl (hv p)
  | _ => exact wpAny_pure h
theorem isnot_bl_gen {v : Value} {b : Bool} {Q : Value → Shared → Prop} (hv : ∀ p, v ≠ .builtin p) (h : Q (.bool (!(v == .bool b))) s) : wpAny M' A (compareOp .IsNot v (.bool b)) Q E s := by
  cases v with
  | builtin p => exact absurd rfl (hv p)
  | _ => exact wpAny_pure h
end
theorem relV_bl {x : V} {v : Value} {b : Bool} (r : RelV x v) (hx : ∀ n, x ≠ .ty n) : (v == Value.bool b) = decide (x = .bl b) ∧ ∀ p, v ≠ .builtin p := by
  cases x with
  | non => cases r; exact ⟨rfl, fun p z => nomatch z⟩
  | bl c => cases r; exact ⟨by cases b <;> cases c <;> rfl, fun p z => nomatch z⟩
  | int _ => obtain ⟨t, rfl⟩ := r; exact ⟨rfl, fun p z => nomatch z⟩
  | str _ => obtain ⟨t, rfl⟩ := r; exact ⟨rfl, fun p z => nomatch z⟩
  | byt _ => obtain ⟨t, rfl⟩ := r; exact ⟨rfl, fun p z => nomatch z⟩
  | flt _ => obtain ⟨t, rfl⟩ := r; exact ⟨rfl, fun p z => nomatch z⟩
  | ref _ => cases r; exact ⟨rfl, fun p z => nomatch z⟩
  | ty n => exact absurd rfl (hx n)
section
variable {X : Cx} {c : C} {a e e2 : Expr} {fa f f2 : E} {pos p : Pos}
def blB (b : Bool) : D → Bool
  | .bl c => decide (c = b)
  | _ => false
theorem isBl_rep {F : Hp} {v : V} {d : D} {b : Bool} (hb : ∀ e, d ≠ .bor e) (r : Rep c F v d) : (∀ n, v ≠ .ty n) ∧ decide (v = .bl b) = blB b d := by
  cases r with
  | bl x => exact ⟨fun n z => (nomatch z), by cases x <;> cases b <;> rfl⟩
  | bor _ => exact absurd rfl (hb _)
  | _ => exact ⟨fun n z => (nomatch z), rfl⟩
theorem isBl_b {F H : Hp} {v : V} {d : D} {b : Bool} (hb : ∀ e, d ≠ .bor e) (r : RepB c F H v d) : (∀ n, v ≠ .ty n) ∧ decide (v = .bl b) = blB b d := by
  rcases r with r | ⟨a, vs, ds, rfl, rfl, _⟩
  · exact isBl_rep hb r
  · exact ⟨fun n z => (nomatch z), rfl⟩
theorem pc_isBl {b : Bool} {j pos'} (ha : PE X a (tR c fa)) : PC X .Is a (.Constant (.bool b) j pos') (tP c (eF (dIsBl b) fa)) := by
  refine ⟨fun pins s σ H Q I ⟨H0, F, δ, g, d, g', w, o, q⟩ => ?_⟩
  obtain ⟨x, g1, o1, o⟩ := ok_bind.mp o
  refine thn (ha.run pins s σ H (fun v H1 => ∃ F1, Stp c F H F1 H1 g1 ∧ RepB c F1 H1 v x) I ⟨H0, F, δ, g, x, g1, w, o1, fun v F1 H1 s1 r1 => ⟨F1, s1, r1⟩⟩) fun v s1 ⟨y, H1, I1, r1, F1, st, rb⟩ => ?_
  have hb : ∀ e, x ≠ .bor e := fun e z => by subst z; exact absurd o not_ok_stuck
  obtain ⟨k1, k2⟩ := isBl_b (b := b) hb rb
  obtain ⟨k3, k4⟩ := relV_bl (b := b) r1 k1
  refine Constant_bool (is_bl_gen k4 ?_)
  rw [k3, k2]
  unfold dIsBl at o
  split at o
  · obtain ⟨rfl, rfl⟩ := ok_pure.mp o
    exact ⟨.bl _, H1, I1, rfl, q _ F1 H1 st (.bl _)⟩
  · exact absurd o not_ok_stuck
  · obtain ⟨rfl, rfl⟩ := ok_pure.mp o
    refine ⟨.bl _, H1, I1, ?_, q _ F1 H1 st (.bl _)⟩
    rename_i h1 h2 h3
    have e : blB b x = false := by cases x <;> first | rfl | exact absurd rfl (h1 _) | exact absurd rfl (h2 _)
    rw [e]
    rfl
theorem pc_notBl {b : Bool} {j pos'} (ha : PE X a (tR c fa)) : PC X .IsNot a (.Constant (.bool b) j pos') (tP c (eF (dNotBl b) fa)) := by
  refine ⟨fun pins s σ H Q I ⟨H0, F, δ, g, d, g', w, o, q⟩ => ?_⟩
  obtain ⟨x, g1, o1, o⟩ := ok_bind.mp o
  refine thn (ha.run pins s σ H (fun v H1 => ∃ F1, Stp c F H F1 H1 g1 ∧ RepB c F1 H1 v x) I ⟨H0, F, δ, g, x, g1, w, o1, fun v F1 H1 s1 r1 => ⟨F1, s1, r1⟩⟩) fun v s1 ⟨y, H1, I1, r1, F1, st, rb⟩ => ?_
  have hb : ∀ e, x ≠ .bor e := fun e z => by subst z; exact absurd o not_ok_stuck
  obtain ⟨k1, k2⟩ := isBl_b (b := b) hb rb
  obtain ⟨k3, k4⟩ := relV_bl (b := b) r1 k1
  refine Constant_bool (isnot_bl_gen k4 ?_)
  rw [k3, k2]
  unfold dNotBl at o
  split at o
  · obtain ⟨rfl, rfl⟩ := ok_pure.mp o
    exact ⟨.bl _, H1, I1, rfl, q _ F1 H1 st (.bl _)⟩
  · exact absurd o not_ok_stuck
  · obtain ⟨rfl, rfl⟩ := ok_pure.mp o
    refine ⟨.bl _, H1, I1, ?_, q _ F1 H1 st (.bl _)⟩
    rename_i h1 h2 h3
    have e : blB b x = false := by cases x <;> first | rfl | exact absurd rfl (h1 _) | exact absurd rfl (h2 _)
    rw [e]
    rfl

theorem d_isBl {b : Bool} {j pos'} (ha : PE X a (tR c fa)) : PE X (.Compare a [.Is] [.Constant (.bool b) j pos'] pos) (tP c (eF (dIsBl b) fa)) := pe_cmp (pc_isBl ha) rfl
theorem d_notBl {b : Bool} {j pos'} (ha : PE X a (tR c fa)) : PE X (.Compare a [.IsNot] [.Constant (.bool b) j pos'] pos) (tP c (eF (dNotBl b) fa)) := pe_cmp (pc_notBl ha) rfl
theorem dt_isBl {b : Bool} {j pos'} (ha : PE X a (tR c fa)) : PT X (.Compare a [.Is] [.Constant (.bool b) j pos'] pos) (tT c (eF (dIsBl b) fa)) := (pt_cmp (pc_isBl ha) rfl).imp fun σ H Q ⟨H0, F, δ, g, d, g', w, o, q⟩ =>
  ⟨H0, F, δ, g, .bl d, g', w, o, fun v F1 H1 s1 r => by cases r; exact ⟨_, rfl, q F1 H1 s1⟩⟩
theorem dt_notBl {b : Bool} {j pos'} (ha : PE X a (tR c fa)) : PT X (.Compare a [.IsNot] [.Constant (.bool b) j pos'] pos) (tT c (eF (dNotBl b) fa)) := (pt_cmp (pc_notBl ha) rfl).imp fun σ H Q ⟨H0, F, δ, g, d, g', w, o, q⟩ =>
  ⟨H0, F, δ, g, .bl d, g', w, o, fun v F1 H1 s1 r => by cases r; exact ⟨_, rfl, q F1 H1 s1⟩⟩

/-! ### repr, {} within -/
mutual
def D.rq : Nat → D → Bool
  | n + 1, .lst xs => rqs n xs
  | n + 1, .tup xs => rqs n xs
  | _, .dct [] => true
  | _, .non => true
  | _, .bl _ => true
  | _, .int i => decide (i.natAbs.log2 < 1920)
  | _, .str x => PyData.strOk x
  | _, _ => false
def rqs : Nat → List D → Bool
  | _, [] => true
  | n, x :: xs => D.rq n x && rqs n xs
end
theorem rq_gen (n : Nat) : D.rq n .gen = false := by cases n <;> rfl
theorem rq_fn (n : Nat) {x : Str} : D.rq n (.fn x) = false := by cases n <;> rfl
theorem rq_exc (n : Nat) {x : Str} {d : D} : D.rq n (.exc x d) = false := by cases n <;> rfl
theorem rq_thr (n : Nat) {x : Str} {d : D} : D.rq n (.thr x d) = false := by cases n <;> rfl
theorem rq_dset (n : Nat) {d : List (List (Int ⊕ Str))} : D.rq n (.dset d) = false := by cases n <;> rfl
theorem rq_bor (n : Nat) {d : D} : D.rq n (.bor d) = false := by cases n <;> rfl
theorem rqs_all {n : Nat} : ∀ {xs : List D}, rqs n xs = true ↔ ∀ d ∈ xs, d.rq n = true
  | [] => by simp [rqs]
  | x :: xs => by
    have := rqs_all (n := n) (xs := xs)
    simp [rqs, this]
section
variable {pins : List (Addr × Obj)} {σ : L2.St} {H : Hp} {s : Shared}
mutual
theorem rq_reads (I : Inv X pins σ H s) {F : Hp} (le : Same F H) : ∀ (n : Nat) (d : D) (v : V) (u : Value), d.rq n = true → Rep c F v d → RelV v u → ∃ as, Reads s.heap u d.py as
  | _, .non, _, _, _, r, rv => by cases r; cases rv; exact ⟨_, Reads.none⟩
  | _, .bl b, _, _, _, r, rv => by cases r; cases rv; exact ⟨_, Reads.bool b⟩
  | _, .int i, _, _, _, r, rv => by cases r; obtain ⟨t, rfl⟩ := rv; exact ⟨_, Reads.int i t⟩
  | _, .str x, _, _, _, r, rv => by cases r; obtain ⟨t, rfl⟩ := rv; exact ⟨_, Reads.str x t⟩
  | 0, .lst ds, _, _, h, _, _ => by simp [D.rq] at h
  | 0, .tup ds, _, _, h, _, _ => by simp [D.rq] at h
  | n + 1, .lst ds, _, _, h, r, rv => by
    cases r with
    | @lst _ a vs _ e q =>
      cases rv
      obtain ⟨its, rvs, ⟨o, m, ho, hc, _, hd⟩, _⟩ := I.list (SqL.of (le _ _ e))
      obtain ⟨as, hr⟩ := rq_readss I le n ds vs its (by simpa [D.rq] using h) q rvs
      exact ⟨_, Reads.list ho hc hd hr⟩
  | n + 1, .tup ds, _, _, h, r, rv => by
    cases r with
    | @tup _ a vs _ e q =>
      cases rv
      obtain ⟨_, its, rvs, o, ho, hc, _, hd⟩ := I.hok a _ (le _ _ e)
      obtain ⟨as, hr⟩ := rq_readss I le n ds vs its (by simpa [D.rq] using h) q rvs
      exact ⟨_, Reads.tuple ho hc hd hr⟩
  | _, .dct kvs, _, _, _, r, rv => by
    cases r with
    | @dct0 _ a ea =>
      cases rv
      obtain ⟨_, hsm, vs, kv, o, es, ep, e1, e2, e3, _, e4, _⟩ := I.hok a _ (le _ _ ea)
      cases kv
      have en : es.toList = [] := by
        cases e5 : es.toList with
        | nil => rfl
        | cons x r => rw [e5] at e4; cases e4
      exact ⟨_, Reads.dict (kvs := []) (as := []) (bs := []) e1 e2.1 e3 (by rw [en]; exact .nil) (by rw [en]; exact .nil)⟩
  | _, .gen, _, _, h, _, _ => by rw [rq_gen] at h; cases h
  | _, .fn _, _, _, h, _, _ => by rw [rq_fn] at h; cases h
  | _, .exc _ _, _, _, h, _, _ => by rw [rq_exc] at h; cases h
  | _, .thr _ _, _, _, h, _, _ => by rw [rq_thr] at h; cases h
  | _, .bor _, _, _, h, _, _ => by rw [rq_bor] at h; cases h
  | _, .dset _, _, _, h, _, _ => by rw [rq_dset] at h; cases h
theorem rq_readss (I : Inv X pins σ H s) {F : Hp} (le : Same F H) : ∀ (n : Nat) (ds : List D) (vs : List V) (us : List Value), rqs n ds = true → RepAll c F vs ds → Vals vs us → ∃ as, ReadsAll s.heap us (pys ds) as
  | _, [], _, _, _, r, rv => by cases r; cases rv; exact ⟨_, ReadsAll.nil⟩
  | n, d :: ds, _, _, h, r, rv => by
    simp only [rqs, Bool.and_eq_true] at h
    cases r with
    | cons r1 r2 =>
      cases rv with
      | cons v1 v2 =>
        obtain ⟨as, q1⟩ := rq_reads I le n d _ _ h.1 r1 v1
        obtain ⟨bs, q2⟩ := rq_readss I le n ds _ _ h.2 r2 v2
        exact ⟨_, ReadsAll.cons q1 q2⟩
end
mutual
/-- how what is printed of such data comes about: of dicts alone it is to be known that none is sys.modules -/
theorem rq_repr (I : Inv X pins σ H s) {F : Hp} (le : Same F H) : ∀ (n : Nat) (d : D) (v : V) (u : Value), d.rq n = true → Rep c F v d → RelV v u → d.py.shown.length ≤ sizeLine → ∃ bs, ReadAtMost s.heap d.py.depth bs ∧ ReprK X.prog X.w bs s.heap d.py.depth u d.py.shown
  | _, .non, _, _, _, r, rv, _ => by cases r; cases rv; exact ⟨[], (fun _ z => nomatch z), .of_is ReprIs.none _ _ _⟩
  | _, .bl b, _, _, _, r, rv, _ => by
    cases r; cases rv
    refine ⟨[], (fun _ z => nomatch z), ?_⟩
    have q : ReprK X.prog X.w [] s.heap (D.bl b).py.depth (.bool b) (if b then Str.ofString "True" else Str.ofString "False") := .of_is (ReprIs.bool b) _ _ _
    cases b <;> exact q
  | n, .int i, _, _, h, r, rv, _ => by
    cases r; obtain ⟨t, rfl⟩ := rv
    exact ⟨[], (fun _ z => nomatch z), .of_is (ReprIs.int t (by cases n <;> exact of_decide_eq_true h)) _ _ _⟩
  | _, .str x, _, _, _, r, rv, hz => by cases r; obtain ⟨t, rfl⟩ := rv; exact ⟨[], (fun _ z => nomatch z), .of_is (ReprIs.str x t hz) _ _ _⟩
  | 0, .lst ds, _, _, h, _, _, _ => by simp [D.rq] at h
  | 0, .tup ds, _, _, h, _, _, _ => by simp [D.rq] at h
  | n + 1, .lst ds, _, _, h, r, rv, hz => by
    cases r with
    | @lst _ a vs _ e q =>
      cases rv
      obtain ⟨its, rvs, ⟨o, m, ho, hc, _, hd⟩, _⟩ := I.list (SqL.of (le _ _ e))
      have hh : rqs n ds = true := by simpa [D.rq] using h
      obtain ⟨as, hr⟩ := rq_readss I le n ds vs its hh q rvs
      have rd : Reads s.heap (.ref a) (.list (pys ds)) _ := Reads.list ho hc hd hr
      obtain ⟨bs, hb, hk⟩ := rq_reprs I le n ds vs its hh q rvs fun t ht => Nat.le_trans (listText_mem_le ht) hz
      have na : a ∉ bs := not_mem_of_deeper rd (Nat.lt_succ_self _) hb
      refine ⟨a :: bs, ReadAtMost.cons rd (Nat.le_succ _) hb, ?_⟩
      cases its with
      | nil =>
        cases hr' : pys ds with
        | nil =>
          have e2 : (D.lst ds).py = .list [] := by rw [D.py, hr']
          rw [e2]
          exact (ReprK.listEmpty (as := []) ho hc hd).more fun _ z => absurd z (List.not_mem_nil)
        | cons y r => rw [hr'] at hr; cases hr
      | cons x l => exact ReprK.list ho hc hd na (by have := hk.length_eq; simpa using this) fun i y ey => hk.item i y (by simpa using ey)
  | n + 1, .tup ds, _, _, h, r, rv, hz => by
    cases r with
    | @tup _ a vs _ e q =>
      cases rv
      obtain ⟨_, its, rvs, o, ho, hc, _, hd⟩ := I.hok a _ (le _ _ e)
      have hh : rqs n ds = true := by simpa [D.rq] using h
      obtain ⟨as, hr⟩ := rq_readss I le n ds vs its hh q rvs
      have rd : Reads s.heap (.ref a) (.tuple (pys ds)) _ := Reads.tuple ho hc hd hr
      obtain ⟨bs, hb, hk⟩ := rq_reprs I le n ds vs its hh q rvs fun t ht => Nat.le_trans (tupleText_mem_le ht) hz
      exact ⟨a :: bs, ReadAtMost.cons rd (Nat.le_succ _) hb, ReprK.tuple ho hc hd (not_mem_of_deeper rd (Nat.lt_succ_self _) hb) hk⟩
  | _, .dct kvs, _, _, _, r, rv, _ => by
    cases r with
    | @dct0 _ a ea =>
      cases rv
      obtain ⟨_, hsm, vs, kv, o, es, ep, e1, e2, e3, _, e4, _⟩ := I.hok a _ (le _ _ ea)
      cases kv
      have en : es.toList = [] := by
        cases e5 : es.toList with
        | nil => rfl
        | cons x r => rw [e5] at e4; cases e4
      have rd : Reads s.heap (.ref a) (.dict []) _ := Reads.dict (kvs := []) (as := []) (bs := []) e1 e2.1 e3 (by rw [en]; exact .nil) (by rw [en]; exact .nil)
      exact ReprK.of_reads rd rfl (fun _ hm => by
        have z : sysModules = a := by simpa using hm
        rw [z] at hsm
        simp at hsm) (by decide +kernel)
  | _, .gen, _, _, h, _, _, _ => by rw [rq_gen] at h; cases h
  | _, .fn _, _, _, h, _, _, _ => by rw [rq_fn] at h; cases h
  | _, .exc _ _, _, _, h, _, _, _ => by rw [rq_exc] at h; cases h
  | _, .thr _ _, _, _, h, _, _, _ => by rw [rq_thr] at h; cases h
  | _, .bor _, _, _, h, _, _, _ => by rw [rq_bor] at h; cases h
  | _, .dset _, _, _, h, _, _, _ => by rw [rq_dset] at h; cases h
theorem rq_reprs (I : Inv X pins σ H s) {F : Hp} (le : Same F H) : ∀ (n : Nat) (ds : List D) (vs : List V) (us : List Value), rqs n ds = true → RepAll c F vs ds → Vals vs us → (∀ t ∈ PyData.shownAll (pys ds), t.length ≤ sizeLine) →
    ∃ bs, ReadAtMost s.heap (PyData.depthAll (pys ds)) bs ∧ ReprAllK X.prog X.w bs s.heap (PyData.depthAll (pys ds)) us (PyData.shownAll (pys ds))
  | _, [], _, _, _, r, rv, _ => by cases r; cases rv; exact ⟨[], (fun _ z => nomatch z), .nil⟩
  | n, d :: ds, _, _, h, r, rv, hz => by
    simp only [rqs, Bool.and_eq_true] at h
    cases r with
    | cons r1 r2 =>
      cases rv with
      | cons v1 v2 =>
        obtain ⟨b1, m1, k1⟩ := rq_repr I le n d _ _ h.1 r1 v1 (hz _ List.mem_cons_self)
        obtain ⟨b2, m2, k2⟩ := rq_reprs I le n ds _ _ h.2 r2 v2 fun t ht => hz t (List.mem_cons_of_mem _ ht)
        refine ⟨b1 ++ b2, (m1.mono (Nat.le_max_left _ _)).append (m2.mono (Nat.le_max_right _ _)), .cons ?_ ?_⟩
        · exact (k1.more fun b hb => List.mem_append_left _ hb).level_le (Nat.le_max_left _ _)
        · exact k2.more_le (fun b hb => List.mem_append_right _ hb) (Nat.le_max_right _ _)
end
mutual
theorem rq_lay : ∀ (n : Nat) (d : D), d.rq n = true → d.py.showable = true ∧ d.py.depth ≤ n + 1
  | _, .non, _ => by simp [D.py, PyData.depth, PyData.showable]
  | _, .bl b, _ => by simp [D.py, PyData.depth, PyData.showable]
  | n, .int i, h => by
    have q : i.natAbs.log2 < 1920 := by cases n <;> exact of_decide_eq_true h
    simp [D.py, PyData.depth, PyData.showable, q]
  | n, .str x, h => by
    have q : PyData.strOk x = true := by cases n <;> exact h
    simp [D.py, PyData.depth, PyData.showable, q]
  | 0, .lst ds, h => by cases h
  | 0, .tup ds, h => by cases h
  | n + 1, .lst ds, h => by
    obtain ⟨h1, h2⟩ := rq_lays n ds h
    simp only [D.py, PyData.depth, PyData.showable]
    exact ⟨h1, by omega⟩
  | n + 1, .tup ds, h => by
    obtain ⟨h1, h2⟩ := rq_lays n ds h
    simp only [D.py, PyData.depth, PyData.showable]
    exact ⟨h1, by omega⟩
  | n, .dct kvs, h => by
    cases kvs with
    | nil => simp [D.py, pyKv, PyData.depth, PyData.showable, PyData.depthKv, PyData.showableKv]
    | cons _ _ => cases n <;> cases h
  | n, .gen, h => by rw [rq_gen] at h; cases h
  | n, .fn _, h => by rw [rq_fn] at h; cases h
  | n, .exc _ _, h => by rw [rq_exc] at h; cases h
  | n, .thr _ _, h => by rw [rq_thr] at h; cases h
  | n, .bor _, h => by rw [rq_bor] at h; cases h
  | n, .dset _, h => by rw [rq_dset] at h; cases h
theorem rq_lays : ∀ (n : Nat) (ds : List D), rqs n ds = true → PyData.showableAll (pys ds) = true ∧ PyData.depthAll (pys ds) ≤ n + 1
  | _, [], _ => by simp [pys, PyData.depthAll, PyData.showableAll]
  | n, d :: ds, h => by
    simp only [rqs, Bool.and_eq_true] at h
    obtain ⟨h1, h2⟩ := rq_lay n d h.1
    obtain ⟨k1, k2⟩ := rq_lays n ds h.2
    simp only [pys, PyData.depthAll, PyData.showableAll, h1, k1]
    exact ⟨rfl, by omega⟩
end
def dReprN (d : D) : M D := if d.rq 60 && lim d.py.shown.length then pure (.str d.py.shown) else stuck
theorem reprN_c (hg : X.A.guards = some []) (hu : X.A.units + 65 < cLine) : CallR X (.builtin "repr") (c1 c dReprN) := by
  intro pins s σ H xs us Q I rv h
  obtain ⟨x, rfl, F, d, d', g, g', le, gen, r, o, q⟩ := h
  obtain ⟨u, rfl, rx⟩ := Vals.one rv
  unfold dReprN at o
  split at o
  · rename_i hh
    obtain ⟨rfl, rfl⟩ := ok_pure.mp o
    rw [Bool.and_eq_true] at hh
    have hz : d.py.shown.length ≤ sizeLine := lim_le hh.2
    have q : Q (.str d.py.shown) H := q _ F H (.refl le gen) (.str _)
    obtain ⟨l1, l2⟩ := rq_lay 60 d hh.1
    have fin : ∀ (h' : Heap) (t : Tok) tk, (∀ b o, s.heap.get? b = some o → h'.get? b = some o) → EP X pins σ Q (.str d.py.shown t) { s with heap := h', toks := tk } := fun h' t tk hk => ⟨.str d.py.shown, H, I.kept hk, ⟨_, rfl⟩, q⟩
    cases d with
    | lst ds =>
      obtain ⟨a, vs, rfl, ea, ra⟩ := r.lst le
      cases rx
      have hh1 : rqs 59 ds = true := by simpa [D.rq] using hh.1
      obtain ⟨its, rvs, ⟨o, m, ho, hc, _, hd⟩, _⟩ := I.list (SqL.of ea)
      obtain ⟨as, hr⟩ := rq_readss I le 59 ds vs its hh1 ra rvs
      have rd : Reads s.heap (.ref a) (.list (pys ds)) _ := Reads.list ho hc hd hr
      obtain ⟨bs, hb, hk⟩ := rq_reprs I le 59 ds vs its hh1 ra rvs fun t ht => Nat.le_trans (listText_mem_le ht) hz
      have na : a ∉ bs := not_mem_of_deeper rd (Nat.lt_succ_self _) hb
      have l3 : PyData.depthAll (pys ds) + 1 ≤ 61 := l2
      refine call_repr_slot (by omega) ⟨o, ho, hc⟩ PySem.F.slot_list_repr.toG ?_
      cases its with
      | nil =>
        cases hr' : pys ds with
        | nil =>
          have e2 : (D.lst ds).py = .list [] := by rw [D.py, hr']
          rw [e2] at fin
          exact call_list_repr_empty ⟨o, ho, hc⟩ ho hd ⟨_, _, rfl, fin s.heap _ _ fun _ _ e => e⟩
        | cons y r => rw [hr'] at hr; cases hr
      | cons x l => exact call_list_reprK ho hc hd na (by have := hk.length_eq; simpa using this) (fun i y ey => hk.item i y (by simpa using ey)) hg (fun b _ => Clear.nil b) (by show X.A.units + 1 + _ < cLine; omega) (fun _ _ e => e) (fun h' t tk hk => ⟨_, _, rfl, fin h' t tk hk⟩) hz
    | tup ds =>
      have a1 := r.rep rfl
      cases a1 with
      | @tup _ a vs _ e q =>
        cases rx
        have hh1 : rqs 59 ds = true := by simpa [D.rq] using hh.1
        obtain ⟨_, its, rvs, o, ho, hc, _, hd⟩ := I.hok a _ (le _ _ e)
        obtain ⟨as, hr⟩ := rq_readss I le 59 ds vs its hh1 q rvs
        have rd : Reads s.heap (.ref a) (.tuple (pys ds)) _ := Reads.tuple ho hc hd hr
        obtain ⟨bs, hb, hk⟩ := rq_reprs I le 59 ds vs its hh1 q rvs fun t ht => Nat.le_trans (tupleText_mem_le ht) hz
        have l3 : PyData.depthAll (pys ds) + 1 ≤ 61 := l2
        exact call_repr_slot (by omega) ⟨o, ho, hc⟩ PySem.F.slot_tuple_repr (call_tuple_reprK ho hc hd (not_mem_of_deeper rd (Nat.lt_succ_self _) hb) hk hg (fun b _ => Clear.nil b) (by show X.A.units + 1 + _ < cLine; omega) (fun _ _ e => e) (fun h' t tk hk => ⟨_, _, rfl, fin h' t tk hk⟩) hz)
    | dct kvs =>
      have a1 := r.rep rfl
      cases a1 with
      | @dct0 _ a ea =>
        cases rx
        obtain ⟨_, hsm, vs, kv, o, es, ep, e1, e2, e3, _, e4, _⟩ := I.hok a _ (le _ _ ea)
        cases kv
        have en : es.toList = [] := by
          cases e5 : es.toList with
          | nil => rfl
          | cons x r => rw [e5] at e4; cases e4
        have rd : Reads s.heap (.ref a) (.dict []) _ := Reads.dict (kvs := []) (as := []) (bs := []) e1 e2.1 e3 (by rw [en]; exact .nil) (by rw [en]; exact .nil)
        exact repr_of_reads' rd rfl (fun _ hm => by
          have z : sysModules = a := by simpa using hm
          rw [z] at hsm
          simp at hsm) hg (by simp only [PyData.depth, PyData.depthKv]; omega) (fun _ _ e => e) (fun h' t tk hk => fin h' t tk hk) hz
    | non =>
      have a1 := r.rep rfl
      cases a1
      cases rx
      exact PySem.P.repr_of_none ⟨.str D.non.py.shown, H, I.tok _, ⟨_, rfl⟩, q⟩
    | bl b =>
      have a1 := r.rep rfl
      cases a1
      cases rx
      refine PySem.P.repr_of_bool ⟨.str (D.bl b).py.shown, H, I.tok _, ⟨s.toks, ?_⟩, q⟩
      cases b <;> rfl
    | int i =>
      have a1 := r.rep rfl
      cases a1
      obtain ⟨t, rfl⟩ := rx
      exact PySem.P.repr_of_int (of_decide_eq_true hh.1) ⟨.str (D.int i).py.shown, H, I.tok _, ⟨_, rfl⟩, q⟩
    | str z =>
      have a1 := r.rep rfl
      cases a1
      obtain ⟨t, rfl⟩ := rx
      exact PySem.P.repr_of_str ⟨.str (D.str z).py.shown, H, I.tok _, ⟨_, rfl⟩, q⟩ hz
    | gen => rw [rq_gen] at hh; cases hh.1
    | fn _ => rw [rq_fn] at hh; cases hh.1
    | exc _ _ => rw [rq_exc] at hh; cases hh.1
    | thr _ _ => rw [rq_thr] at hh; cases hh.1
    | bor _ => rw [rq_bor] at hh; cases hh.1
    | dset _ => rw [rq_dset] at hh; cases hh.1
  · exact absurd o not_ok_stuck
end
/-! ### divmod, list(range(n)), reversed of what is read alone -/
def dDivmod (d e : D) : M D := match d, e with
  | .int i, .int j => if 0 < j ∧ Builtin.Int.intBits i ≤ 4000 then pure (.tup [.int (i / j), .int (i % j)]) else stuck
  | _, _ => stuck
def eLR (a : E) : E := fun δ => a δ >>= fun x => match x with
  | .int j => if -1000000 < j ∧ j < 1000000 then pure (.lst ((List.range j.toNat).map fun k => .int (k : Nat))) else stuck
  | _ => stuck
def xVw (a : E) : Es := fun δ => a δ >>= fun x => rowOf x >>= fun xs => pure xs.reverse
theorem RepAll.ofMap {α : Type} {c : C} {F : Hp} {f : α → V} {g : α → D} (h : ∀ x, Rep c F (f x) (g x)) : ∀ xs : List α, RepAll c F (xs.map f) (xs.map g)
  | [] => .nil
  | x :: xs => .cons (h x) (RepAll.ofMap h xs)
section
variable {X : Cx} {c : C} {a e tg : Expr} {fa f : E} {pos p : Pos}
theorem divmod_c : CallR X (.builtin "divmod") (c2 c dDivmod) := by
  intro pins s σ H xs us Q I rv h
  obtain ⟨x, y, rfl, F, d, e, d', g, g', le, gen, r1, r2, o, q⟩ := h
  unfold dDivmod at o
  split at o
  · split at o
    · rename_i hl
      obtain ⟨rfl, rfl⟩ := ok_pure.mp o
      have a1 := r1.rep rfl
      have a2 := r2.rep rfl
      cases a1; cases a2
      refine call_divmodW pins s σ H _ us Q I rv ⟨_, _, rfl, divp_ok hl.1 (by omega), fun p hp => ?_⟩
      exact q _ _ _ (Stp.lay le gen hp) (.tup upd_same (.cons (.int _) (.cons (.int _) .nil)))
    · exact absurd o not_ok_stuck
  · exact absurd o not_ok_stuck
theorem d_lr {p2 : Pos} (hm : X.mg "list" = none) (hr : X.mg "range" = none) (h : PE X a (tR c fa)) (hc : X.calm = true := by rfl) (hg : Gl X "list" := by rfl) (hg2 : Gl X "range" := by rfl) (hs : starEach [a] X.env = (false, eval a X.env) :: starEach [] X.env := by rfl)
    (na : starEach [.Call (.Name "range" p2) [a] [] pos] X.env = (false, eval (.Call (.Name "range" p2) [a] [] pos) X.env) :: starEach [] X.env := by rfl) {pos2 : Pos} : PE X (.Call (.Name "list" p) [.Call (.Name "range" p2) [a] [] pos] [] pos2) (tP c (eLR fa)) :=
  (pe_listRg hc hg hm (prg_1 hg2 hr h hs) na).imp fun σ H Q ⟨H0, F, δ, g, d, g', w, o, q⟩ => by
    obtain ⟨x, g1, o1, o⟩ := ok_bind.mp o
    split at o
    · rename_i j
      split at o
      · rename_i hj
        obtain ⟨rfl, rfl⟩ := ok_pure.mp o
        refine ⟨H0, F, δ, g, _, g1, w, o1, fun v F1 H1 s1 r1 => ?_⟩
        have r1 := r1.rep rfl
        cases r1
        refine ⟨j, rfl, ⟨by omega, by omega, by omega, by omega, by omega⟩, fun b hb => ?_⟩
        have st := Stp.lay (o := .lst (rgV 0 j)) s1.le s1.gen hb
        refine q _ _ _ (s1.trans st) (.lst upd_same ?_)
        unfold rgV
        simp only [Int.sub_zero, Int.zero_add]
        refine RepAll.ofMap (fun k => .int _) _
      · exact absurd o not_ok_stuck
    · exact absurd o not_ok_stuck
/-- for x in reversed(xs), xs read alone too -/
theorem walk_rev {K : PySem.W.Frag} {a : Addr} {vs : List V} {F H : Hp} {zs : List D} (h : ∀ F1 H1, Same F F1 → Same F1 H1 → Same c.bo H1 → H1 a = some (.lst vs)) (ra : RepAll c F vs zs) : WalkD c (Itv K a vs.length) [] F H zs.reverse := by
  have hl := ra.length
  refine ⟨fun _ z => (nomatch z), fun i F2 H2 hi t1 t2 _ sb => ?_, fun F2 H2 t1 t2 _ sb => ?_, fun i F2 H2 g x H3 hi t1 t2 _ gen hy => ?_⟩
  · rw [List.length_reverse] at hi
    obtain ⟨v, hv, _⟩ := ra.get (List.getElem?_eq_getElem (show zs.length - 1 - i < zs.length by omega))
    exact ⟨by omega, vs, v, SqL.of (h F2 H2 t1 t2 sb), by rw [hl]; exact hv⟩
  · show vs.length ≤ _
    rw [List.length_reverse, hl]
    exact Nat.le_refl _
  · obtain ⟨rfl, hx⟩ := hy
    obtain ⟨d, hd, rd⟩ := ra.getV (hx vs (SqL.of (h F2 _ t1 t2 gen.bo)))
    refine ⟨F2, d, ?_, .refl t2 gen, rd.up t1⟩
    rw [List.length_reverse] at hi
    rw [List.getElem?_reverse hi, ← hl]
    exact hd
theorem di_revw (hm : X.mg "reversed" = none) (h : PE X e (tP c f)) (hg : Gl X "reversed" := by rfl) (hs : starEach [e] X.env = [(false, eval e X.env)] := by rfl) : PI X tg (.Call (.Name "reversed" p) [e] [] pos) (iD c (xVw f)) :=
  (pi_reversed hg hm (pa_cons h pa_nil (by rw [hs]; rfl)) hs).imp fun σ H R ⟨H0, F, δ, g, ds, g', w, o, q⟩ => by
    obtain ⟨x, g1, o1, o⟩ := ok_bind.mp o
    obtain ⟨zs, g2, o2, o⟩ := ok_bind.mp o
    obtain ⟨rfl, rfl⟩ := ok_pure.mp o
    unfold rowOf at o2
    split at o2
    · obtain ⟨rfl, rfl⟩ := ok_pure.mp o2
      refine ⟨H0, F, δ, g, _, g1, w, o1, fun v F1 H1 s1 r1 => ?_⟩
      cases r1 with
      | @lst _ a vs _ ea ra => exact ⟨a, vs, rfl, SqL.of (s1.le _ _ ea), q _ F1 H1 s1 (walk_rev (fun F2 H2 t1 t2 _ => t2 _ _ (t1 _ _ ea)) ra)⟩
    · obtain ⟨rfl, rfl⟩ := ok_pure.mp o2
      refine ⟨H0, F, δ, g, _, g1, w, o1, fun v F1 H1 s1 r1 => ?_⟩
      cases r1 with
      | bor r1 =>
        cases r1 with
        | @lst _ a vs _ ea ra => exact ⟨a, vs, rfl, SqL.of (s1.gen.bo _ _ ea), q _ F1 H1 s1 (walk_rev (fun F2 H2 t1 t2 sb => sb _ _ ea) (wrapB_rep ra))⟩
    · exact absurd o2 not_ok_stuck
end
end
end DL

/-! ## DEnd -/
set_option Elab.async false
set_option autoImplicit false
set_option linter.all false
set_option maxRecDepth 100000
set_option maxHeartbeats 4000000
/-! DEnd: the law's own call, by a promise FnQ. -/
namespace DL
open PySem PySem.Spec PyProof.Rows L2
section
variable {P : Program} {w : World} {K : PySem.W.Frag} {mg mb : Str → Option Value} {t : Shared} {p : Addr} {us : List Value}
/-- where the law starts: nothing but the script is tracked -/
theorem start_env {H : Hp} (inK : K.In t.heap) (top : t.heap.Ns mainGlobals mg) (bns : t.heap.Ns builtinsNs mb) (boot : ∀ y : Str, y ≠ "__name__" → mb y = bootBuiltins y) (free : t.heap.NoLimit) (noG : t.gens = #[])
    (sc : t.heap.get? p = some { cls := .type "list", data := .seq us.toArray }) (good : HOk P w H t.heap) (one : ∀ c, H c ≠ none → c = p) (apart : H p ≠ none → K.lookup p = none) :
    ∃ base : Heap, K.In base ∧ base.Ns mainGlobals mg ∧ Env0 P w K mg base callerA [] t H := by
  have low : ∀ {c : Addr} {o : Obj}, t.heap.get? c = some o → c ≠ p ∨ H p = none → (hidT t.heap H).get? c = some o := fun {c o} e n => hidT_get e (by
    by_cases z : c = p
    · rcases n with n | n
      · exact absurd z n
      · rw [z]; exact n
    · cases q : H c with
      | none => rfl
      | some u => exact absurd (one c (by rw [q]; simp)) z)
  have dct : ∀ {c : Addr} {o : Obj} {xs : Array DictEntry} {n : Nat}, t.heap.get? c = some o → o.data = .dict xs n → c ≠ p := fun {c o xs n} e d z => by
    rw [z, sc] at e
    cases e
    have d : Data.seq us.toArray _ = Data.dict xs n := d
    cases d
  have ns : ∀ {c : Addr} {m : Str → Option Value}, t.heap.Ns c m → (hidT t.heap H).Ns c m := fun {c m} ⟨o, xs, n, e, d, r⟩ => ⟨o, xs, n, low e (.inl (dct e d)), d, r⟩
  have inB : K.In (hidT t.heap H) := fun c o e => low (inK c o e) (by
    by_cases z : c = p
    · refine .inr ?_
      cases q : H p with
      | none => rfl
      | some u =>
        have n := apart (by rw [q]; simp)
        rw [z, n] at e; cases e
    · exact .inl z)
  obtain ⟨mc, f1, f2⟩ := free
  refine ⟨_, inB, ns top, { frames := rfl, mod := ⟨inB, ns top, ⟨mb, ns bns, boot⟩, ⟨mc, ns f1, f2⟩⟩, bs := fun c o e => of_hidT e, bsz := Nat.le_of_eq (hidT_size _ _), funs := trivial, frf := fun c hc => ?_, hok := good, bare := .of_eq noG }⟩
  exact absurd (show c ∈ ([] : List Addr) from hc) (by simp)
theorem call_lawQ {k : Nat} {f : Addr} {fd : FuncData} {x : Str} {sp : List V → Hp → VK → Prop} {ns : List Int} (inK : K.In t.heap) (top : t.heap.Ns mainGlobals mg) (bns : t.heap.Ns builtinsNs mb) (boot : ∀ y : Str, y ≠ "__name__" → mb y = bootBuiltins y) (free : t.heap.NoLimit) (noG : t.gens = #[])
    (sc : t.heap.get? p = some { cls := .type "list", data := .seq us.toArray }) (nums : IntsAre us ns) (few : ns.length ≤ sizeLine) (room : Room k callerA) (G : ∀ base : Heap, K.In base → base.Ns mainGlobals mg → FnQ P w K mg base k f fd [x] sp)
    (bind : ∀ (s : Shared) (u : Value), BindsTo s fd ⟨[u], []⟩ [(x, u)]) (keeps : ∀ H : Hp, Only H → SqL K H p (ns.map V.int) → sp [.ref p] H fun v _ => v = .bl true) :
    codeAny (model P w) callerA (.call (.ref f) ⟨[.ref p], []⟩) (fun r s' => r = .ok (.ret (.bool true)) ∧ OldK t.heap s'.heap ∧ s'.os = t.os ∧ AllBare s'.gens) t := by
  have rv := vals_ints nums
  have lv := nums.length
  have go : ∀ H : Hp, Only H → SqL K H p (ns.map V.int) → HOk P w H t.heap → (∀ c, H c ≠ none → c = p) → (H p ≠ none → K.lookup p = none) →
      codeAny (model P w) callerA (.call (.ref f) ⟨[.ref p], []⟩) (fun r s' => r = .ok (.ret (.bool true)) ∧ OldK t.heap s'.heap ∧ s'.os = t.os ∧ AllBare s'.gens) t := fun H only sq good one apart => by
    obtain ⟨base, b1, b2, env⟩ := start_env inK top bns boot free noG sc good one apart
    refine codeAny_mono ((G base b1 b2).run callerA [] t H ⟨[.ref p], []⟩ [.ref p] [.ref p] _ room rfl env (bind t (.ref p)) (.cons rfl .nil) rfl (keeps H only sq)) fun r s' h => ?_
    match r, h with
    | .ok (.ret u), ⟨v, H', os, bare, stay, good', rel, q⟩ =>
      have q : v = .bl true := q
      subst q
      have rel : u = Value.bool true := rel
      subst rel
      refine ⟨rfl, OldK.of_keep fun c o e => ?_, os, bare⟩
      rcases only c with z | ⟨ob, xs, z⟩
      · exact stay.keep c o e z (fun m => absurd (show c ∈ ([] : List Addr) from m) (by simp)) (by simp)
      · obtain ⟨g1, _⟩ := good c _ z
        obtain ⟨g2, _⟩ := good' c _ (stay.frzs c ob _ z)
        rw [e] at g1
        cases g1
        exact g2
  cases lk : K.lookup p with
  | some o =>
    have e := inK p o lk
    rw [sc] at e
    cases e
    exact go (fun _ => none) (fun _ => .inl rfl) (.inr ⟨_, us.toArray, _, lk, rfl, rfl, rfl, by rw [List.size_toArray, lv]; exact few, by simpa using rv⟩) (fun c u z => nomatch (show (none : Option HO) = some u from z)) (fun c z => absurd rfl z) fun z => absurd rfl z
  | none =>
    have at' : ∀ c u, (if c = p then some (HO.frz { cls := .type "list", data := .seq us.toArray } (.lst (ns.map V.int))) else none) = some u → c = p ∧ u = HO.frz { cls := .type "list", data := .seq us.toArray } (.lst (ns.map V.int)) := fun c u e => by
      by_cases z : c = p
      · rw [if_pos z] at e
        exact ⟨z, (Option.some.inj e).symm⟩
      · rw [if_neg z] at e; cases e
    refine go (fun c => if c = p then some (.frz { cls := .type "list", data := .seq us.toArray } (.lst (ns.map V.int))) else none) (fun c => ?_) (.inl (.inr ⟨{ cls := .type "list", data := .seq us.toArray }, if_pos rfl⟩)) (fun c u e => ?_) (fun c n => ?_) fun _ => lk
    · by_cases z : c = p
      · exact .inr ⟨_, _, if_pos z⟩
      · exact .inl (if_neg z)
    · obtain ⟨rfl, rfl⟩ := at' c u e
      exact ⟨sc, by rw [List.length_map]; exact few, us, _, rv, sc⟩
    · by_cases z : c = p
      · exact z
      · exact absurd (if_neg z) n
end
theorem walk_ofQ {l : PySem.W.OpenLaw} {n k : Nat} {q : Program} {loose : List Str} {XP : (Str → Option Value) → Heap → Prop} {YP : World → Heap → Prop} {d : DefRec} {K : Params → PySem.W.Frag} {sp : World → List V → Hp → VK → Prop} {x : Str}
    (most : l.most = some n) (few : n ≤ sizeLine) (nodef : d.params.defaults = []) (room : Room k callerA) (inK : ∀ (w : World) (h : Heap), YP w h → (K w.params).In h)
    (G : ∀ (w : World) (mg : Str → Option Value) (f : Addr) (h : Heap), (K w.params).In h → h.Ns mainGlobals mg → mg d.name = some (.ref f) →
      ∃ fd : FuncData, (∀ (s : Shared) (u : Value), BindsTo s fd ⟨[u], []⟩ [(x, u)]) ∧ ∀ base : Heap, (K w.params).In base → base.Ns mainGlobals mg → FnQ l.prog w (K w.params) mg base k f fd [x] (sp w))
    (keeps : ∀ (w : World) (H : Hp) (p : Addr) (ns : List Int), ns.length ≤ n → Only H → SqL (K w.params) H p (ns.map V.int) → sp w [.ref p] H fun v _ => v = .bl true) :
    PySem.W.WalkO q loose XP YP l.row.toRowW d [] (fun f vs => PySem.call f vs) := by
  refine Att.attach_call most nodef fun w s₀ t mg mb f o pm cd doc p us ns T Y ho hd hcd hm sc nums len noG => ?_
  obtain ⟨fd, b, g⟩ := G w mg f _ (inK w _ Y) T.T.g hm
  exact call_lawQ (inK w _ Y) T.T.g T.T.b T.T.builtins T.T.nolimit noG sc nums (Nat.le_trans len few) room g b fun H o s => keeps w H p ns len o s
end DL

/-! ## DOdd -/
/-! DOdd: nothing (k76 alone needed it). -/

/-! ## DEx -/
set_option Elab.async false
set_option autoImplicit false
set_option linter.all false
set_option maxRecDepth 100000
set_option maxHeartbeats 4000000
/-! DEx: what printed walks of defs that raise and catch name besides. -/
namespace DL
open PySem PySem.Spec PyProof.Rows L2
structure BltX (mg : Str → Option Value) : Prop extends Blt mg where
  reversed_ : mg "reversed" = none
  divmod_ : mg "divmod" = none
  set_ : mg "set" = none
/-- an own error class T, as seen from instances of xs -/
structure ErrT (K : PySem.W.Frag) (mg : Str → Option Value) (xs : List Str) (T : Str) : Prop where
  ex : ∃ CT, mg T = some (.ref CT) ∧ (∀ x, ∀ C, mg x = some (.ref C) → x ∈ xs → ErrIs K mg x C ∧ PySem.W.kitOne K (.ref C) (.ref CT) = some (decide (x = T))) ∧ PySem.W.kitOne K (.type "NoneType") (.ref CT) = some false
def dIsEx (xs : List Str) (T : Str) (d : D) : M D := match d with
  | .exc x _ => if xs.contains x then pure (.bl (decide (x = T))) else stuck
  | .non => pure (.bl false)
  | _ => stuck
def dValx (xs : List Str) (d : D) : M D := match d with
  | .exc x e => if xs.contains x then pure e else stuck
  | _ => stuck
section
variable {X : Cx} {a : Expr} {fa : E} {pos p p2 : Pos} {ga : Option Addr} {bo : Hp}
theorem d_valx {xs : List Str} (T : ∀ x, ∀ C, X.mg x = some (.ref C) → x ∈ xs → ErrIs X.K X.mg x C) (ha : PE X a (tP ⟨X.K, X.mg, ga, bo, X.prog, X.w⟩ fa)) (hb : attributeBase a "value" X.env (eval a X.env) = eval a X.env := by rfl) :
    PE X (.Attribute a "value" pos) (tP ⟨X.K, X.mg, ga, bo, X.prog, X.w⟩ (eF (dValx xs) fa)) := d_val T ha hb
theorem d_isE {T : Str} {xs : List Str} (h : ErrT X.K X.mg xs T) (hm : X.mg "isinstance" = none) (ha : PE X a (tP ⟨X.K, X.mg, ga, bo, X.prog, X.w⟩ fa)) (hg : Gl X "isinstance" := by rfl) (hgT : Gl X T := by rfl) (hdb : (T == ("__debug__" : Str)) = false := by decide)
    (he : starEach [a, .Name T p2] X.env = (false, eval a X.env) :: starEach [.Name T p2] X.env := by rfl) :
    PE X (.Call (.Name "isinstance" p) [a, .Name T p2] [] pos) (tP ⟨X.K, X.mg, ga, bo, X.prog, X.w⟩ (eF (dIsEx xs T) fa)) := by
  obtain ⟨CT, hT, E, hN⟩ := h.ex
  have pn : PE X (.Name T p2) (tC (.ref CT)) := ⟨fun pins s σ H Q I q => ld_glob I hgT hT ⟨.ref CT, H, I, rfl, q⟩ hdb⟩
  refine (pe_callB (isE_c (ga := ga) (bo := bo) hT E hN) hg hm (by rfl) (pa_cons ha (pa_cons pn pa_nil) he) (by decide) (by decide) he rfl).imp fun σ H Q ⟨H0, F, δ, g, d, g', w, o, q⟩ => ?_
  obtain ⟨x, g1, o1, o⟩ := ok_bind.mp o
  exact ⟨H0, F, δ, g, x, g1, w, o1, fun v F1 H1 s1 r1 => ⟨v, F1, x, g1, d, g', rfl, s1.le, s1.gen, r1, o, fun z F2 H2 s2 r2 => q z F2 H2 (s1.trans s2) r2⟩⟩
end
/-- defs by their names: a list -/
def tabOf (l : List (Str × (List D → M D))) : Tab := fun x => l.lookup x
theorem tabB_of {P : Program} {w : World} {K : PySem.W.Frag} {mg : Str → Option Value} {base : Heap} {k : Nat} : ∀ {l : List (Str × (List D → M D))}, (∀ p ∈ l, ∃ st ps, CalB P w K mg base k p.1 st ps p.2) → TabB P w K mg base k (tabOf l)
  | l, h => ⟨fun x Fs e => by
    induction l with
    | nil => cases e
    | cons p l ih =>
      unfold tabOf at e ih
      rw [List.lookup_cons] at e
      split at e
      · rename_i hx
        cases e
        have hx : x = p.1 := by simpa using hx
        rw [hx]
        exact h p List.mem_cons_self
      · exact ih (fun q hq => h q (List.mem_cons_of_mem _ hq)) e⟩
end DL

/-! ## DLaw -/
set_option Elab.async false
set_option autoImplicit false
set_option linter.all false
set_option maxRecDepth 100000
set_option maxHeartbeats 4000000
/-! DLaw: the law's own loop. -/
namespace DL
open PySem PySem.Spec PyProof.Rows L2
/-- the slots of the law's frame: the generator's list alone is known -/
def lawSl (L : Nat) : Dlt := .no :: .no :: .val .gen :: List.replicate (L - 3) .no
theorem lawSl_len {L : Nat} (h : 3 ≤ L) : (lawSl L).length = L := by simp [lawSl]; omega
theorem nos_get {n i : Nat} {s : Sl} (h : (List.replicate n Sl.no)[i]? = some s) : s = .no := (List.mem_replicate.mp (List.mem_of_getElem? h)).2
theorem lawSl_get {L i : Nat} {s : Sl} (h : (lawSl L)[i]? = some s) : s = .no ∨ (i = 2 ∧ s = .val .gen) := by
  match i, h with
  | 0, h => cases h; exact .inl rfl
  | 1, h => cases h; exact .inl rfl
  | 2, h => cases h; exact .inr ⟨rfl, rfl⟩
  | i + 3, h => exact .inl (nos_get (n := L - 3) (i := i) (by simpa [lawSl] using h))
section
variable {P : Program} {w : World} {K : PySem.W.Frag} {mg : Str → Option Value} {H : Hp} {σ : L2.St} {g : Gs} {p : Addr} {L : Nat}
theorem law_wd (hL : 3 ≤ L) (hl : σ.length = L) (h2 : σ[2]? = some (some (.ref p))) (hp : H p = some (.lst (g.map V.int))) : Wd ⟨K, mg, some p, fun _ => none, P, w⟩ H (fun _ => none) H σ (lawSl L) g := by
  refine ⟨fun b o e => (by cases e), ⟨fun b e => ⟨rfl, by cases e; exact hp⟩, fun b o e => (by cases e), fun b e => rfl⟩, by rw [lawSl_len hL, hl], fun j d h => ?_, fun j xs h => ?_, fun j j2 xs ys ne h1 h2 => ?_, fun b o e => (by cases e)⟩
  · rcases lawSl_get h with h | ⟨rfl, h⟩
    · cases h
    · cases h
      exact ⟨.ref p, h2, .gen rfl⟩
  · rcases lawSl_get h with h | ⟨rfl, h⟩ <;> cases h
  · rcases lawSl_get h1 with h | ⟨rfl, h⟩ <;> cases h
theorem law_wd0 (hl : σ.length = L) : Wd ⟨K, mg, none, fun _ => none, P, w⟩ H (fun _ => none) H σ (List.replicate L .no) [] := by
  refine ⟨fun b o e => (by cases e), ⟨fun b e => (by cases e), fun b o e => (by cases e), fun b e => (by cases e)⟩, by simp [hl], fun j d h => ?_, fun j xs h => ?_, fun j j2 xs ys ne h1 h2 => ?_, fun b o e => (by cases e)⟩
  · cases nos_get h
  · cases nos_get h
  · cases nos_get h1
/-- the script stays -/
theorem sq_stay {a : Addr} {ns : List V} {H3 F F' H' : Hp} {bo : Hp} {g' : Gs} (hS : SqL K H a ns) (hp : H p = none) (s3 : Same H H3) (st : Stp ⟨K, mg, some p, bo, P, w⟩ F H3 F' H' g') : SqL K H' a ns := by
  rcases hS with h | h
  · refine .inl ?_
    have ne : a ≠ p := fun z => by
      rcases h with h | ⟨od, h⟩
      · rw [z, hp] at h; cases h
      · rw [z, hp] at h; cases h
    rcases h with h | ⟨od, h⟩
    · exact .inl (st.ext a _ (fun z => ne (Option.some.inj z).symm) (s3 a _ h))
    · exact .inr ⟨od, st.ext a _ (fun z => ne (Option.some.inj z).symm) (s3 a _ h)⟩
  · exact .inr h
def tTx (P : Program) (w : World) (K : PySem.W.Frag) (mg : Str → Option Value) (f : E) : TT := fun σ H Q => ∃ ga bo, tT ⟨K, mg, ga, bo, P, w⟩ f σ H Q
theorem ptx {X : Cx} {e : Expr} {f : E} (h : ∀ ga bo, PT X e (tT ⟨X.K, X.mg, ga, bo, X.prog, X.w⟩ f)) : PT X e (tTx X.prog X.w X.K X.mg f) := ⟨fun pins t σ H Q I ⟨ga, bo, q⟩ => (h ga bo).run pins t σ H Q I q⟩
end
theorem at_mk {K : PySem.W.Frag} {h : Heap} {mg : Str → Option Value} (X : K.In h) (G : h.Ns mainGlobals mg) {x : Str} {st : Stmt} {ps : List Str} {f : Addr} {od an : Option Addr} {sl : Array (Option Value)} {oc kV dc pm cd ct : Value}
    (a : PySem.W.nsIn K mainGlobals x = some (some (.ref f))) (l : K.lookup f = some ⟨oc, od, .func (PySem.W.fnOf x x (defArgs st) (defBody st) (defScope st) .none kV dc pm an cd ct), sl⟩) (c : PySem.W.codeIn K cd x = true) (k : PySem.W.keepIn K (.ref f) = true)
    (b : ∀ (kV doc pm : Value) (an : Option Addr) (cdv ct : Value) (us : List Value), us.length = ps.length → bindArgs (PySem.W.fnOf x x (defArgs st) (defBody st) (defScope st) .none kV doc pm an cdv ct) ⟨us, []⟩ = pure (ps.zip us)) : At K mg x st ps := by
  have F := fun_mk (st := st) l c k
  exact ⟨_, _, PySem.W.mg_of X G a, F, F.binds b⟩
end DL

/-! ## DCls -/
set_option Elab.async false
set_option autoImplicit false
set_option linter.all false
set_option maxRecDepth 100000
set_option maxHeartbeats 4000000
/-! DCls: facts on own error classes from what is written. -/
namespace DL
open PySem PySem.Spec PyProof.Rows L2 PySem.W
theorem errC_mk {P : Program} {K : Frag} {h : Heap} {mg : Str → Option Value} (X : K.In h) (G : h.Ns mainGlobals mg) {x : Str} {A D fI : Addr}
    (g : nsIn K mainGlobals x = some (some (.ref A))) (gD : nsIn K mainGlobals "EscapeError" = some (some (.ref D))) (iC : findIn K (.ref A) "__init__" = some (some (.ref fI)))
    (tI : typeIn K (.ref fI) = some (.type "function")) (sup : nsIn K mainGlobals "super" = some none) {cd : ClassData} (clD : clsIn K D = some cd) (op : nsIn K cStatics "thirdparty.any" = some none) (top : (P.main.scope.names.lookup ("super" : Str)).isSome = false)
    {oc : Value} {od : Option Addr} {doc pm : Value} {an : Option Addr} {cda cc : Addr} {ct : Value} {osl : Array (Option Value)}
    (lf : K.lookup fI = some ⟨oc, od, .func (ksFn "__init__" "EscapeError.__init__" PySem.EscX.iA PySem.EscX.iB PySem.EscX.iS .none .none doc pm an (.ref cda) ct cc), osl⟩) (hcd : codeIn K (.ref cda) "EscapeError.__init__" = true)
    {ccl : Value} {cdd : Option Addr} {vs : Array Value} {ccs : Array (Option Value)} {file : Str} {tf : Tok} (lc : K.lookup cda = some ⟨ccl, cdd, .fields vs, ccs⟩) (hvs : vs[2]? = some (.str file tf)) (hfile : ((P.main.file : Str) == file) = true)
    {cl : Value} {cld : Option Addr} {csl : Array (Option Value)} (lcc : K.lookup cc = some ⟨cl, cld, .cell (some (.ref D)), csl⟩)
    {nm q : Str} {N : Addr} {bs bm : List Value} {sn : List Str} {sub : List Value} {ab : Bool} {col : Option Bool} {dd : Option Addr} {k0 k1 k2 k3 k5 : Option Value} (lC : K.lookup A = some (excClassObj nm q A N bs bm true sn sub ab col dd k0 k1 k2 k3 k5 "ValueError.__new__")) (hbm : PySem.HandSPX.refsVE bm = true)
    (sa : findIn K (.ref A) "__setattr__" = some (some (.builtin "object.__setattr__"))) (ga : findIn K (.ref A) "__getattribute__" = some (some (.builtin "BaseException.__getattribute__"))) (gg : findIn K (.ref A) "__getattr__" = some none) (noN : findIn K (.ref A) "value" = some none)
    (kC : keepIn K (.ref A) = true) (exC : subIn K (.ref A) (.type "BaseException") = some true) (veC : subIn K (.ref A) (.type "ValueError") = some true) (tyC : typeIn K (.ref A) = some (.type "type")) (hdC : hasDictIn K A = true) (hsub : mroIn K A (.ref D) = some true) (hsup : ks_superIn K A D "__init__" = some (some (.builtin "ValueError.__init__"))) :
    ErrC P K mg x A :=
  ⟨mg_of X G g, D, fI, ⟨tI, mg_none_of X G sup, ⟨cd, clD⟩, op, top, ⟨oc, od, doc, pm, an, cda, cc, ct, osl, lf, hcd, ⟨ccl, cdd, vs, ccs, file, tf, lc, hvs, hfile⟩, ⟨cl, cld, csl, lcc⟩⟩⟩,
    ⟨⟨nm, q, N, bs, bm, sn, sub, ab, col, dd, k0, k1, k2, k3, k5, lC, hbm⟩, sa, ga, gg, noN, iC, kC, exC, veC, tyC, hdC, hsub, hsup⟩⟩
theorem errIs_mk {K : Frag} {h : Heap} {mg : Str → Option Value} (X : K.In h) (G : h.Ns mainGlobals mg) {x : Str} {A : Addr} (g : nsIn K mainGlobals x = some (some (.ref A))) {cd : ClassData} (cl : clsIn K A = some cd)
    (ga : findIn K (.ref A) "__getattribute__" = some (some (.builtin "BaseException.__getattribute__"))) (gg : findIn K (.ref A) "__getattr__" = some none) (noN : findIn K (.ref A) "value" = some none)
    (exC : subIn K (.ref A) (.type "BaseException") = some true) (hdC : hasDictIn K A = true) (ha : findIn K (.ref A) "__class__" = some (some (.builtin "object.__class__"))) (hn : specialIn K (.builtin "object.__class__") "__get__" = some (some (.builtin "getset_descriptor.__get__")))
    (ht : takesIn K (.builtin "object.__class__") = some true) (hm : mroIn K A (.type "object") = some true) : ErrIs K mg x A :=
  ⟨mg_of X G g, by rw [cl]; rfl, ga, gg, noN, exC, hdC, ha, hn, ht, hm⟩
end DL

/-! ## DEval -/
set_option autoImplicit false
set_option linter.all false
set_option maxRecDepth 100000
/-! DEval: what the pure pieces come to. -/
namespace DL
open PySem

/-! ### comprehensions, loops -/
theorem lcGo_map {α : Type} {g : G} {tt te : E} {δ : Dlt} {emb : α → D} {γ : α → Dlt} {p : α → Bool} {f : α → D} : ∀ {xs : List α}, (∀ x ∈ xs, g (emb x) δ = some (γ x)) → (∀ x ∈ xs, tt (γ x) = pure (.bl (p x))) → (∀ x ∈ xs, p x = true → te (γ x) = pure (f x)) →
    lcGo g tt te δ (xs.map emb) = pure ((xs.filter p).map f)
  | [], _, _, _ => rfl
  | x :: xs, h1, h2, h3 => by
    have ih := lcGo_map (fun y hy => h1 y (List.mem_cons_of_mem _ hy)) (fun y hy => h2 y (List.mem_cons_of_mem _ hy)) (fun y hy => h3 y (List.mem_cons_of_mem _ hy))
    show (liftG (g (emb x) δ) >>= _) = _
    rw [h1 x List.mem_cons_self]
    show (tt (γ x) >>= _) = _
    rw [h2 x List.mem_cons_self, pure_bind]
    cases hp : p x with
    | true =>
      show (te (γ x) >>= _) = _
      rw [h3 x List.mem_cons_self hp, pure_bind, ih, pure_bind, List.filter_cons_of_pos hp]
      rfl
    | false =>
      show lcGo g tt te δ (xs.map emb) = _
      rw [ih, List.filter_cons_of_neg (by rw [hp]; simp)]
theorem eLc_map {α : Type} {vs : List Nat} {g : G} {src : Es} {tt te : E} {δ : Dlt} {emb : α → D} {γ : α → Dlt} {p : α → Bool} {f : α → D} {xs : List α} (hs : src δ = pure (xs.map emb)) (h1 : ∀ x ∈ xs, g (emb x) (wipeD δ vs) = some (γ x)) (h2 : ∀ x ∈ xs, tt (γ x) = pure (.bl (p x)))
    (h3 : ∀ x ∈ xs, p x = true → te (γ x) = pure (f x)) (hl : xs.length ≤ 1000000) : eLc vs g src tt te δ = pure (.lst ((xs.filter p).map f)) := by
  unfold eLc
  rw [hs, pure_bind, lcGo_map h1 h2 h3, pure_bind, if_pos]
  unfold lim
  have := List.length_filter_le p xs
  simp only [List.length_map]
  exact decide_eq_true (by omega)
/-- without a test -/
theorem eLc_all {α : Type} {vs : List Nat} {g : G} {src : Es} {te : E} {δ : Dlt} {emb : α → D} {γ : α → Dlt} {f : α → D} {xs : List α} (hs : src δ = pure (xs.map emb)) (h1 : ∀ x ∈ xs, g (emb x) (wipeD δ vs) = some (γ x))
    (h3 : ∀ x ∈ xs, te (γ x) = pure (f x)) (hl : xs.length ≤ 1000000) : eLc vs g src (eK (.bl true)) te δ = pure (.lst (xs.map f)) := by
  have h := eLc_map (tt := eK (.bl true)) (p := fun _ => true) hs h1 (fun _ _ => rfl) (fun x hx _ => h3 x hx) hl
  rw [List.filter_eq_self.mpr (fun _ _ => rfl)] at h
  exact h
theorem forGo_inv {α β : Type} {g : G} {s : S} {emb : α → D} {step : β → α → β} {I : β → Dlt → Prop} : ∀ {xs : List α} {b : β} {δ : Dlt}, I b δ → (∀ x ∈ xs, ∀ b δ, I b δ → ∃ δ1 δ2, g (emb x) δ = some δ1 ∧ s δ1 = pure (.nx δ2) ∧ I (step b x) δ2) →
    ∃ δ', forGo g s (xs.map emb) δ = pure (.nx δ') ∧ I (xs.foldl step b) δ'
  | [], _, _, h, _ => ⟨_, rfl, h⟩
  | x :: xs, b, δ, h, hs => by
    obtain ⟨δ1, δ2, h1, h2, h3⟩ := hs x List.mem_cons_self b δ h
    obtain ⟨δ', h4, h5⟩ := forGo_inv h3 (fun y hy => hs y (List.mem_cons_of_mem _ hy))
    refine ⟨δ', ?_, h5⟩
    show (liftG (g (emb x) δ) >>= _) = _
    rw [h1]
    show (s δ1 >>= _) = _
    rw [h2, pure_bind]
    exact h4
/-- by the part that is done -/
theorem forGo_pre {α : Type} {g : G} {s : S} {emb : α → D} {I : List α → Dlt → Prop} : ∀ {xs pre : List α} {δ : Dlt}, I pre δ → (∀ p x q δ, pre ++ xs = p ++ x :: q → I p δ → ∃ δ1 δ2, g (emb x) δ = some δ1 ∧ s δ1 = pure (.nx δ2) ∧ I (p ++ [x]) δ2) →
    ∃ δ', forGo g s (xs.map emb) δ = pure (.nx δ') ∧ I (pre ++ xs) δ'
  | [], pre, _, h, _ => ⟨_, rfl, by rw [List.append_nil]; exact h⟩
  | x :: xs, pre, δ, h, hs => by
    obtain ⟨δ1, δ2, h1, h2, h3⟩ := hs pre x xs δ rfl h
    have e : pre ++ x :: xs = pre ++ [x] ++ xs := by simp
    obtain ⟨δ', h4, h5⟩ := forGo_pre (pre := pre ++ [x]) h3 (fun p y q δ he => hs p y q δ (by rw [e]; exact he))
    refine ⟨δ', ?_, by rw [e]; exact h5⟩
    show (liftG (g (emb x) δ) >>= _) = _
    rw [h1]
    show (s δ1 >>= _) = _
    rw [h2, pure_bind]
    exact h4
theorem lc2_map {α β : Type} {g : G} {tt : E} {δ : Dlt} {in1 : Es} {emb : α → D} {γ : α → Dlt} {f : α → List D} : ∀ {xs : List α}, (∀ x ∈ xs, g (emb x) δ = some (γ x)) → (∀ x ∈ xs, tt (γ x) = pure (.bl true)) → (∀ x ∈ xs, in1 (γ x) = pure (f x)) →
    lc2Go g tt in1 δ (xs.map emb) = pure (xs.flatMap f)
  | [], _, _, _ => rfl
  | x :: xs, h1, h2, h3 => by
    have ih := lc2_map (β := β) (fun y hy => h1 y (List.mem_cons_of_mem _ hy)) (fun y hy => h2 y (List.mem_cons_of_mem _ hy)) (fun y hy => h3 y (List.mem_cons_of_mem _ hy))
    show (liftG (g (emb x) δ) >>= _) = _
    rw [h1 x List.mem_cons_self]
    show (tt (γ x) >>= _) = _
    rw [h2 x List.mem_cons_self, pure_bind]
    show (in1 (γ x) >>= _) = _
    rw [h3 x List.mem_cons_self, pure_bind, ih, pure_bind, List.flatMap_cons]

theorem fn_rt {n p : Nat} {s : S} {ds : List D} {d : D} (hl : ds.length = p) (h : s (startD n ds) = pure (.rt d)) : fn n p s ds = pure d := by
  unfold fn
  rw [if_pos hl, h, pure_bind]
theorem fn_nx {n p : Nat} {s : S} {ds : List D} {δ : Dlt} (hl : ds.length = p) (h : s (startD n ds) = pure (.nx δ)) : fn n p s ds = pure .non := by
  unfold fn
  rw [if_pos hl, h, pure_bind]
theorem seq_nx {a b : S} {δ δ' : Dlt} (h : a δ = pure (.nx δ')) : sSeq a b δ = b δ' := by
  unfold sSeq
  rw [h, pure_bind]
theorem seq_rt {a b : S} {δ : Dlt} {d : D} (h : a δ = pure (.rt d)) : sSeq a b δ = pure (.rt d) := by
  unfold sSeq
  rw [h, pure_bind]
theorem for_nx {g : G} {src : Es} {s : S} {δ δ' : Dlt} {xs : List D} (h : src δ = pure xs) (h2 : forGo g s xs δ = pure (.nx δ')) : sFor g src s δ = pure (.nx δ') := by
  unfold sFor
  rw [h, pure_bind, h2]
theorem asg_nx {g : G} {e : E} {δ δ' : Dlt} {d : D} (h : e δ = pure d) (h2 : g d δ = some δ') : sAsg g e δ = pure (.nx δ') := by
  unfold sAsg
  rw [h, pure_bind]
  unfold liftG
  rw [h2]
  rfl
theorem ret_rt {e : E} {δ : Dlt} {d : D} (h : e δ = pure d) : sRet e δ = pure (.rt d) := by
  unfold sRet
  rw [h, pure_bind]
theorem do_nx {e : E} {δ : Dlt} {d : D} (h : e δ = pure d) : sDo e δ = pure (.nx δ) := by
  unfold sDo
  rw [h, pure_bind]
theorem if_t {c : E} {a b : S} {δ : Dlt} (h : c δ = pure (.bl true)) : sIf c a b δ = a δ := by
  unfold sIf
  rw [h, pure_bind]
theorem if_f {c : E} {a b : S} {δ : Dlt} (h : c δ = pure (.bl false)) : sIf c a b δ = b δ := by
  unfold sIf
  rw [h, pure_bind]
theorem or_t {a b : E} {δ : Dlt} (h : a δ = pure (.bl true)) : eOr a b δ = pure (.bl true) := by
  unfold eOr
  rw [h, pure_bind]
theorem or_f {a b : E} {δ : Dlt} (h : a δ = pure (.bl false)) : eOr a b δ = b δ := by
  unfold eOr
  rw [h, pure_bind]
theorem and_t {a b : E} {δ : Dlt} (h : a δ = pure (.bl true)) : eAnd a b δ = b δ := by
  unfold eAnd
  rw [h, pure_bind]
theorem and_f {a b : E} {δ : Dlt} (h : a δ = pure (.bl false)) : eAnd a b δ = pure (.bl false) := by
  unfold eAnd
  rw [h, pure_bind]
theorem ife_t {c a b : E} {δ : Dlt} (h : c δ = pure (.bl true)) : eIf c a b δ = a δ := by
  unfold eIf
  rw [h, pure_bind]
theorem ife_f {c a b : E} {δ : Dlt} (h : c δ = pure (.bl false)) : eIf c a b δ = b δ := by
  unfold eIf
  rw [h, pure_bind]
theorem f_eq {h : D → M D} {a : E} {δ : Dlt} {x d : D} (h1 : a δ = pure x) (h2 : h x = pure d) : eF h a δ = pure d := by
  unfold eF
  rw [h1, pure_bind, h2]
theorem o_eq {h : D → D → M D} {a b : E} {δ : Dlt} {x y d : D} (h1 : a δ = pure x) (h2 : b δ = pure y) (h3 : h x y = pure d) : eO h a b δ = pure d := by
  unfold eO
  rw [h1, pure_bind, h2, pure_bind, h3]
theorem es_nil {δ : Dlt} : esN δ = pure [] := rfl
theorem es_cons {a : E} {r : Es} {δ : Dlt} {x : D} {xs : List D} (h1 : a δ = pure x) (h2 : r δ = pure xs) : esC a r δ = pure (x :: xs) := by
  unfold esC
  rw [h1, pure_bind, h2, pure_bind]
theorem lst_eq {es : Es} {δ : Dlt} {xs : List D} (h : es δ = pure xs) (hl : xs.length ≤ 1000000) : eLst es δ = pure (.lst xs) := by
  unfold eLst
  rw [h, pure_bind, if_pos (show lim xs.length = true from decide_eq_true (by omega))]
theorem tup_eq {es : Es} {δ : Dlt} {xs : List D} (h : es δ = pure xs) (hl : xs.length ≤ 1000000) : eTup es δ = pure (.tup xs) := by
  unfold eTup
  rw [h, pure_bind, if_pos (show lim xs.length = true from decide_eq_true (by omega))]
theorem call_eq {f : List D → M D} {es : Es} {δ : Dlt} {xs : List D} {d : D} (h : es δ = pure xs) (h2 : f xs = pure d) : eCall f es δ = pure d := by
  unfold eCall
  rw [h, pure_bind, h2]
theorem xL_eq {a : E} {δ : Dlt} {xs : List D} (h : a δ = pure (.lst xs)) : xL a δ = pure xs := by
  unfold xL
  rw [h, pure_bind]
  rfl
theorem mod_eq {i j : Int} (h : 0 < j) : dMod (.int i) (.int j) = pure (.int (i % j)) := if_pos h
theorem xE_eq {a : E} {δ : Dlt} {xs : List D} (h : a δ = pure (.lst xs)) : xE a δ = pure (numFrom 0 xs) := by
  unfold xE
  rw [h, pure_bind]
theorem cat_eq {xs ys : List D} (h : xs.length + ys.length ≤ 1000000) : dAdd (.lst xs) (.lst ys) = pure (.lst (xs ++ ys)) := if_pos (show lim _ = true from decide_eq_true (by omega))

/-! ### ints, lists of ints, lists of these -/
def codeD (c : List Int) : D := .lst (c.map .int)
def codesD (cs : List (List Int)) : D := .lst (cs.map codeD)
theorem lim_ok {n : Nat} (h : n ≤ 1000000) : lim n = true := decide_eq_true (by omega)
theorem bools_of : ∀ bs : List Bool, bools? (bs.map D.bl) = some bs
  | [] => rfl
  | b :: bs => by rw [List.map_cons, bools?, bools_of bs]; rfl
theorem ints_of : ∀ bs : List Int, ints? (bs.map D.int) = some bs
  | [] => rfl
  | b :: bs => by rw [List.map_cons, ints?, ints_of bs]; rfl
theorem all_bl (bs : List Bool) : dAll (.lst (bs.map D.bl)) = pure (.bl (bs.all id)) := by
  show (match bools? (bs.map D.bl) with | some bs => pure (D.bl (bs.all id)) | none => stuck) = _
  rw [bools_of]
theorem all_bls {α : Type} (xs : List α) (p : α → Bool) : dAll (.lst (xs.map fun x => D.bl (p x))) = pure (.bl (xs.all p)) := by
  have h := all_bl (xs.map p)
  rw [List.map_map, List.all_map] at h
  exact h
theorem imm_ints (c : List Int) : (c.map D.int).all D.imm = true := by
  rw [List.all_map]; exact List.all_eq_true.mpr fun _ _ => rfl
/-- small: == and order serve it -/
def smallI (i : Int) : Prop := i.natAbs.log2 < 1920
theorem small_of {i : Int} (h : i.natAbs < 1000000) : smallI i := by
  unfold smallI
  have := Nat.log2_le_self i.natAbs
  by_cases h0 : i.natAbs = 0
  · rw [h0]; decide
  · exact Nat.lt_of_lt_of_le ((Nat.log2_lt h0).mpr (Nat.lt_trans h (by decide : 1000000 < 2 ^ 20))) (by decide)
theorem cl_code {n : Nat} {c : List Int} (h : ∀ i ∈ c, smallI i) : (codeD c).cl (n + 1) = true := by
  show (c.map D.int).all (D.cl n) = true
  rw [List.all_map, List.all_eq_true]
  intro i hi
  have q := h i hi
  unfold smallI at q
  cases n <;> simpa [D.cl] using q
theorem cl_codes {n : Nat} {cs : List (List Int)} (h : ∀ c ∈ cs, ∀ i ∈ c, smallI i) : (codesD cs).cl (n + 2) = true := by
  show (cs.map codeD).all (D.cl (n + 1)) = true
  rw [List.all_map, List.all_eq_true]
  exact fun c hc => cl_code (h c hc)
theorem eqv_int (i j : Int) : PyData.eqv (D.int i).py (D.int j).py = decide (i = j) := by
  show (i == j) = _
  cases h : (i == j) <;> simp_all
theorem eqv_code : ∀ a b : List Int, PyData.eqvAll (pys (a.map .int)) (pys (b.map .int)) = decide (a = b)
  | [], [] => by simp [pys, PyData.eqvAll]
  | [], _ :: _ => by simp [pys, PyData.eqvAll]
  | _ :: _, [] => by simp [pys, PyData.eqvAll]
  | x :: a, y :: b => by
    have ih := eqv_code a b
    simp only [List.map_cons, pys, PyData.eqvAll, ih, eqv_int]
    by_cases h1 : x = y <;> by_cases h2 : a = b <;> simp [h1, h2]
theorem eqv_codes : ∀ a b : List (List Int), PyData.eqvAll (pys (a.map codeD)) (pys (b.map codeD)) = decide (a = b)
  | [], [] => by simp [pys, PyData.eqvAll]
  | [], _ :: _ => by simp [pys, PyData.eqvAll]
  | _ :: _, [] => by simp [pys, PyData.eqvAll]
  | x :: a, y :: b => by
    have ih := eqv_codes a b
    have e : PyData.eqv (codeD x).py (codeD y).py = decide (x = y) := by
      show PyData.eqv (.list _) (.list _) = _
      simp only [PyData.eqv]
      exact eqv_code x y
    simp only [List.map_cons, pys, PyData.eqvAll, ih, e]
    by_cases h1 : x = y <;> by_cases h2 : a = b <;> simp [h1, h2]
theorem eqB_code {a b : List Int} (ha : ∀ i ∈ a, smallI i) (hb : ∀ i ∈ b, smallI i) : dEqB (codeD a) (codeD b) = some (decide (a = b)) := by
  show (if (codeD a).cl 60 && (codeD b).cl 60 then _ else _) = _
  rw [cl_code (n := 59) ha, cl_code (n := 59) hb]
  show some (PyData.eqv (.list _) (.list _)) = _
  simp only [PyData.eqv]
  rw [eqv_code]
theorem eqB_codes {a b : List (List Int)} (ha : ∀ c ∈ a, ∀ i ∈ c, smallI i) (hb : ∀ c ∈ b, ∀ i ∈ c, smallI i) : dEqB (codesD a) (codesD b) = some (decide (a = b)) := by
  show (if (codesD a).cl 60 && (codesD b).cl 60 then _ else _) = _
  rw [cl_codes (n := 58) ha, cl_codes (n := 58) hb]
  show some (PyData.eqv (.list _) (.list _)) = _
  simp only [PyData.eqv]
  rw [eqv_codes]
theorem idx_int (i : Int) : ∀ c : List Int, idxOf? (.int i) (c.map .int) = c.findIdx? (fun j => decide (j = i))
  | [] => rfl
  | x :: c => by
    rw [List.map_cons, idxOf?, idx_int i c, List.findIdx?_cons, eqv_int]
theorem index_int {c : List Int} {i : Int} {j : Nat} (h : c.findIdx? (fun k => decide (k = i)) = some j) : dIndex (codeD c) (.int i) = pure (.int j) := by
  show (if (D.int i).imm && (c.map D.int).all D.imm then _ else _) = _
  rw [imm_ints]
  show (match idxOf? (.int i) (c.map .int) with | some j => _ | none => _) = _
  rw [idx_int, h]
theorem in_int {c : List Int} {i : Int} : dIn (.int i) (codeD c) = pure (.bl (decide (i ∈ c))) := by
  show liftB (inB (.int i) (c.map D.int)) = _
  unfold inB
  rw [imm_ints]
  show liftB (some ((c.map D.int).any fun y => PyData.eqv y.py (D.int i).py)) = _
  rw [List.any_map]
  show pure (D.bl _) = pure (D.bl _)
  congr 2
  induction c with
  | nil => rfl
  | cons x c ih =>
    rw [List.any_cons, ih]
    show (PyData.eqv (D.int x).py (D.int i).py || _) = _
    rw [eqv_int]
    by_cases h : x = i
    · simp [h]
    · have h' : i ≠ x := fun e => h e.symm
      by_cases h2 : i ∈ c <;> simp [h, h', h2]
end DL

/-! ## DEval2 -/
set_option autoImplicit false
set_option linter.all false
set_option maxRecDepth 100000
/-! DEval2: order, texts. -/
namespace DL
open PySem

/-! ### order -/
theorem leD_total (a b : D) : (leD a b || leD b a) = true := by
  unfold leD PySem.W.dataLt
  cases h1 : PyProof.Rows.lexLt PyProof.Rows.itemOrd (PySem.W.keyToks b.py) (PySem.W.keyToks a.py) with
  | false => rfl
  | true =>
    cases h2 : PyProof.Rows.lexLt PyProof.Rows.itemOrd (PySem.W.keyToks a.py) (PySem.W.keyToks b.py) with
    | false => rfl
    | true =>
      have := PyProof.Rows.lex_trans _ _ _ h1 h2
      rw [PyProof.Rows.lex_irrefl] at this
      cases this
theorem leD_trans (a b c : D) (h1 : leD a b = true) (h2 : leD b c = true) : leD a c = true := by
  unfold leD PySem.W.dataLt at *
  cases h : PyProof.Rows.lexLt PyProof.Rows.itemOrd (PySem.W.keyToks c.py) (PySem.W.keyToks a.py) with
  | false => rfl
  | true =>
    rcases PyProof.Rows.lex_negTrans _ (PySem.W.keyToks b.py) _ h with q | q
    · rw [q] at h2; cases h2
    · rw [q] at h1; cases h1
/-- the order of lists of ints -/
def ltC : List Int → List Int → Bool
  | [], [] => false
  | [], _ :: _ => true
  | _ :: _, [] => false
  | x :: a, y :: b => decide (x < y) || (!decide (y < x) && ltC a b)
theorem lt_toks : ∀ a b : List Int, PyProof.Rows.lexLt PyProof.Rows.itemOrd (PySem.W.keyToksAll (pys (a.map .int))) (PySem.W.keyToksAll (pys (b.map .int))) = ltC a b
  | [], [] => by simp only [List.map_nil, pys, PySem.W.keyToksAll]; exact PyProof.Rows.lex_irrefl _
  | [], y :: b => by
    simp only [List.map_nil, List.map_cons, pys, PySem.W.keyToksAll]
    rw [PyProof.Rows.lex_cons]
    rfl
  | x :: a, [] => by
    simp only [List.map_nil, List.map_cons, pys, PySem.W.keyToksAll]
    rw [PyProof.Rows.lex_cons]
    rfl
  | x :: a, y :: b => by
    have ih := lt_toks a b
    simp only [List.map_cons, pys, PySem.W.keyToksAll, D.py, PySem.W.keyToks, List.cons_append, List.nil_append]
    rw [PyProof.Rows.lex_self, PyProof.Rows.lex_cons, ih]
    rfl
theorem lt_code (a b : List Int) : PySem.W.dataLt (codeD a).py (codeD b).py = ltC a b := lt_toks a b
theorem lt_int (a b : Int) : PySem.W.dataLt (D.int a).py (D.int b).py = decide (a < b) := by
  show PyProof.Rows.lexLt PyProof.Rows.itemOrd [.inl a] [.inl b] = _
  rw [PyProof.Rows.lex_cons]
  show (decide (a < b) || (!decide (b < a) && false)) = _
  simp
theorem alike_code : ∀ a b : List Int, PySem.W.alikeAll (pys (a.map .int)) (pys (b.map .int)) = true
  | [], _ => by simp [pys, PySem.W.alikeAll]
  | _ :: _, [] => by simp [pys, PySem.W.alikeAll]
  | x :: a, y :: b => by
    simp only [List.map_cons, pys, PySem.W.alikeAll, alike_code a b, D.py, PySem.W.alike]
    rfl
def sortC (cs : List (List Int)) : List (List Int) := cs.mergeSort fun a b => !ltC b a
def sortI (c : List Int) : List Int := c.mergeSort fun a b => decide (a ≤ b)
theorem sorted_codes {cs : List (List Int)} (h : ∀ c ∈ cs, ∀ i ∈ c, smallI i) : dSorted (codesD cs) = pure (codesD (sortC cs)) := by
  show (if sortableB (cs.map codeD) then pure (D.lst ((cs.map codeD).mergeSort leD)) else stuck) = _
  have hs : sortableB (cs.map codeD) = true := by
    unfold sortableB
    rw [Bool.and_eq_true, Bool.and_eq_true, Bool.or_eq_true]
    refine ⟨⟨?_, ?_⟩, .inr ?_⟩
    · rw [List.all_map, List.all_eq_true]
      exact fun c hc => cl_code (n := 59) (h c hc)
    · rw [List.all_map, List.all_eq_true]
      intro a _
      show ((cs.map codeD).all _) = true
      rw [List.all_map, List.all_eq_true]
      exact fun b _ => alike_code a b
    · rw [List.all_map, List.all_eq_true]
      exact fun _ _ => rfl
  rw [if_pos hs]
  have e : (sortC cs).map codeD = (cs.map codeD).mergeSort leD := List.map_mergeSort fun a _ b _ => by
    show (!ltC b a) = !(PySem.W.dataLt (codeD b).py (codeD a).py)
    rw [lt_code]
  rw [← e]
  rfl
theorem sorted_ints {c : List Int} (h : ∀ i ∈ c, smallI i) : dSorted (codeD c) = pure (codeD (sortI c)) := by
  show (if sortableB (c.map .int) then pure (D.lst ((c.map .int).mergeSort leD)) else stuck) = _
  have hs : sortableB (c.map D.int) = true := by
    unfold sortableB
    rw [Bool.and_eq_true, Bool.and_eq_true, Bool.or_eq_true]
    refine ⟨⟨?_, ?_⟩, .inr ?_⟩
    · rw [List.all_map, List.all_eq_true]
      intro i hi
      have q := h i hi
      unfold smallI at q
      simpa [D.cl] using q
    · rw [List.all_map, List.all_eq_true]
      intro a _
      show ((c.map D.int).all _) = true
      rw [List.all_map, List.all_eq_true]
      exact fun b _ => rfl
    · rw [List.all_map, List.all_eq_true]
      exact fun _ _ => rfl
  rw [if_pos hs]
  have e : (sortI c).map D.int = (c.map D.int).mergeSort leD := List.map_mergeSort fun a _ b _ => by
    show decide (a ≤ b) = !(PySem.W.dataLt (D.int b).py (D.int a).py)
    rw [lt_int]
    by_cases q : a ≤ b
    · have : ¬ b < a := by omega
      simp [q, this]
    · have : b < a := by omega
      simp [q, this]
  rw [← e]
  rfl
theorem ltC_irrefl : ∀ a : List Int, ltC a a = false
  | [] => rfl
  | x :: a => by simp [ltC, ltC_irrefl a]
theorem ltC_anti : ∀ a b : List Int, (!ltC b a) = true → (!ltC a b) = true → a = b
  | [], [], _, _ => rfl
  | [], _ :: _, _, h => by simp [ltC] at h
  | _ :: _, [], h, _ => by simp [ltC] at h
  | x :: a, y :: b, h1, h2 => by
    simp only [ltC, Bool.not_eq_true', Bool.or_eq_false_iff, decide_eq_false_iff_not, Bool.and_eq_false_iff, Bool.not_eq_false', decide_eq_true_eq] at h1 h2
    have e : x = y := by omega
    subst e
    have q1 : ltC b a = false := by rcases h1.2 with q | q; omega; exact q
    have q2 : ltC a b = false := by rcases h2.2 with q | q; omega; exact q
    rw [ltC_anti a b (by rw [q1]; rfl) (by rw [q2]; rfl)]
theorem sortC_perm (cs : List (List Int)) : (sortC cs).Perm cs := List.mergeSort_perm _ _
theorem sortI_perm (c : List Int) : (sortI c).Perm c := List.mergeSort_perm _ _
/-- what is ordered and of the same things is what sorted tells -/
theorem sortC_eq {cs ds : List (List Int)} (p : cs.Perm ds) (s : ds.Pairwise fun a b => (!ltC b a) = true) : sortC cs = ds := by
  refine List.Perm.eq_of_pairwise (le := fun a b => (!ltC b a) = true) (fun a b _ _ h1 h2 => ltC_anti a b h1 h2) ?_ s ((sortC_perm cs).trans p)
  refine List.pairwise_mergeSort (fun a b c h1 h2 => ?_) (fun a b => ?_) cs
  · have := leD_trans (codeD a) (codeD b) (codeD c) (by unfold leD; rw [lt_code]; exact h1) (by unfold leD; rw [lt_code]; exact h2)
    unfold leD at this
    rw [lt_code] at this
    exact this
  · have := leD_total (codeD a) (codeD b)
    unfold leD at this
    rw [lt_code, lt_code] at this
    exact this
theorem sortI_sorted (c : List Int) : (sortI c).Pairwise fun a b => a ≤ b := by
  have := List.pairwise_mergeSort (le := fun a b : Int => decide (a ≤ b)) (fun a b c h1 h2 => by simp at *; omega) (fun a b => by simp; omega) c
  exact this.imp fun h => by simpa using h

/-! ### texts -/
theorem textLen : ∀ (ts : List Str) (k : Nat) (acc : Str), (textFrom (k + 1) acc ts).length = acc.length + (ts.map fun t => t.length + 2).sum
  | [], k, acc => by show acc.length = _; simp
  | t :: r, k, acc => by
    show (textFrom (k + 1 + 1) (acc ++ (if k + 1 > 0 then ", " else "" : String) ++ t) r).length = _
    rw [textLen r (k + 1), strLen_append, strLen_append, if_pos (Nat.succ_pos k)]
    have e2 : ((", " : String) : Str).length = 2 := rfl
    rw [e2]
    simp only [List.map_cons, List.sum_cons]
    omega
theorem listLen (t : Str) (r : List Str) : (listText (t :: r)).length = 2 + t.length + (r.map fun t => t.length + 2).sum := by
  unfold listText
  rw [strLen_append]
  show (textFrom 1 (("[" : String) ++ (if 0 > 0 then ", " else "" : String) ++ t) r).length + (("]" : String) : Str).length = _
  rw [textLen r 0, strLen_append, strLen_append]
  have e1 : (("[" : String) : Str).length = 1 := rfl
  have e2 : (("]" : String) : Str).length = 1 := rfl
  have e3 : (((if 0 > 0 then ", " else "" : String)) : Str).length = 0 := rfl
  rw [e1, e2, e3]
  omega
theorem digit_len {i : Int} (h0 : 0 ≤ i) (h1 : i < 10) : (D.int i).py.shown.length = 1 := by
  have h : i = 0 ∨ i = 1 ∨ i = 2 ∨ i = 3 ∨ i = 4 ∨ i = 5 ∨ i = 6 ∨ i = 7 ∨ i = 8 ∨ i = 9 := by omega
  rcases h with h | h | h | h | h | h | h | h | h | h <;> (subst h; decide +kernel)
end DL

/-! ## DYld -/
set_option autoImplicit false
set_option linter.all false
set_option maxRecDepth 100000
/-! DYld: what a def that draws may come to. -/
namespace DL
open PySem
/-- the generator's state, after at most so many draws -/
def St (k : Nat) (g : Gs) : Prop := ∃ a b c : Int, g = [a, b, c] ∧ 0 ≤ b ∧ b < 2147483647 ∧ 0 ≤ c ∧ c ≤ 3000 + k
theorem St.mono {j k : Nat} {g : Gs} (h : St j g) (q : j ≤ k) : St k g := by
  obtain ⟨a, b, c, e, h1, h2, h3, h4⟩ := h
  exact ⟨a, b, c, e, h1, h2, h3, by omega⟩
/-- whatever is drawn, it ends, and P holds of it -/
def Yl {α : Type} (n : Nat) (m : M α) (P : α → Prop) : Prop := ∀ k g, St k g → k + n ≤ 1000000 → ∃ a g', Ok m g a g' ∧ P a ∧ St (k + n) g'
theorem yl_pure {α : Type} {a : α} {P : α → Prop} (h : P a) : Yl 0 (pure a) P := fun k g s _ => ⟨a, g, ok_pure.mpr ⟨rfl, rfl⟩, h, s⟩
theorem yl_eq {α : Type} {m : M α} {a : α} {P : α → Prop} (e : m = pure a) (h : P a) : Yl 0 m P := by
  rw [e]; exact yl_pure h
theorem yl_bind {α β : Type} {n j : Nat} {m : M α} {f : α → M β} {P : α → Prop} {Q : β → Prop} (h : Yl n m P) (h2 : ∀ a, P a → Yl j (f a) Q) : Yl (n + j) (m >>= f) Q := fun k g s hk => by
  obtain ⟨a, g1, o1, p, s1⟩ := h k g s (by omega)
  obtain ⟨b, g2, o2, q, s2⟩ := h2 a p (k + n) g1 s1 (by omega)
  exact ⟨b, g2, ok_bind.mpr ⟨a, g1, o1, o2⟩, q, s2.mono (by omega)⟩
theorem Yl.mono {α : Type} {n j : Nat} {m : M α} {P Q : α → Prop} (h : Yl n m P) (hn : n ≤ j) (hp : ∀ a, P a → Q a) : Yl j m Q := fun k g s hk => by
  obtain ⟨a, g1, o1, p, s1⟩ := h k g s (by omega)
  exact ⟨a, g1, o1, hp a p, s1.mono (by omega)⟩
/-- the first step tells its value -/
theorem yl_step {α β : Type} {j : Nat} {m : M α} {f : α → M β} {a : α} {Q : β → Prop} (e : m = pure a) (h : Yl j (f a) Q) : Yl j (m >>= f) Q := by
  rw [e, pure_bind]; exact h
theorem yl_seq {n j : Nat} {a b : S} {δ : Dlt} {P : Dlt → Prop} {Q : Fl → Prop} (h : Yl n (a δ) fun r => ∃ δ', r = .nx δ' ∧ P δ') (h2 : ∀ δ', P δ' → Yl j (b δ') Q) : Yl (n + j) (sSeq a b δ) Q :=
  yl_bind h fun r ⟨δ', e, p⟩ => by
    subst e
    exact h2 δ' p
theorem yl_seq0 {j : Nat} {a b : S} {δ δ' : Dlt} {Q : Fl → Prop} (h : a δ = pure (.nx δ')) (h2 : Yl j (b δ') Q) : Yl j (sSeq a b δ) Q := by
  rw [seq_nx h]; exact h2
theorem yl_asg {n : Nat} {g : G} {e : E} {δ : Dlt} {P : D → Prop} {Q : Dlt → Prop} (h : Yl n (e δ) P) (h2 : ∀ d, P d → ∃ δ', g d δ = some δ' ∧ Q δ') : Yl n (sAsg g e δ) fun r => ∃ δ', r = .nx δ' ∧ Q δ' :=
  (yl_bind (j := 0) h fun d p => by
    obtain ⟨δ', e1, q⟩ := h2 d p
    unfold liftG
    rw [e1]
    exact yl_pure ⟨δ', rfl, q⟩).mono (by omega) fun _ q => q
theorem yl_ret {n : Nat} {e : E} {δ : Dlt} {P : D → Prop} (h : Yl n (e δ) P) : Yl n (sRet e δ) fun r => ∃ d, r = .rt d ∧ P d :=
  (yl_bind (j := 0) h fun d p => yl_pure ⟨d, rfl, p⟩).mono (by omega) fun _ q => q
theorem yl_fn {n p j : Nat} {s : S} {ds : List D} {P : D → Prop} (hl : ds.length = p) (h : Yl j (s (startD n ds)) fun r => ∃ d, r = .rt d ∧ P d) : Yl j (fn n p s ds) P := by
  unfold fn
  rw [if_pos hl]
  exact (yl_bind (j := 0) h fun r ⟨d, e, q⟩ => by subst e; exact yl_pure q).mono (by omega) fun _ q => q
theorem yl_call {n j : Nat} {f : List D → M D} {es : Es} {δ : Dlt} {P : List D → Prop} {Q : D → Prop} (h : Yl n (es δ) P) (h2 : ∀ ds, P ds → Yl j (f ds) Q) : Yl (n + j) (eCall f es δ) Q := yl_bind h h2
theorem yl_o {n j : Nat} {f : D → D → M D} {a b : E} {δ : Dlt} {P : D → Prop} {Q : D → Prop} {R : D → Prop} (h : Yl n (a δ) P) (h2 : Yl j (b δ) Q) (h3 : ∀ x y, P x → Q y → ∃ d, f x y = pure d ∧ R d) : Yl (n + j) (eO f a b δ) R :=
  (yl_bind (j := j + 0) h fun x p => yl_bind h2 fun y q => by
    obtain ⟨d, e, r⟩ := h3 x y p q
    exact yl_eq e r).mono (by omega) fun _ q => q
theorem yl_for {α : Type} {n : Nat} {g : G} {s : S} {emb : α → D} {I : List α → Dlt → Prop} : ∀ {xs pre : List α} {δ : Dlt}, I pre δ → (∀ p x q δ, pre ++ xs = p ++ x :: q → I p δ → ∃ δ1, g (emb x) δ = some δ1 ∧ Yl n (s δ1) fun r => ∃ δ2, r = .nx δ2 ∧ I (p ++ [x]) δ2) →
    Yl (n * xs.length) (forGo g s (xs.map emb) δ) fun r => ∃ δ', r = .nx δ' ∧ I (pre ++ xs) δ'
  | [], pre, _, h, _ => yl_pure ⟨_, rfl, by rw [List.append_nil]; exact h⟩
  | x :: xs, pre, δ, h, hs => by
    obtain ⟨δ1, h1, h2⟩ := hs pre x xs δ rfl h
    have e : pre ++ x :: xs = pre ++ [x] ++ xs := by simp
    show Yl _ (liftG (g (emb x) δ) >>= _) _
    rw [h1]
    have q : Yl (n + n * xs.length) (s δ1 >>= fun r => match r with
      | .nx δ' => forGo g s (xs.map emb) δ'
      | .ct δ' => forGo g s (xs.map emb) δ'
      | .bk δ' => pure (.nx δ')
      | .rt d => pure (.rt d)) fun r => ∃ δ', r = .nx δ' ∧ I (pre ++ x :: xs) δ' := yl_bind h2 fun r ⟨δ2, er, i2⟩ => by
        subst er
        rw [e]
        exact yl_for (pre := pre ++ [x]) i2 fun p y q δ he => hs p y q δ (by rw [e]; exact he)
    refine q.mono ?_ fun _ z => z
    rw [List.length_cons, Nat.mul_add]
    omega
/-! ### numbers within 64 bits -/
theorem mul_small {i j : Int} (h1 : i.natAbs < 2 ^ 64) (h2 : j.natAbs < 2 ^ 64) : dMul (.int i) (.int j) = pure (.int (i * j)) := by
  have l : ∀ k : Int, k.natAbs < 2 ^ 64 → big k < 64 := fun k h => by
    unfold big
    by_cases h0 : k.natAbs = 0
    · rw [h0]; decide
    · exact (Nat.log2_lt h0).mpr h
  have a := l i h1
  have b := l j h2
  exact if_pos (show big i + big j < 1000000 by omega)
theorem fdiv_eq {i j : Int} (h : 0 < j) (h2 : j < 2 ^ 64) : dFdiv (.int i) (.int j) = pure (.int (i / j)) := by
  refine if_pos ⟨h, ?_⟩
  unfold big
  by_cases h0 : j.natAbs = 0
  · rw [h0]; decide
  · exact Nat.lt_trans ((Nat.log2_lt h0).mpr (show j.natAbs < 2 ^ 64 by omega)) (by decide)
end DL

/-! ## DEval3 -/
set_option autoImplicit false
set_option linter.all false
set_option maxRecDepth 100000
/-! DEval3: what defs come to, a rule for each word. -/
namespace DL
open PySem
/-! ### expressions -/
theorem ev_k {d : D} {δ : Dlt} : eK d δ = pure d := rfl
theorem ev_w {i : Nat} {δ : Dlt} {d : D} (h : δ[i]? = some (.val d)) : eW i δ = pure d := by unfold eW; rw [h]
theorem ev_v {i : Nat} {δ : Dlt} {d : D} (h : δ[i]? = some (.val d)) : eV i δ = pure d := by unfold eV; rw [h]
theorem ev_vo {i : Nat} {δ : Dlt} {xs : List D} (h : δ[i]? = some (.own xs)) : eV i δ = pure (.lst xs) := by unfold eV; rw [h]
theorem ev_and {a b : E} {δ : Dlt} {x y : Bool} (h1 : a δ = pure (.bl x)) (h2 : x = true → b δ = pure (.bl y)) : eAnd a b δ = pure (.bl (x && y)) := by
  cases x with
  | true => rw [and_t h1, h2 rfl]; rfl
  | false => rw [and_f h1]; rfl
theorem ev_or {a b : E} {δ : Dlt} {x y : Bool} (h1 : a δ = pure (.bl x)) (h2 : x = false → b δ = pure (.bl y)) : eOr a b δ = pure (.bl (x || y)) := by
  cases x with
  | true => rw [or_t h1]; rfl
  | false => rw [or_f h1, h2 rfl]; rfl
/-- by a truth value -/
def ifK {α : Type} (x : Bool) (m n : M α) : M α := if x then m else n
theorem ifK_t {α : Type} {x : Bool} {m n : M α} {r : α} (h : x = true) (h2 : m = pure r) : ifK x m n = pure r := by unfold ifK; rw [if_pos h, h2]
theorem ifK_f {α : Type} {x : Bool} {m n : M α} {r : α} (h : x = false) (h2 : n = pure r) : ifK x m n = pure r := by unfold ifK; rw [if_neg (by rw [h]; simp), h2]
theorem ifK_2 {α : Type} {x : Bool} {m n : M α} {r s : α} (h1 : x = true → m = pure r) (h2 : x = false → n = pure s) : ifK x m n = pure (if x then r else s) := by
  cases x with
  | true => exact ifK_t rfl (h1 rfl)
  | false => exact ifK_f rfl (h2 rfl)
theorem ev_ife {c a b : E} {δ : Dlt} {x : Bool} {d : D} (h : c δ = pure (.bl x)) (h2 : ifK x (a δ) (b δ) = pure d) : eIf c a b δ = pure d := by
  unfold eIf
  rw [h, pure_bind, ← h2]
  cases x <;> rfl
theorem ev_lst {es : Es} {δ : Dlt} {xs : List D} (h : es δ = pure xs) (hl : xs.length ≤ 1000000) : eLst es δ = pure (.lst xs) := lst_eq h hl
theorem ev_cutN {a : E} {δ : Dlt} {x d : D} {l h : Dlt → M (Option Int)} {lo hi : Option Int} (h1 : a δ = pure x) (h2 : l δ = pure lo) (h3 : h δ = pure hi) (h4 : dCut x lo hi = pure d) : eCut a l h δ = pure d := by
  unfold eCut
  rw [h1, pure_bind, h2, pure_bind, h3, pure_bind, h4]
theorem ev_no {δ : Dlt} : eNo δ = pure none := rfl
theorem ev_at {a : E} {δ : Dlt} {i : Int} (h : a δ = pure (.int i)) : eAt a δ = pure (some i) := by
  unfold eAt
  rw [h]
  rfl
theorem ev_callK {f : List D → M D} {ix : List Nat} {es gs : Es} {δ : Dlt} {xs ys : List D} {d : D} (h : es δ = pure xs) (h1 : gs δ = pure ys) (h2 : f (pick ix (xs ++ ys)) = pure d) : eCallK f ix es gs δ = pure d := by
  unfold eCallK
  rw [h, pure_bind, h1, pure_bind, h2]
theorem ev_callD {f : List D → M D} {es : Es} {δ : Dlt} {xs : List D} {d : D} (h : es δ = pure xs) (h2 : f (uns xs) = pure d) (hd : d.imm = true) : eCallD f es δ = pure d := by
  unfold eCallD
  rw [h, pure_bind, h2, pure_bind, if_pos hd]
theorem ev_callDK {f : List D → M D} {ix : List Nat} {es : Es} {δ : Dlt} {xs : List D} {d : D} (h : es δ = pure xs) (h2 : f (pick ix (uns xs)) = pure d) (hd : d.imm = true) : eCallDK f ix es δ = pure d := by
  unfold eCallDK
  rw [h, pure_bind, h2, pure_bind, if_pos hd]
theorem hI_eq {h : D → D → M D} {x y d : D} (h1 : h x.un y.un = pure d) (hd : d.imm = true) : hI h x y = pure d := by
  unfold hI
  rw [h1, pure_bind, if_pos hd]
theorem hU_eq {h : D → M D} {x d : D} (h1 : h x.un = pure d) (hd : d.imm = true) : hU h x = pure d := by
  unfold hU
  rw [h1, pure_bind, if_pos hd]
/-! ### comprehensions -/
theorem ev_lc {α : Type} {vs : List Nat} {g : G} {src : Es} {tt te : E} {δ : Dlt} {emb : α → D} {γ : α → Dlt} {p : α → Bool} {f : α → D} {xs : List α} (hs : src δ = pure (xs.map emb)) (h1 : ∀ x ∈ xs, g (emb x) (wipeD δ vs) = some (γ x)) (h2 : ∀ x ∈ xs, tt (γ x) = pure (.bl (p x)))
    (h3 : ∀ x ∈ xs, p x = true → te (γ x) = pure (f x)) (hl : xs.length ≤ 1000000) : eLc vs g src tt te δ = pure (.lst ((xs.filter p).map f)) := eLc_map hs h1 h2 h3 hl
theorem ev_lcA {α : Type} {vs : List Nat} {g : G} {src : Es} {te : E} {δ : Dlt} {emb : α → D} {γ : α → Dlt} {f : α → D} {xs : List α} (hs : src δ = pure (xs.map emb)) (h1 : ∀ x ∈ xs, g (emb x) (wipeD δ vs) = some (γ x))
    (h3 : ∀ x ∈ xs, te (γ x) = pure (f x)) (hl : xs.length ≤ 1000000) : eLc vs g src (eK (.bl true)) te δ = pure (.lst (xs.map f)) := eLc_all hs h1 h3 hl
/-! sources: of items x ↦ emb x -/
def Row {α : Type} (d : D) (emb : α → D) (xs : List α) : Prop := rowOf d = pure (xs.map emb)
theorem row_code (c : List Int) : Row (codeD c) D.int c := rfl
theorem row_codes (c : List (List Int)) : Row (codesD c) codeD c := rfl
theorem row_map {α : Type} (f : α → D) (xs : List α) : Row (.lst (xs.map f)) f xs := rfl
theorem row_id (xs : List D) : Row (.lst xs) (fun d => d) xs := by
  show pure xs = pure (xs.map fun d => d)
  rw [List.map_id']
theorem row_bcode (c : List Int) : Row (.bor (codeD c)) D.int c := by
  show pure ((c.map D.int).map wrapB) = _
  rw [List.map_map]
  rfl
theorem row_bcodes (c : List (List Int)) : Row (.bor (codesD c)) (fun c => .bor (codeD c)) c := by
  show pure ((c.map codeD).map wrapB) = _
  rw [List.map_map]
  rfl
theorem sx_l {α : Type} {emb : α → D} {a : E} {δ : Dlt} {d : D} {xs : List α} (h : a δ = pure d) (hr : Row d emb xs) : xL a δ = pure (xs.map emb) := by
  unfold xL
  rw [h, pure_bind, hr]
theorem sx_vw {α : Type} {emb : α → D} {a : E} {δ : Dlt} {d : D} {xs : List α} (h : a δ = pure d) (hr : Row d emb xs) : xVw a δ = pure (xs.reverse.map emb) := by
  unfold xVw
  rw [h, pure_bind, hr, pure_bind, List.map_reverse]
theorem numFrom_map' {α : Type} (f : α → D) (xs : List α) : ∀ n, numFrom n (xs.map f) = (xs.zipIdx n).map fun p => .tup [.int p.2, f p.1] := by
  induction xs with
  | nil => intro n; rfl
  | cons x xs ih => intro n; simp [numFrom, ih]
theorem map_mapR {α : Type} (f : α → D) (xs : List α) : xs.map f = xs.map f := rfl
theorem map_idR (xs : List D) : xs = xs.map fun d => d := (List.map_id' _).symm
theorem sx_enum {α : Type} {emb : α → D} {a : E} {δ : Dlt} {ds : List D} {xs : List α} (h : a δ = pure (.lst ds)) (e : ds = xs.map emb) : xE a δ = pure (xs.zipIdx.map fun p => .tup [.int p.2, emb p.1]) := by
  rw [xE_eq h, e, numFrom_map']
theorem zip2_map' {α β : Type} (f : α → D) (g : β → D) : ∀ (xs : List α) (ys : List β), zip2 (xs.map f) (ys.map g) = (xs.zip ys).map fun p => .tup [f p.1, g p.2]
  | [], _ => rfl
  | _ :: _, [] => rfl
  | x :: xs, y :: ys => by
    have := zip2_map' f g xs ys
    simp [zip2, this]
theorem sx_zip {α β : Type} {f : α → D} {g : β → D} {a b : E} {δ : Dlt} {ds es : List D} {xs : List α} {ys : List β} (h : a δ = pure (.lst ds)) (h2 : b δ = pure (.lst es)) (e : ds = xs.map f) (e2 : es = ys.map g) : xZ a b δ = pure ((xs.zip ys).map fun p => .tup [f p.1, g p.2]) := by
  unfold xZ
  rw [h, pure_bind, h2, pure_bind, e, e2]
  show pure (zip2 _ _) = _
  rw [zip2_map']
theorem sx_zipS {α β : Type} {f : α → D} {g : β → D} {a b : E} {δ : Dlt} {ds es : List D} {xs : List α} {ys : List β} (h : a δ = pure (.lst ds)) (h2 : b δ = pure (.lst es)) (e : ds = xs.map f) (e2 : es = ys.map g) (hl : xs.length = ys.length) : xZs a b δ = pure ((xs.zip ys).map fun p => .tup [f p.1, g p.2]) := by
  unfold xZs
  rw [h, pure_bind, h2, pure_bind, e, e2]
  show (if (xs.map f).length = (ys.map g).length then pure (zip2 _ _) else stuck) = _
  rw [if_pos (by simpa using hl), zip2_map']
theorem sx_r {a : E} {δ : Dlt} {n : Nat} (h : a δ = pure (.int n)) (hn : n < 1000000) : xR a δ = pure ((List.range n).map fun k => .int (k : Nat)) := by
  unfold xR
  rw [h, pure_bind]
  show (if -1000000 < (n : Int) ∧ (n : Int) < 1000000 then pure ((List.range (n : Int).toNat).map fun k => D.int (k : Nat)) else stuck) = _
  rw [if_pos (by omega), Int.toNat_natCast]
theorem sx_r2 {a b : E} {δ : Dlt} {i j : Int} (h : a δ = pure (.int i)) (h2 : b δ = pure (.int j)) (hi : -1000000 < i ∧ i < 1000000) (hj : -1000000 < j ∧ j < 1000000) : xR2 a b δ = pure ((List.range (j - i).toNat).map fun k => .int (i + (k : Nat))) := by
  unfold xR2
  rw [h, pure_bind, h2, pure_bind]
  exact if_pos ⟨hi.1, hi.2, hj.1, hj.2⟩
/-! ### statements -/
def seqK (r : Fl) (b : S) : M Fl := match r with
  | .nx δ' => b δ'
  | r => pure r
theorem ev_seq {a b : S} {δ : Dlt} {r fl : Fl} (h : a δ = pure r) (h2 : seqK r b = pure fl) : sSeq a b δ = pure fl := by
  unfold sSeq
  rw [h, pure_bind, ← h2]
  cases r <;> rfl
theorem seqK_nx {δ : Dlt} {b : S} {fl : Fl} (h : b δ = pure fl) : seqK (.nx δ) b = pure fl := h
theorem seqK_rt {d : D} {b : S} : seqK (.rt d) b = pure (.rt d) := rfl
theorem ev_if {c : E} {a b : S} {δ : Dlt} {x : Bool} {r : Fl} (h : c δ = pure (.bl x)) (h2 : ifK x (a δ) (b δ) = pure r) : sIf c a b δ = pure r := by
  unfold sIf
  rw [h, pure_bind, ← h2]
  cases x <;> rfl
theorem ev_skip {δ : Dlt} : sSkip δ = pure (.nx δ) := rfl
theorem ev_ret {e : E} {δ : Dlt} {d : D} (h : e δ = pure d) : sRet e δ = pure (.rt d) := ret_rt h
theorem ev_do {e : E} {δ : Dlt} {d : D} (h : e δ = pure d) : sDo e δ = pure (.nx δ) := do_nx h
theorem ev_asg {g : G} {e : E} {δ δ' : Dlt} {d : D} (h : e δ = pure d) (h2 : g d δ = some δ') : sAsg g e δ = pure (.nx δ') := asg_nx h h2
theorem ev_par {i j : Nat} {a b : E} {δ : Dlt} {x y : D} (h1 : a δ = pure x) (h2 : b δ = pure y) : sPar i j a b δ = pure (.nx ((δ.set i (.val x)).set j (.val y))) := by
  unfold sPar
  rw [h1, pure_bind, h2, pure_bind]
theorem ev_thr {x : Str} {f : E} {δ : Dlt} {d : D} (h : f δ = pure d) : sThr x f δ = pure (.rt (.thr x d)) := by
  unfold sThr
  rw [h, pure_bind]
theorem ev_dox_thr {Fs : List D → M D} {fs : Es} {δ : Dlt} {ds : List D} {x : Str} {d : D} (h : fs δ = pure ds) (h2 : Fs ds = pure (.thr x d)) : sDoX Fs fs δ = pure (.rt (.thr x d)) := by
  unfold sDoX
  rw [h, pure_bind, h2, pure_bind]
  rfl
theorem ev_dox {Fs : List D → M D} {fs : Es} {δ : Dlt} {ds : List D} {d : D} (h : fs δ = pure ds) (h2 : Fs ds = pure d) (h3 : d.isThr = false) : sDoX Fs fs δ = pure (.nx δ) := by
  unfold sDoX
  rw [h, pure_bind, h2, pure_bind, if_neg (by rw [h3]; simp)]
theorem ev_fnr {n p : Nat} {s : S} {ds : List D} {d : D} (hl : ds.length = p) (h : s (startD n ds) = pure (.rt d)) : fn n p s ds = pure d := fn_rt hl h
theorem ev_fnn {n p : Nat} {s : S} {ds : List D} {δ : Dlt} (hl : ds.length = p) (h : s (startD n ds) = pure (.nx δ)) : fn n p s ds = pure .non := fn_nx hl h
/-- a def's run, and what it tells -/
theorem ev_to {n p : Nat} {s : S} {ds : List D} {d d' : D} (h : s (startD n ds) = pure (.rt d)) (hl : ds.length = p) (e : d = d') : fn n p s ds = pure d' := by rw [← e]; exact fn_rt hl h
/-! ### words of data -/
theorem eqB_int (i j : Int) : dEq (.int i) (.int j) = pure (.bl (decide (i = j))) := rfl
theorem neB_int (i j : Int) : dNe (.int i) (.int j) = pure (.bl (!decide (i = j))) := rfl
theorem eqB_str (i j : Str) : dEq (.str i) (.str j) = pure (.bl (decide (i = j))) := rfl
theorem neB_str (i j : Str) : dNe (.str i) (.str j) = pure (.bl (!decide (i = j))) := rfl
theorem eqB_bl (i j : Bool) : dEq (.bl i) (.bl j) = pure (.bl (decide (i = j))) := rfl
theorem neB_bl (i j : Bool) : dNe (.bl i) (.bl j) = pure (.bl (!decide (i = j))) := rfl
theorem lt_ev (i j : Int) : dLt (.int i) (.int j) = pure (.bl (decide (i < j))) := rfl
theorem le_ev (i j : Int) : dLe (.int i) (.int j) = pure (.bl (decide (i ≤ j))) := rfl
theorem gt_ev (i j : Int) : dGt (.int i) (.int j) = pure (.bl (decide (j < i))) := rfl
theorem ge_ev (i j : Int) : dGe (.int i) (.int j) = pure (.bl (decide (j ≤ i))) := rfl
theorem not_ev (b : Bool) : dNot (.bl b) = pure (.bl (!b)) := rfl
theorem neg_ev (i : Int) : dNeg (.int i) = pure (.int (-i)) := rfl
theorem addI_ev (i j : Int) : dAdd (.int i) (.int j) = pure (.int (i + j)) := rfl
theorem subI_ev (i j : Int) : dSub (.int i) (.int j) = pure (.int (i - j)) := rfl
theorem addL_ev {xs ys : List D} (h : xs.length + ys.length ≤ 1000000) : dAdd (.lst xs) (.lst ys) = pure (.lst (xs ++ ys)) := cat_eq h
theorem len_ev (xs : List D) : dLen (.lst xs) = pure (.int xs.length) := rfl
theorem lenT_ev (xs : List D) : dLen (.tup xs) = pure (.int xs.length) := rfl
theorem cut_ev (xs : List D) (lo hi : Option Int) : dCut (.lst xs) lo hi = pure (.lst (cut xs lo hi)) := rfl
theorem list_ev (xs : List D) : dList (.lst xs) = pure (.lst xs) := rfl
theorem tuple_ev (xs : List D) : dTuple (.lst xs) = pure (.tup xs) := rfl
theorem rev_ev (xs : List D) : dRev (.lst xs) = pure (.lst xs.reverse) := rfl
theorem place_ok {n i : Nat} (h : i < n) : place n (i : Int) = some i := by
  unfold place
  rw [if_pos (by omega), if_pos (by omega), Int.toNat_natCast]
theorem ix_of {xs : List D} {i : Nat} {d : D} (h : xs[i]? = some d) : dIx (.lst xs) (.int i) = pure d := by
  show (match (place xs.length i).bind fun j => xs[j]? with | some v => (pure v : M D) | none => stuck) = _
  rw [place_ok (List.getElem?_eq_some_iff.mp h).1]
  show (match xs[i]? with | some v => (pure v : M D) | none => stuck) = _
  rw [h]
theorem ix_map {α : Type} {f : α → D} {xs : List α} {i : Nat} (h : i < xs.length) : dIx (.lst (xs.map f)) (.int i) = pure (f xs[i]) := ix_of (by rw [List.getElem?_map, List.getElem?_eq_getElem h]; rfl)
theorem allB_ev {α : Type} (xs : List α) (p : α → Bool) : dAll (.lst (xs.map fun x => D.bl (p x))) = pure (.bl (xs.all p)) := all_bls xs p
theorem anyB_ev {α : Type} (xs : List α) (p : α → Bool) : dAny (.lst (xs.map fun x => D.bl (p x))) = pure (.bl (xs.any p)) := by
  have h : ∀ xs : List α, bools? (xs.map fun x => D.bl (p x)) = some (xs.map p) := fun xs => by
    induction xs with
    | nil => rfl
    | cons x xs ih => rw [List.map_cons, bools?, ih]; rfl
  show (match bools? (xs.map fun x => D.bl (p x)) with | some bs => (pure (.bl (bs.any id)) : M D) | none => stuck) = _
  rw [h]
  show pure (D.bl ((xs.map p).any id)) = _
  rw [List.any_map]
  rfl
theorem sumI_ev {α : Type} (xs : List α) (p : α → Int) : dSum (.lst (xs.map fun x => D.int (p x))) = pure (.int (xs.map p).sum) := by
  have h : ∀ xs : List α, ints? (xs.map fun x => D.int (p x)) = some (xs.map p) := fun xs => by
    induction xs with
    | nil => rfl
    | cons x xs ih => rw [List.map_cons, ints?, ih]; rfl
  show (match ints? (xs.map fun x => D.int (p x)) with | some bs => (pure (.int bs.sum) : M D) | none => stuck) = _
  rw [h]
theorem sumC_ev (xs : List Int) : dSum (codeD xs) = pure (.int xs.sum) := by
  show (match ints? (xs.map D.int) with | some bs => (pure (.int bs.sum) : M D) | none => stuck) = _
  rw [ints_of]
theorem neNil_ev {xs : List D} (h : (xs.all fun d => d.cl 59) = true) : dNe (.lst xs) (.lst []) = pure (.bl (!decide (xs = []))) := by
  show liftB ((if (D.lst xs).cl 60 && (D.lst []).cl 60 then some (PyData.eqv (D.lst xs).py (D.lst []).py) else none).map (!·)) = _
  rw [show (D.lst xs).cl 60 = true from h]
  cases xs with
  | nil => rfl
  | cons x xs => rfl
theorem eqNil_ev {xs : List D} (h : (xs.all fun d => d.cl 59) = true) : dEq (.lst xs) (.lst []) = pure (.bl (decide (xs = []))) := by
  show liftB (if (D.lst xs).cl 60 && (D.lst []).cl 60 then some (PyData.eqv (D.lst xs).py (D.lst []).py) else none) = _
  rw [show (D.lst xs).cl 60 = true from h]
  cases xs with
  | nil => rfl
  | cons x xs => rfl
/-! ### what is read alone -/
theorem nbs_map {α : Type} {f : α → D} (h : ∀ x, (f x).nb = true) (xs : List α) : nbs (xs.map f) = true := by
  induction xs with
  | nil => rfl
  | cons x xs ih => simp [nbs, h x, ih]
theorem nb_code (c : List Int) : (codeD c).nb = true := by
  have := nbs_map (f := D.int) (fun _ => rfl) c
  simpa [codeD, D.nb] using this
theorem nb_codes (c : List (List Int)) : (codesD c).nb = true := by
  have := nbs_map (f := codeD) nb_code c
  simpa [codesD, D.nb] using this
theorem un_code (c : List Int) : (codeD c).un = codeD c := un_nb _ (nb_code c)
theorem un_codes (c : List (List Int)) : (codesD c).un = codesD c := un_nb _ (nb_codes c)
theorem un_bcode (c : List Int) : (D.bor (codeD c)).un = codeD c := un_code c
theorem un_bcodes (c : List (List Int)) : (D.bor (codesD c)).un = codesD c := un_codes c
theorem un_imm {d : D} (h : d.imm = true) : d.un = d := by cases d <;> first | rfl | cases h
theorem uns_len (xs : List D) : (uns xs).length = xs.length := by rw [uns_map, List.length_map]
theorem uw_bcodes (c : List (List Int)) : dUw (.bor (codesD c)) = pure (.lst (c.map fun c => .bor (codeD c))) := by
  show pure (D.lst ((c.map codeD).map wrapB)) = _
  rw [List.map_map]
  rfl
theorem uw_bcode (c : List Int) : dUw (.bor (codeD c)) = pure (codeD c) := by
  show pure (D.lst ((c.map D.int).map wrapB)) = _
  rw [List.map_map]
  rfl
theorem hU_len (xs : List D) : hU dLen (.lst xs) = pure (.int xs.length) := by
  unfold hU
  rw [D.un, len_ev, pure_bind, uns_len]
  rfl
theorem bl_of {b c : Bool} (h : b = c) : (pure (.bl b) : M D) = pure (.bl c) := by rw [h]
theorem pure_eq {α : Type} {a b : α} (h : a = b) : (pure a : M α) = pure b := by rw [h]
end DL

/-! ## DText -/
set_option autoImplicit false
set_option linter.all false
set_option maxRecDepth 100000
/-! DText: what repr prints of data: its length, its signs. -/
namespace DL
open PySem
theorem ok_app {a b : Str} (h1 : PyData.strOk a = true) (h2 : PyData.strOk b = true) : PyData.strOk (a ++ b) = true := by
  unfold PyData.strOk at *
  show (a.cps ++ b.cps).all _ = true
  rw [Array.all_append, h1, h2]
  rfl
theorem ok_str (s : String) : PyData.strOk (Str.ofString s) = true := by
  unfold PyData.strOk
  rw [Str.ofString_eq_toList, Array.all_eq_true_iff_forall_mem]
  intro n hn
  simp only [List.mem_toArray, List.mem_map] at hn
  obtain ⟨c, _, rfl⟩ := hn
  have := c.valid
  have h : c.toNat < 0x110000 := by
    rcases this with h | ⟨_, h⟩
    · exact Nat.lt_trans h (by decide)
    · exact h
  simpa using h
theorem ok_from : ∀ (ts : List Str) (k : Nat) (acc : Str), PyData.strOk acc = true → (∀ t ∈ ts, PyData.strOk t = true) → PyData.strOk (textFrom k acc ts) = true
  | [], _, _, h, _ => h
  | t :: ts, k, acc, h, h2 => ok_from ts (k + 1) _ (ok_app (ok_app h (ok_str _)) (h2 t List.mem_cons_self)) fun u hu => h2 u (List.mem_cons_of_mem _ hu)
theorem ok_list {ts : List Str} (h : ∀ t ∈ ts, PyData.strOk t = true) : PyData.strOk (listText ts) = true := ok_app (ok_from ts 0 _ (ok_str _) h) (ok_str _)
theorem ok_join : ∀ (ts : List Str), (∀ t ∈ ts, PyData.strOk t = true) → PyData.strOk (Str.join ", " ts) = true
  | [], _ => by decide +kernel
  | [x], h => h x List.mem_cons_self
  | x :: y :: r, h => ok_app (ok_app (h x List.mem_cons_self) (ok_str _)) (ok_join (y :: r) fun u hu => h u (List.mem_cons_of_mem _ hu))
theorem ok_tuple {ts : List Str} (h : ∀ t ∈ ts, PyData.strOk t = true) : PyData.strOk (tupleText ts) = true := ok_app (ok_app (ok_str _) (ok_join ts h)) (by split <;> exact ok_str _)
theorem shown_lst (xs : List D) : (D.lst xs).py.shown = listText (PyData.shownAll (pys xs)) := by
  rw [D.py, PyData.shown]
theorem shown_tup (xs : List D) : (D.tup xs).py.shown = tupleText (PyData.shownAll (pys xs)) := by
  rw [D.py, PyData.shown]
theorem shown_pys : ∀ xs : List D, PyData.shownAll (pys xs) = xs.map fun d => d.py.shown
  | [] => by rw [pys, PyData.shownAll]; rfl
  | x :: xs => by rw [pys, PyData.shownAll, shown_pys xs]; rfl
/-- printed within n signs, all of them signs -/
structure Txt (k n : Nat) (d : D) : Prop where
  rq : d.rq k = true
  ok : PyData.strOk d.py.shown = true
  len : d.py.shown.length ≤ n
theorem piled_le {n : Nat} : ∀ {ts : List Str}, (∀ t ∈ ts, t.length ≤ n) → piled ts ≤ (n + 2) * ts.length
  | [], _ => by simp [piled]
  | t :: ts, h => by
    have ih := piled_le (ts := ts) fun u hu => h u (List.mem_cons_of_mem _ hu)
    have h1 := h t List.mem_cons_self
    have e : (n + 2) * (t :: ts).length = (n + 2) * ts.length + (n + 2) := Nat.mul_succ _ _
    have e2 : piled (t :: ts) = t.length + 2 + piled ts := by simp [piled]
    omega
theorem list_text_le {n : Nat} : ∀ {ts : List Str}, (∀ t ∈ ts, t.length ≤ n) → (listText ts).length ≤ (n + 2) * ts.length + 2
  | [], _ => by
    rw [listText_nil]
    show _ ≤ (n + 2) * 0 + 2
    rw [Nat.mul_zero]
    decide +kernel
  | t :: r, h => by
    have h1 := h t List.mem_cons_self
    have h2 : (r.map fun t => t.length + 2).sum ≤ (n + 2) * r.length := by
      have : ∀ r : List Str, (∀ u ∈ r, u.length ≤ n) → (r.map fun t => t.length + 2).sum ≤ (n + 2) * r.length := fun r hr => by
        induction r with
        | nil => simp
        | cons u r ih =>
          have := ih fun v hv => hr v (List.mem_cons_of_mem _ hv)
          have := hr u List.mem_cons_self
          simp only [List.map_cons, List.sum_cons, List.length_cons]
          rw [Nat.mul_add]
          omega
      exact this r fun u hu => h u (List.mem_cons_of_mem _ hu)
    rw [listLen, List.length_cons, Nat.mul_add]
    omega
theorem tuple_text_le {n : Nat} {ts : List Str} (h : ∀ t ∈ ts, t.length ≤ n) : (tupleText ts).length ≤ (n + 2) * ts.length + 3 := by
  have hp := piled_le h
  unfold tupleText
  rw [strLen_append, strLen_append]
  have e1 : ((("(" : String) : Str)).length = 1 := by decide +kernel
  have e2 : ((if ts.length == 1 then ",)" else ")" : String) : Str).length ≤ 2 := by split <;> decide +kernel
  by_cases hn : ts = []
  · subst hn
    have e3 : (Str.join (", " : String) []).length = 0 := rfl
    rw [e3, e1]
    omega
  · have := join_length_add ts hn
    rw [e1]
    omega
theorem txt_lst {k n : Nat} {xs : List D} (h : ∀ d ∈ xs, Txt k n d) : Txt (k + 1) ((n + 2) * xs.length + 2) (.lst xs) := by
  refine ⟨?_, ?_, ?_⟩
  · rw [D.rq, rqs_all]
    exact fun d hd => (h d hd).rq
  · rw [shown_lst, shown_pys]
    refine ok_list fun t ht => ?_
    rw [List.mem_map] at ht
    obtain ⟨d, hd, rfl⟩ := ht
    exact (h d hd).ok
  · rw [shown_lst, shown_pys]
    have := list_text_le (n := n) (ts := xs.map fun d => d.py.shown) fun t ht => by
      rw [List.mem_map] at ht
      obtain ⟨d, hd, rfl⟩ := ht
      exact (h d hd).len
    rwa [List.length_map] at this
theorem txt_tup {k n : Nat} {xs : List D} (h : ∀ d ∈ xs, Txt k n d) : Txt (k + 1) ((n + 2) * xs.length + 3) (.tup xs) := by
  refine ⟨?_, ?_, ?_⟩
  · rw [D.rq, rqs_all]
    exact fun d hd => (h d hd).rq
  · rw [shown_tup, shown_pys]
    refine ok_tuple fun t ht => ?_
    rw [List.mem_map] at ht
    obtain ⟨d, hd, rfl⟩ := ht
    exact (h d hd).ok
  · rw [shown_tup, shown_pys]
    have := tuple_text_le (n := n) (ts := xs.map fun d => d.py.shown) fun t ht => by
      rw [List.mem_map] at ht
      obtain ⟨d, hd, rfl⟩ := ht
      exact (h d hd).len
    rwa [List.length_map] at this
theorem Txt.up {k n j m : Nat} {d : D} (h : Txt k n d) (hn : n ≤ m) (hk : d.rq j = true) : Txt j m d := ⟨hk, h.ok, Nat.le_trans h.len hn⟩
theorem txt_non (k : Nat) : Txt k 10 .non := ⟨by cases k <;> rfl, by decide +kernel, by decide +kernel⟩
theorem txt_bl (k : Nat) (b : Bool) : Txt k 10 (.bl b) := ⟨by cases k <;> rfl, by cases b <;> decide +kernel, by cases b <;> decide +kernel⟩
theorem txt_dct (k : Nat) : Txt k 10 (.dct []) := ⟨by cases k <;> rfl, by decide +kernel, by decide +kernel⟩
theorem txt_str (k : Nat) {x : Str} (h : (PyData.strOk x && PyData.strOk (reprText x) && decide ((reprText x).length ≤ 10)) = true) : Txt k 10 (.str x) := by
  simp only [Bool.and_eq_true, decide_eq_true_eq] at h
  refine ⟨by cases k <;> exact h.1.1, ?_, ?_⟩
  · rw [D.py, PyData.shown]; exact h.1.2
  · rw [D.py, PyData.shown]; exact h.2
theorem rqI (k : Nat) {i : Int} (h : i.natAbs.log2 < 1920) : D.rq k (.int i) = true := by cases k <;> exact decide_eq_true h
theorem txt_int (k : Nat) {i : Int} (h : -1 ≤ i ∧ i ≤ 10) : Txt k 10 (.int i) := by
  have c : i = -1 ∨ i = 0 ∨ i = 1 ∨ i = 2 ∨ i = 3 ∨ i = 4 ∨ i = 5 ∨ i = 6 ∨ i = 7 ∨ i = 8 ∨ i = 9 ∨ i = 10 := by omega
  rcases c with h | h | h | h | h | h | h | h | h | h | h | h <;> (subst h; exact ⟨rqI k (by decide), by decide +kernel, by decide +kernel⟩)
theorem reprN_ev {n : Nat} {d : D} (h : Txt 60 n d) (hn : n ≤ 16777216) : dReprN d = pure (.str d.py.shown) := by
  unfold dReprN
  rw [h.rq, Bool.true_and, if_pos]
  exact decide_eq_true (Nat.le_trans h.len hn)

mutual
theorem rq_up : ∀ (k : Nat) (d : D), d.rq k = true → d.rq (k + 1) = true
  | _, .non, _ => by simp [D.rq]
  | _, .bl _, _ => by simp [D.rq]
  | k, .int i, h => by cases k <;> simpa [D.rq] using h
  | k, .str x, h => by cases k <;> simpa [D.rq] using h
  | 0, .lst xs, h => by simp [D.rq] at h
  | 0, .tup xs, h => by simp [D.rq] at h
  | k + 1, .lst xs, h => by
    rw [D.rq] at h ⊢
    exact rqs_up k xs h
  | k + 1, .tup xs, h => by
    rw [D.rq] at h ⊢
    exact rqs_up k xs h
  | k, .dct [], _ => by simp [D.rq]
  | k, .dct (_ :: _), h => by cases k <;> simp [D.rq] at h
  | k, .gen, h => by rw [rq_gen] at h; cases h
  | k, .fn _, h => by rw [rq_fn] at h; cases h
  | k, .exc _ _, h => by rw [rq_exc] at h; cases h
  | k, .thr _ _, h => by rw [rq_thr] at h; cases h
  | k, .bor _, h => by rw [rq_bor] at h; cases h
  | k, .dset _, h => by rw [rq_dset] at h; cases h
theorem rqs_up : ∀ (k : Nat) (ds : List D), rqs k ds = true → rqs (k + 1) ds = true
  | _, [], _ => by simp [rqs]
  | k, d :: ds, h => by
    simp only [rqs, Bool.and_eq_true] at h ⊢
    exact ⟨rq_up k d h.1, rqs_up k ds h.2⟩
end
theorem Txt.deep {k n j m : Nat} {d : D} (h : Txt k n d) (hn : n ≤ m) (hk : k ≤ j) : Txt j m d := by
  refine ⟨?_, h.ok, Nat.le_trans h.len hn⟩
  obtain ⟨i, rfl⟩ := Nat.exists_eq_add_of_le hk
  clear hk
  induction i with
  | zero => exact h.rq
  | succ i ih => exact rq_up _ _ ih
mutual
theorem cl_up : ∀ (k : Nat) (d : D), d.cl k = true → d.cl (k + 1) = true
  | _, .non, _ => by simp [D.cl]
  | _, .bl _, _ => by simp [D.cl]
  | k, .int i, h => by cases k <;> simpa [D.cl] using h
  | k, .str x, h => by cases k <;> simpa [D.cl] using h
  | 0, .lst xs, h => by simp [D.cl] at h
  | 0, .tup xs, h => by simp [D.cl] at h
  | k + 1, .lst xs, h => cls_up k xs h
  | k + 1, .tup xs, h => cls_up k xs h
  | k, .dct _, h => by cases k <;> cases h
  | k, .gen, h => by cases k <;> cases h
  | k, .fn _, h => by cases k <;> cases h
  | k, .exc _ _, h => by cases k <;> cases h
  | k, .thr _ _, h => by cases k <;> cases h
  | k, .bor _, h => by cases k <;> cases h
  | k, .dset _, h => by cases k <;> cases h
theorem cls_up : ∀ (k : Nat) (ds : List D), ds.all (D.cl k) = true → ds.all (D.cl (k + 1)) = true
  | _, [], _ => rfl
  | k, d :: ds, h => by
    rw [List.all_cons, Bool.and_eq_true] at h ⊢
    exact ⟨cl_up k d h.1, cls_up k ds h.2⟩
end
theorem txt_code (k : Nat) {c : List Int} (h : ∀ i ∈ c, -1 ≤ i ∧ i ≤ 10) : Txt (k + 1) (12 * c.length + 2) (codeD c) := by
  have := txt_lst (k := k) (n := 10) (xs := c.map D.int) fun d hd => by
    rw [List.mem_map] at hd
    obtain ⟨i, hi, rfl⟩ := hd
    exact txt_int k (h i hi)
  rwa [List.length_map] at this
end DL

/-! ## DApp -/
set_option Elab.async false
set_option autoImplicit false
set_option linter.all false
set_option maxRecDepth 100000
set_option maxHeartbeats 4000000
/-! DApp: statements in two parts; a block that is spoilt at its end, amid a def. -/
namespace DL
open PySem PySem.Spec PyProof.Rows L2
theorem wp_execs_app {M : Model} {Γ : PySem.Ctx} {env : Env} {Q : Flow → Pos → Shared → Prop} {E : Value → Pos → Shared → Prop} {b : List Stmt} : ∀ (a : List Stmt) (p : Pos) (s : Shared),
    Sem.wp M Γ (execs (a ++ b) env) Q E p s = Sem.wp M Γ (execs a env) (fun f p s => match f with
      | .next => Sem.wp M Γ (execs b env) Q E p s
      | f => Q f p s) E p s
  | [], p, s => rfl
  | st :: a, p, s => by
    rw [List.cons_append, PySem.execs_cons, PySem.execs_cons, Sem.wp_bind', Sem.wp_bind']
    congr 1
    funext f p' s'
    cases f with
    | next => exact wp_execs_app a p' s'
    | _ => rfl
section
variable {X : Cx} {a b : List Stmt} {ta tb : TS} {c : C} {s t : S}
theorem pss_app (ha : PSs X a ta) (hb : PSs X b tb) : PSs X (a ++ b) (tSeq ta tb) := ⟨fun pins s σ H D I h => by
  have q : wpAny (model X.prog X.w) X.A (execs a X.env) (fun f s' => match f with
      | .next => wpAny (model X.prog X.w) X.A (execs b X.env) (SP X pins D) X.xe s'
      | f => SP X pins D f s') X.xe s := by
    refine wpAny_mono (ha.run pins s σ H _ I h) (fun f s1 hsp => ?_) fun _ _ z => z
    cases f with
    | next =>
      obtain ⟨σ', H', I', q⟩ := hsp
      exact hb.run pins s1 σ' H' D I' q
    | brk => exact hsp
    | cont => exact hsp
    | ret u => exact hsp
  intro Γ p hΓ
  rw [wp_execs_app]
  refine Sem.wp_mono _ Γ _ (fun f p' s' z => ?_) (fun _ _ _ z => z) _ _ (q Γ p hΓ)
  cases f with
  | next => exact z Γ p' hΓ
  | brk => exact z
  | cont => exact z
  | ret u => exact z⟩
theorem dss_split {l : List Stmt} (n : Nat) (h1 : PSs X (l.take n) (tS c s)) (h2 : PSs X (l.drop n) (tS c t)) : PSs X l (tS c (sSeq s t)) := by
  have h := (pss_app h1 h2).imp (seq_imp (c := c) (s := s) (t := t))
  rwa [List.take_append_drop] at h
theorem dss_app (ha : PSs X a (tS c s)) (hb : PSs X b (tS c t)) : PSs X (a ++ b) (tS c (sSeq s t)) := (pss_app ha hb).imp seq_imp
end
end DL

/-! ## DSet -/
set_option Elab.async false
set_option autoImplicit false
set_option linter.all false
set_option maxRecDepth 100000
set_option maxHeartbeats 4000000
/-! DSet: set(xs) of a list of ints, sorted(set(xs)). -/
namespace DL
open PySem PySem.Spec PyProof.Rows L2
/-- what set() lays -/
abbrev eSet (w : World) : Obj := { cls := .type "set", dict := none, data := .set #[] 0 (.fresh 0 0 (!w.params.followText "set-order")) }
section
variable {P : Program} {w : World} {A : Around} {E : Value → Shared → Prop} {s : Shared}
/-- the filling of a new set from a list: the set lies at its place, its members are those of the list -/
def Filled (w : World) (s : Shared) (ns : List Int) (s2 : Shared) : Prop := ∃ hp tk c, s2 = { s with heap := hp, toks := tk } ∧ SetR w hp s.heap.objs.size (fun j => decide (j ∈ ns)) c ∧ c ≤ ns.length ∧ ∀ b o, s.heap.get? b = some o → hp.get? b = some o
theorem fill_list {l : Addr} {items : Array Value} {ns : List Int} (hh : A.handled = none) (hl : s.heap.IsList l items) (hit : IntsAre items.toList ns) (hb : ns.length + 1 < scanBound) :
    codeAny (model P w) A (.call (.builtin "set.__init__") ⟨[.ref s.heap.objs.size, .ref l], []⟩) (wants (fun r s2 => r = .none ∧ Filled w s ns s2) E) { s with heap := s.heap.push (eSet w) } := by
  have atS : (s.heap.push (eSet w)).get? s.heap.objs.size = some (eSet w) := Heap.get?_push_size _ rfl
  have isS : Shared.TypeIs { s with heap := s.heap.push (eSet w) } (.ref s.heap.objs.size) "set" := ⟨_, atS, rfl⟩
  have size : items.size = ns.length := by rw [← Array.length_toList]; exact IntsAre.length hit
  refine codeAny_call_builtin PySem.F.called_set.init.plain PySem.F.entry_set_init (check_set_init_1 isS ?_)
  obtain ⟨ol, hol, hcl, nl, hdl⟩ := hl
  obtain ⟨k1, k2, k3, k4⟩ := ol
  replace hcl : k1 = _ := hcl
  replace hdl : k3 = _ := hdl
  subst hcl hdl
  have inS := Heap.get?_push_of_some (eSet w) hol
  have notSet := PySem.F.sub_list_set
  have notFrozen := PySem.F.sub_list_frozenset
  have notDict : (Value.type "list" == Value.type "dict") = false := by decide
  have isL : (s.heap.push (eSet w)).IsList l items := ⟨_, inS, rfl, nl, rfl⟩
  unfold Builtin.«set.__init__» noKeywords
  unfold Builtin.Frozenset.updateFrom
  generalize hPI : pyIter = itr
  wp_walk
  subst hPI
  refine wpAny_pyIter_list isL (wpAny_bind (wpAny_runValue ?_))
  have lt := Heap.lt_size hol
  have ne1 : l ≠ (s.heap.push (eSet w)).objs.size := by rw [Heap.size_push]; exact Nat.ne_of_lt (Nat.lt_succ_of_lt lt)
  have far : s.heap.objs.size ∉ [(s.heap.push (eSet w)).objs.size, l] := by
    rw [Heap.size_push]
    simp only [List.mem_cons, List.mem_singleton, List.not_mem_nil, or_false, not_or]
    exact ⟨fun z => Nat.lt_irrefl _ (Nat.lt_of_lt_of_eq (Nat.lt_succ_self _) z.symm), fun z => absurd lt (by rw [z]; exact Nat.lt_irrefl _)⟩
  have each : ∀ (i : Nat) (v : Value), items[i]? = some v → ∃ k t, ns[i]? = some k ∧ v = .int k t := fun i v hv => by
    have hi : i < ns.length := size ▸ (Array.getElem?_eq_some_iff.mp hv).1
    obtain ⟨t, e⟩ := IntsAre.int_at hit i v (by rw [Array.getElem?_toList]; exact hv)
    exact ⟨ns[i], t, List.getElem?_eq_getElem hi, by rw [e, List.getD_eq_getElem?_getD, List.getElem?_eq_getElem hi]; rfl⟩
  have new : SetR w ((s.heap.push (eSet w)).push { cls := .type "list_iterator", data := .fields #[.ref l, .int 0 0] }) s.heap.objs.size (fun j => decide (j ∈ ns.take 0)) 0 := setR_new_at (Heap.get?_push_of_some _ atS)
  refine set_update_ints ((Walks.list (show A.in1.in1.handled = none by simp [hh]) _ l ne1 items).toS) s.heap.objs.size far ns size hb each (items.size - 0) 0 _ (by omega) (Nat.zero_le _) ?st ⟨0, Nat.le_refl 0, ?new⟩ ?fin
  case st => exact ⟨⟨_, Heap.get?_push_size _ rfl, rfl, rfl⟩, isL.push _⟩
  case new => exact new
  intro s3 c3 mv le3 R3
  obtain ⟨h3, g3, d3, t3, o3⟩ := s3
  cases (show g3 = s.gens from mv.gens)
  cases (show d3 = s.drawn from mv.drawn)
  cases (show o3 = s.os from mv.os)
  refine wpAny_pure (show wpAny _ _ (ret Value.none) _ _ _ from wpAny_pure ⟨rfl, h3, t3, c3, rfl, R3, by rw [size] at le3; exact le3, fun b o e => ?_⟩)
  have hb0 := Heap.lt_size e
  refine mv.heap b o ?_ (Heap.get?_push_of_some _ (Heap.get?_push_of_some _ e))
  simp only [List.mem_cons, List.mem_singleton, List.not_mem_nil, or_false, not_or, Heap.size_push]
  exact ⟨Nat.ne_of_lt hb0, Nat.ne_of_lt (Nat.lt_succ_of_lt hb0)⟩
set_option maxHeartbeats 8000000 in
theorem set_of_list {l : Addr} {items : Array Value} {ns : List Int} {Q : Value → Shared → Prop} (hh : A.handled = none) (hl : s.heap.IsList l items) (hit : IntsAre items.toList ns) (hb : ns.length + 1 < scanBound)
    (fin : ∀ s2, Filled w s ns s2 → Q (.ref s.heap.objs.size) s2) : wpAny (model P w) A (call (.type "set") [.ref l]) Q E s := by
  obtain ⟨c, tl, hmro⟩ := PySem.F.called_set.mro
  have made := PySem.F.called_set.made
  have self := PySem.F.called_set.sub
  refine wpAny_call (codeAny_of_tree (show wpAny _ _ (callAny (.type "set") _) _ _ _ from wpAny_pure ⟨Code.quiet_builtin _ (by decide +kernel), codeAny_builtin PySem.F.entry_type_call ?_⟩))
  rw [Around.under_plain (weight_type_call_type "set" [.ref l] []) rfl]
  have q1 := PySem.F.called_set.notType
  have q2 := PySem.F.called_set.canCreate
  have q3 := PySem.F.typeCall_set_1 (.ref l)
  repeat (any_goals (first | (assumption; done) | wp_step))
  refine codeAny_mono (code_set_led1 (.ref l) (E := E) (Q₁ := fun x s1 => x = .ref s.heap.objs.size ∧ s1 = { s with heap := s.heap.push (eSet w) }) ⟨rfl, rfl⟩) fun r s1 hr => ?_
  cases r with
  | error e => exact hr
  | ok fl => cases fl with
    | next => exact hr
    | brk => exact hr
    | cont => exact hr
    | ret x =>
      obtain ⟨e1, e2⟩ : x = _ ∧ s1 = _ := hr
      subst e1 e2
      have atS : (s.heap.push (eSet w)).get? s.heap.objs.size = some (eSet w) := Heap.get?_push_size _ rfl
      have isS : Shared.TypeIs { s with heap := s.heap.push (eSet w) } (.ref s.heap.objs.size) "set" := ⟨_, atS, rfl⟩
      have q4 := PySem.F.called_set.init.lookup
      have q5 := PySem.F.called_set.init.bind (.ref s.heap.objs.size)
      repeat (any_goals (first | (assumption; done) | wp_step))
      refine codeAny_mono (fill_list (E := E) (by simp [hh]) hl hit hb) fun r2 s2 hr2 => ?_
      cases r2 with
      | error e => exact hr2
      | ok fl2 => cases fl2 with
        | next => exact hr2.elim
        | brk => exact hr2.elim
        | cont => exact hr2.elim
        | ret y =>
          obtain ⟨e3, f⟩ := hr2
          subst e3
          repeat (any_goals (first | (assumption; done) | wp_step))
          exact fin _ f
end
end DL

/-! ## DSet2 -/
set_option Elab.async false
set_option autoImplicit false
set_option linter.all false
set_option maxRecDepth 100000
set_option maxHeartbeats 4000000
/-! DSet2: sorted(set(xs)) by plain data. -/
namespace DL
open PySem PySem.Spec PyProof.Rows L2
/-! ### the members of a list of ints, in order, each once -/
def insS (x : Int) : List Int → List Int
  | [] => [x]
  | y :: r => if x < y then x :: y :: r else if x = y then y :: r else y :: insS x r
def sset (ns : List Int) : List Int := ns.foldr insS []
theorem insS_mem (x : Int) : ∀ (l : List Int) (k : Int), k ∈ insS x l ↔ k = x ∨ k ∈ l
  | [], k => by simp [insS]
  | y :: r, k => by
    unfold insS
    split
    · simp
    · split
      · rename_i e
        subst e
        simp
      · rw [List.mem_cons, insS_mem x r, List.mem_cons]
        constructor
        · rintro (h | h | h) <;> simp [h]
        · rintro (h | h | h) <;> simp [h]
theorem insS_up (x : Int) : ∀ {l : List Int}, l.Pairwise (· < ·) → (insS x l).Pairwise (· < ·)
  | [], _ => by simp [insS]
  | y :: r, h => by
    obtain ⟨h1, h2⟩ := List.pairwise_cons.mp h
    unfold insS
    split
    · rename_i lt
      refine List.pairwise_cons.mpr ⟨fun z hz => ?_, h⟩
      rcases List.mem_cons.mp hz with rfl | hz
      · exact lt
      · exact Int.lt_trans lt (h1 z hz)
    · split
      · exact h
      · refine List.pairwise_cons.mpr ⟨fun z hz => ?_, insS_up x h2⟩
        rcases (insS_mem x r z).mp hz with rfl | hz
        · omega
        · exact h1 z hz
theorem sset_mem (k : Int) : ∀ ns : List Int, k ∈ sset ns ↔ k ∈ ns
  | [] => by simp [sset]
  | x :: r => by
    show k ∈ insS x (sset r) ↔ _
    rw [insS_mem, sset_mem k r, List.mem_cons]
theorem sset_up : ∀ ns : List Int, (sset ns).Pairwise (· < ·)
  | [] => List.Pairwise.nil
  | x :: r => insS_up x (sset_up r)
theorem up_eq : ∀ {a b : List Int}, a.Pairwise (· < ·) → b.Pairwise (· < ·) → (∀ k, k ∈ a ↔ k ∈ b) → a = b
  | [], [], _, _, _ => rfl
  | [], y :: b, _, _, h => absurd ((h y).mpr List.mem_cons_self) (by simp)
  | x :: a, [], _, _, h => absurd ((h x).mp List.mem_cons_self) (by simp)
  | x :: a, y :: b, ha, hb, h => by
    obtain ⟨a1, a2⟩ := List.pairwise_cons.mp ha
    obtain ⟨b1, b2⟩ := List.pairwise_cons.mp hb
    have e : x = y := by
      have h1 := (h x).mp List.mem_cons_self
      have h2 := (h y).mpr List.mem_cons_self
      rcases List.mem_cons.mp h1 with z | z
      · exact z
      · rcases List.mem_cons.mp h2 with u | u
        · exact u.symm
        · have := b1 x z
          have := a1 y u
          omega
    subst e
    refine congrArg _ (up_eq a2 b2 fun k => ?_)
    have q := h k
    rw [List.mem_cons, List.mem_cons] at q
    constructor
    · intro hk
      rcases q.mp (.inr hk) with z | z
      · have := a1 k hk
        omega
      · exact z
    · intro hk
      rcases q.mpr (.inr hk) with z | z
      · have := b1 k hk
        omega
      · exact z
def dSortSet (d : D) : M D := match d with
  | .lst xs => match ints? xs with
    | some ns => if ns.length < 64 then pure (.lst ((sset ns).map .int)) else stuck
    | none => stuck
  | _ => stuck
section
variable {X : Cx} {ga : Option Addr} {bo : Hp} {a : Expr} {fa : E} {p p2 q pos : Pos}
def rSetL (K : PySem.W.Frag) (w : World) : List V → Hp → VK → Prop := fun vs H Q => ∃ (l : Addr) (ns : List Int), vs = [.ref l] ∧ SqL K H l (ns.map V.int) ∧ ns.length < 64 ∧ ∀ (b : Addr) (n : Nat), H b = none → n ≤ ns.length → Q (.ref b) (upd H b (SetO w b (fun j => decide (j ∈ ns)) n))
theorem cr_setL (hc : X.calm = true) : CallR X (.type "set") (rSetL X.K X.w) := by
  intro pins s σ H vs us Q I r h
  obtain ⟨l, ns, rfl, hq, hl, q⟩ := h
  rw [Vals.ref1 r]
  obtain ⟨its, rv, pl, _⟩ := I.list hq
  refine set_of_list (I.ok.hd hc) pl.isList (ns := ns) (by simpa using rv.ints) (by unfold scanBound; omega) fun s2 ⟨hp, tk, n, e, R, le, keep⟩ => ?_
  subst e
  exact ⟨.ref _, upd H s.heap.objs.size (SetO X.w s.heap.objs.size (fun j => decide (j ∈ ns)) n), I.laid (t' := tk) keep (Nat.le_refl _) (setO_new R), rfl, q _ n (I.hok.fresh (Nat.le_refl _)) le⟩
theorem d_sset (hm : X.mg "sorted" = none) (hm2 : X.mg "set" = none) (ha : PE X a (tR ⟨X.K, X.mg, ga, bo, X.prog, X.w⟩ fa)) (hc : X.calm = true := by rfl) (hg : Gl X "sorted" := by rfl) (hg2 : Gl X "set" := by rfl) (he : starEach [a] X.env = (false, eval a X.env) :: starEach [] X.env := by rfl)
    (he2 : starEach [.Call (.Name "set" p2) [a] [] q] X.env = (false, eval (.Call (.Name "set" p2) [a] [] q) X.env) :: starEach [] X.env := by rfl) :
    PE X (.Call (.Name "sorted" p) [.Call (.Name "set" p2) [a] [] q] [] pos) (tP ⟨X.K, X.mg, ga, bo, X.prog, X.w⟩ (eF dSortSet fa)) :=
  (pe_callB (cr_sortedSet hc) hg hm (by rfl) (pa_cons (pe_callTy (cr_setL hc) hg2 hm2 (by rfl) (pa_cons ha pa_nil he) (by decide) (by decide) he rfl) pa_nil he2) (by decide) (by decide) he2 rfl).imp fun σ H Q ⟨H0, F, δ, g, d, g', w, o, q⟩ => by
    obtain ⟨x, g1, o1, o⟩ := ok_bind.mp o
    unfold dSortSet at o
    split at o
    · rename_i xs
      split at o
      · rename_i ns hns
        split at o
        · rename_i hl
          obtain ⟨rfl, rfl⟩ := ok_pure.mp o
          refine ⟨H0, F, δ, g, _, g1, w, o1, fun v F1 H1 s1 r1 => ?_⟩
          obtain ⟨l, vs, rfl, el, ra⟩ := r1.lst s1.le
          rw [ints_map hns] at ra
          have ev := RepAll.ofInts ra
          subst ev
          refine ⟨l, ns, rfl, SqL.of el, hl, fun b n hb hn => ?_⟩
          refine ⟨b, _, n, rfl, upd_same, by omega, fun zs p2 up mem len hp => ?_⟩
          have hz : zs = sset ns := up_eq up (sset_up ns) fun k => by rw [mem, sset_mem]; simp
          subst hz
          have t1 := Stp.tmp (c := ⟨X.K, X.mg, ga, bo, X.prog, X.w⟩) (o := SetO X.w b (fun j => decide (j ∈ ns)) n) s1.le s1.gen hb
          have t2 := Stp.lay (c := ⟨X.K, X.mg, ga, bo, X.prog, X.w⟩) (o := .lst ((sset ns).map V.int)) t1.le t1.gen hp
          exact q _ _ _ ((s1.trans t1).trans t2) (.lst upd_same (RepAll.ofMap (fun x => .int x) _))
        · exact absurd o not_ok_stuck
      · exact absurd o not_ok_stuck
    · exact absurd o not_ok_stuck
end
end DL

/-! ## DSum -/
set_option Elab.async false
set_option autoImplicit false
set_option linter.all false
set_option maxRecDepth 100000
set_option maxHeartbeats 4000000
/-! DSum: sum(xs, []) of a list of lists. -/
namespace DL
open PySem PySem.Spec PyProof.Rows L2
section
variable {P : Program} {w : World} {A : Around} {E : Value → Shared → Prop}
theorem args_sumL (a b : Value) : argsOk "sum" ⟨[a, b], []⟩ := by unfold argsOk; kernel_rfl
/-- at the address: a list of the items -/
abbrev LsAt (h : Heap) (a : Addr) (its : List Value) (n : Nat) : Prop := h.get? a = some { cls := .type "list", dict := none, data := .seq its.toArray n, slots := #[] }
theorem sum_lists {R : Result → Shared → Prop} (hh : A.handled = none) {I S l : Addr} {items : List Value} {ls : List (List Value)} (hIl : l ≠ I) (hSI : S ≠ I) (hSl : S ≠ l) (hlen : ls.length = items.length) (hsz : ls.flatten.length ≤ sizeLine) {h0 : Heap} {N0 : Nat} (hN : N0 ≤ I)
    (hv : ∀ (i : Nat) (v : Value), items[i]? = some v → ∃ a n x, v = .ref a ∧ ls[i]? = some x ∧ LsAt h0 a x n ∧ a ≠ I ∧ a ≠ S) :
    ∀ (k i : Nat) (s : Shared) (tv : Addr) (c : Nat), items.length - i = k → i ≤ items.length → s.heap.IsListIter I l i → s.heap.IsList l items.toArray → (∀ b o, b ≠ I → b ≠ S → h0.get? b = some o → s.heap.get? b = some o) →
      s.heap.get? S = some { cls := .type "list", dict := none, data := .seq #[.ref tv] c, slots := #[] } → tv ≠ S → tv ≠ I → I < s.heap.objs.size → S < s.heap.objs.size → (i = items.length → N0 ≤ tv) → (∃ n, LsAt s.heap tv (ls.take i).flatten n) →
      (∀ h' tk tv', (∀ b o, b ≠ I → b ≠ S → s.heap.get? b = some o → h'.get? b = some o) → (∃ n, LsAt h' tv' ls.flatten n) → N0 ≤ tv' → R (.ok (.ret (.ref tv'))) { s with heap := h', toks := tk }) →
      codeAny (model P w) A (.builtin "sum.loop" ⟨[.ref I, .ref S, rawInt 2, rawInt 0], []⟩) R s := by
  intro k
  induction k with
  | zero =>
    intro i s tv c hk hi hit hl hb hS n1 n2 lI lS nt0 ht hR
    have hin : i = items.length := by omega
    subst hin
    refine codeAny_builtin F.entry_sum_loop ?_
    rw [Around.under_plainId F.plain_sum_loop _]
    show wpAny _ A.in1 (seqItems? (.ref S) >>= _) _ _ s
    refine wpAny_bind (wpAny_seqItems hS rfl ?_)
    show wpAny _ A.in1 (tryCatch (pyNext (.ref I)) _ >>= _) _ _ s
    refine wpAny_bind (wpAny_tryCatch ((Walks.list (A := A.in1) hh I l hIl items.toArray).done s _ _ ⟨by simpa using hit, hl⟩ fun h' tk hk' => ?_))
    refine wpAny_pure (hR h' tk tv (fun b o hbw _ e => hk' b o (by simpa using hbw) e) ?_ (nt0 rfl))
    obtain ⟨n, ht⟩ := ht
    refine ⟨n, hk' _ _ (by simpa using n2) ?_⟩
    rw [← hlen, List.take_length] at ht
    exact ht
  | succ k ih =>
    intro i s tv c hk hi hit hl hb hS n1 n2 lI lS nt0 ht hR
    have hlt : i < items.length := by omega
    refine codeAny_builtin F.entry_sum_loop ?_
    rw [Around.under_plainId F.plain_sum_loop _]
    show wpAny _ A.in1 (seqItems? (.ref S) >>= _) _ _ s
    refine wpAny_bind (wpAny_seqItems hS rfl ?_)
    show wpAny _ A.in1 (tryCatch (pyNext (.ref I)) _ >>= _) _ _ s
    refine wpAny_bind (wpAny_tryCatch ((Walks.list (A := A.in1) hh I l hIl items.toArray).item i s _ _ (by simpa using hlt) ⟨hit, hl⟩ fun v h' tk hP hst' hk' => ?_))
    obtain ⟨a, n, x, rfl, hx, ha, a1, a2⟩ := hv i v (by simpa using hP)
    have hS' := hk' S _ (by simpa using hSI) hS
    obtain ⟨nt, ht⟩ := ht
    have ht' := hk' tv _ (by simpa using n2) ht
    have ha' := hk' a _ (by simpa using a1) (hb a _ a1 a2 ha)
    have lI' : I < h'.objs.size := by
      obtain ⟨_, q, _⟩ := hst'.1
      exact Heap.lt_size q
    have lS' : S < h'.objs.size := Heap.lt_size hS'
    have ltv : tv < h'.objs.size := Heap.lt_size ht'
    have hx2 : (ls.take (i + 1)).flatten = (ls.take i).flatten ++ x := by
      rw [List.take_add_one, hx]; simp
    have hsz2 : ((ls.take i).flatten ++ x).length ≤ sizeLine := by
      rw [← hx2]
      refine Nat.le_trans ?_ hsz
      have e : ls.flatten = (ls.take (i + 1)).flatten ++ (ls.drop (i + 1)).flatten := by rw [← List.flatten_append, List.take_append_drop]
      rw [e, List.length_append]
      exact Nat.le_add_right _ _
    show wpAny _ A.in1 ((holding [Value.ref a] (binaryOp .Add (.ref tv) (.ref a))).attempt >>= _) _ _ _
    refine wpAny_bind (wpAny_attempt (wpAny_holding (PySem.P.add_list ht' ha' ?_ (by simpa using hsz2))))
    show wpAny _ A.in1 (updateSeq S (fun _ => #[.ref h'.objs.size]) >>= _) _ _ _
    refine wpAny_bind ?_
    have hS3 := Heap.get?_push_of_some { cls := .type "list", data := .seq ((ls.take i).flatten.toArray ++ x.toArray) } hS'
    refine wpAny_updateSeq hS3 rfl ?_
    have hS2 := Heap.get?_update_self (Obj.mapSeq fun _ => #[Value.ref h'.objs.size]) hS3 rfl
    refine wpAny_bind (wpAny_letGo ?_)
    refine wpAny_bind ?_
    refine wpAny_updateSeq hS2 rfl (wpAny_pure ⟨plainId_quiet F.plain_sum_loop _, ?_⟩)
    have other : ∀ b o, b ≠ S → h'.get? b = some o → (((h'.push { cls := .type "list", data := .seq ((ls.take i).flatten.toArray ++ x.toArray) }).update S (Obj.mapSeq fun _ => #[Value.ref h'.objs.size])).update S (Obj.mapSeq fun _ => #[Value.ref h'.objs.size])).get? b = some o := fun b o hbS e =>
      (Heap.get?_update_other _ _ (Ne.symm hbS)).trans ((Heap.get?_update_other _ _ (Ne.symm hbS)).trans (Heap.get?_push_of_some _ e))
    have newS : h'.objs.size ≠ S := Nat.ne_of_gt lS'
    have sizes : (((h'.push { cls := .type "list", data := .seq ((ls.take i).flatten.toArray ++ x.toArray) }).update S (Obj.mapSeq fun _ => #[Value.ref h'.objs.size])).update S (Obj.mapSeq fun _ => #[Value.ref h'.objs.size])).objs.size = h'.objs.size + 1 := by
      rw [Heap.size_update, Heap.size_update, Heap.size_push]
    refine ih (i + 1) _ h'.objs.size _ (by omega) hlt ?_ ?_ (fun b o b1 b2 e => ?_) (Heap.get?_update_self _ hS2 rfl) newS (Nat.ne_of_gt lI') ?_ ?_ (fun _ => Nat.le_trans hN (Nat.le_of_lt lI')) ⟨0, ?_⟩ fun h'' tk'' tv' kp fin new => ?_
    · exact hst'.1.at fun o e => other _ _ (Ne.symm hSI) e
    · exact hst'.2.at fun o e => other _ _ (Ne.symm hSl) e
    · exact other b o b2 (hk' b o (by simpa using b1) (hb b o b1 b2 e))
    · show I < _
      rw [sizes]; exact Nat.lt_succ_of_lt lI'
    · show S < _
      rw [sizes]; exact Nat.lt_succ_of_lt lS'
    · show Heap.get? _ _ = _
      rw [hx2]
      refine (Heap.get?_update_other _ _ (Ne.symm newS)).trans ((Heap.get?_update_other _ _ (Ne.symm newS)).trans ?_)
      have : (ls.take i).flatten.toArray ++ x.toArray = ((ls.take i).flatten ++ x).toArray := by simp
      rw [← this]
      exact Heap.get?_push_size _ rfl
    · exact hR h'' tk'' tv' (fun b o b1 b2 e => kp b o b1 b2 (other b o b2 (hk' b o (by simpa using b1) e))) fin new
theorem sumL_call {s : Shared} {l b : Addr} {items : List Value} {ls : List (List Value)} {nb : Nat} {Q : Value → Shared → Prop} (hh : A.handled = none) (hl : s.heap.IsList l items.toArray) (hb : LsAt s.heap b [] nb) (hne : items ≠ []) (hlen : ls.length = items.length) (hsz : ls.flatten.length ≤ sizeLine)
    (hv : ∀ (i : Nat) (v : Value), items[i]? = some v → ∃ a n x, v = .ref a ∧ ls[i]? = some x ∧ LsAt s.heap a x n)
    (h : ∀ h' tk p, (∀ b o, s.heap.get? b = some o → h'.get? b = some o) → s.heap.objs.size ≤ p → (∃ n, LsAt h' p ls.flatten n) → Q (.ref p) { s with heap := h', toks := tk }) : wpAny (model P w) A (call (.builtin "sum") [.ref l, .ref b]) Q E s := by
  refine call_function_tree F.kind_sum F.plain_sum F.entry_sum (args_sumL _ _) ?_
  unfold Builtin.«sum»
  simp only [List.length_cons, List.length_nil]
  rw [if_neg (by decide)]
  refine wpAny_bind (wpAny_of_eq (show Builtin.Builtins.bindParams "sum" ["start"] 0 ⟨[.ref b], []⟩ = pure [some (.ref b)] from rfl) ?_)
  refine wpAny_bind (wpAny_pyIter_list hl ?_)
  refine wpAny_bind (wpAny_pure ?_)
  have llt : l < s.heap.objs.size := by
    obtain ⟨_, q, _⟩ := hl
    exact Heap.lt_size q
  have isB : Shared.TypeIs { s with heap := s.heap.push { cls := .type "list_iterator", data := .fields #[.ref l, .int 0 0] } } (.ref b) "list" := ⟨_, Heap.get?_push_of_some _ hb, rfl⟩
  simp only [List.forIn_cons, List.forIn_nil]
  refine wpAny_bind (wpAny_bind (wpAny_bind (wpAny_isInstance (T := "list") (b := false) isB PySem.F.sub_list_str ?_)))
  simp only [Bool.false_eq_true, if_false]
  refine wpAny_pure (wpAny_bind (wpAny_bind (wpAny_isInstance (T := "list") (b := false) isB PySem.F.sub_list_bytes ?_)))
  simp only [Bool.false_eq_true, if_false]
  refine wpAny_pure (wpAny_bind (wpAny_bind (wpAny_isInstance (T := "list") (b := false) isB PySem.F.sub_list_bytearray ?_)))
  simp only [Bool.false_eq_true, if_false]
  refine wpAny_pure (wpAny_pure ?_)
  refine wpAny_bind (wpAny_newObj_type ?_)
  have blt : b < s.heap.objs.size := Heap.lt_size hb
  have sz1 : (s.heap.push { cls := .type "list_iterator", data := .fields #[.ref l, .int 0 0] }).objs.size = s.heap.objs.size + 1 := Heap.size_push _ _
  have szE : ((s.heap.push { cls := .type "list_iterator", data := .fields #[.ref l, .int 0 0] }).push { cls := .type "list", data := .seq #[.ref b] }).objs.size = s.heap.objs.size + 1 + 1 := by rw [Heap.size_push, sz1]
  have two : ∀ c : Addr, c < s.heap.objs.size → c ≠ s.heap.objs.size ∧ c ≠ (s.heap.push { cls := .type "list_iterator", data := .fields #[.ref l, .int 0 0] }).objs.size := fun c hc => ⟨Nat.ne_of_lt hc, by rw [sz1]; exact Nat.ne_of_lt (Nat.lt_succ_of_lt hc)⟩
  refine wpAny_pure ⟨plainId_quiet F.plain_sum_loop _, sum_lists (P := P) (w := w) (A := A) (I := s.heap.objs.size) (l := l) (h0 := s.heap) (N0 := s.heap.objs.size) hh (two l llt).1 (by rw [sz1]; exact Nat.ne_of_gt (Nat.lt_succ_self _)) (two l llt).2.symm hlen hsz (Nat.le_refl _) (fun i v e => ?_) items.length 0 _ b 0 rfl (Nat.zero_le _) ?_ ?_ (fun c o _ _ e => Heap.get?_push_of_some _ (Heap.get?_push_of_some _ e)) (Heap.get?_push_size _ rfl) (two b blt).2 (two b blt).1 ?_ ?_ (fun z => absurd (List.length_eq_zero_iff.mp z.symm) hne) ⟨nb, ?_⟩ fun h' tk p kp fin new => ?_⟩
  · obtain ⟨a, n, x, e1, e2, e3⟩ := hv i v e
    have := Heap.lt_size e3
    exact ⟨a, n, x, e1, e2, e3, (two a this).1, (two a this).2⟩
  · exact ⟨_, Heap.get?_push_of_some _ (Heap.get?_push_size _ rfl), rfl, rfl⟩
  · exact (hl.push _).push _
  · exact Nat.lt_of_lt_of_eq (Nat.lt_succ_of_lt (Nat.lt_succ_self _)) szE.symm
  · exact Nat.lt_of_lt_of_eq (sz1 ▸ Nat.lt_succ_self _) szE.symm
  · exact Heap.get?_push_of_some _ (Heap.get?_push_of_some _ hb)
  · have q := fun c (o : Obj) (e : s.heap.get? c = some o) => two c (Heap.lt_size e)
    exact h h' tk p (fun c o e => kp c o (q c o e).1 (q c o e).2 (Heap.get?_push_of_some _ (Heap.get?_push_of_some _ e))) new fin
end
/-! ### by plain data -/
def lists? : List D → Option (List (List D))
  | [] => some []
  | .lst x :: r => (lists? r).map (x :: ·)
  | _ :: _ => none
def dSumL (d e : D) : M D := match d, e with
  | .lst (x :: xs), .lst [] => match lists? (x :: xs) with
    | some ls => if lim ls.flatten.length then pure (.lst ls.flatten) else stuck
    | none => stuck
  | _, _ => stuck
section
variable {X : Cx} {c : C}
theorem lists_rep {F : Hp} : ∀ {vs : List V} {ds : List D} {ls : List (List D)}, RepAll c F vs ds → lists? ds = some ls → ∃ ps : List (Addr × List V), vs = ps.map (fun p => V.ref p.1) ∧ (∀ p ∈ ps, F p.1 = some (.lst p.2)) ∧ RepAll c F (ps.map (·.2)).flatten ls.flatten
  | _, [], _, r, h => by
    cases r
    cases h
    exact ⟨[], rfl, by simp, .nil⟩
  | _, .lst x :: ds, _, r, h => by
    cases r with
    | cons r1 r2 =>
      unfold lists? at h
      obtain ⟨ms, e, rfl⟩ := Option.map_eq_some_iff.mp h
      obtain ⟨ps, e1, e2, e3⟩ := lists_rep r2 e
      cases r1 with
      | @lst _ a ws _ ea ra =>
        refine ⟨(a, ws) :: ps, by rw [e1]; rfl, fun p hp => ?_, ?_⟩
        · rcases List.mem_cons.mp hp with rfl | hp
          · exact ea
          · exact e2 p hp
        · simp only [List.map_cons, List.flatten_cons]
          exact ra.append e3
theorem lists_heap {pins : List (Addr × Obj)} {σ : L2.St} {H : Hp} {s : Shared} (I : Inv X pins σ H s) : ∀ (ps : List (Addr × List V)), (∀ p ∈ ps, H p.1 = some (.lst p.2)) → ∃ ls : List (List Value), ls.length = ps.length ∧ Vals (ps.map (·.2)).flatten ls.flatten ∧
      ∀ (i : Nat) (p : Addr × List V), ps[i]? = some p → ∃ n x, ls[i]? = some x ∧ LsAt s.heap p.1 x n
  | [], _ => ⟨[], rfl, .nil, fun i p h => by simp at h⟩
  | p :: ps, h => by
    obtain ⟨ls, e1, e2, e3⟩ := lists_heap I ps fun q hq => h q (List.mem_cons_of_mem _ hq)
    obtain ⟨z, its, n, r, hl, e⟩ := I.lstM (h p List.mem_cons_self)
    refine ⟨its :: ls, by simp [e1], ?_, fun i q hq => ?_⟩
    · simp only [List.map_cons, List.flatten_cons]
      exact r.append e2
    · cases i with
      | zero =>
        simp at hq
        subst hq
        exact ⟨n, its, rfl, e⟩
      | succ i =>
        obtain ⟨m, x, q1, q2⟩ := e3 i q (by simpa using hq)
        exact ⟨m, x, by simpa using q1, q2⟩
theorem refs_vals : ∀ {ps : List (Addr × List V)} {us : List Value}, Vals (ps.map fun p => V.ref p.1) us → us = ps.map fun p => Value.ref p.1
  | [], _, r => by cases r; rfl
  | p :: ps, _, r => by
    cases r with
    | cons a b =>
      cases a
      rw [refs_vals b]
      rfl
def rSumL : List V → Hp → VK → Prop := fun vs H Q => ∃ (a b : Addr) (ps : List (Addr × List V)), vs = [.ref a, .ref b] ∧ H a = some (.lst (ps.map fun p => V.ref p.1)) ∧ H b = some (.lst []) ∧ ps ≠ [] ∧ (∀ p ∈ ps, H p.1 = some (.lst p.2)) ∧ (ps.map (·.2)).flatten.length ≤ sizeLine ∧
  ∀ p, H p = none → Q (.ref p) (upd H p (.lst (ps.map (·.2)).flatten))
theorem cr_sumL (hc : X.calm = true) : CallR X (.builtin "sum") rSumL := by
  intro pins s σ H xs us Q I r h
  obtain ⟨a, b, ps, rfl, ea, eb, ne, e2, hz, q⟩ := h
  obtain ⟨vls, k1, k2, k3⟩ := lists_heap I ps e2
  obtain ⟨z, its, n, rv, hl, el⟩ := I.lstM ea
  obtain ⟨z2, its2, n2, rv2, hl2, el2⟩ := I.lstM eb
  cases rv2
  have hits := refs_vals rv
  have hus : us = [.ref a, .ref b] := by
    cases r with
    | cons q1 q2 =>
      cases q2 with
      | cons q3 q4 =>
        cases q4
        cases q1
        cases q3
        rfl
  subst hus
  refine sumL_call (l := a) (b := b) (items := its) (ls := vls) (I.ok.hd hc) ⟨_, el, rfl, n, rfl⟩ el2 (fun z => ne (by rw [hits] at z; exact List.map_eq_nil_iff.mp z)) (by rw [k1, hits, List.length_map]) (by rw [← k2.length]; exact hz) (fun i v hv => ?_) fun h' tk p keep new fin => ?_
  · rw [hits, List.getElem?_map] at hv
    obtain ⟨p, hp, rfl⟩ := Option.map_eq_some_iff.mp hv
    obtain ⟨m, x, q1, q2⟩ := k3 i p hp
    exact ⟨p.1, m, x, rfl, q1, q2⟩
  · obtain ⟨m, fin⟩ := fin
    exact ⟨.ref p, _, I.laid (t' := tk) (o := .lst (ps.map (·.2)).flatten) keep new ⟨hz, vls.flatten, m, k2, fin⟩, rfl, q p (I.hok.fresh new)⟩
theorem sumL_rep {F H : Hp} {x y : V} {d e d' : D} {g g' : Gs} (le : Same F H) (r1 : RepB c F H x d) (r2 : RepB c F H y e) (o : Ok (dSumL d e) g d' g') : g = g' ∧ ∃ (a b : Addr) (ps : List (Addr × List V)) (ds : List D), x = .ref a ∧ y = .ref b ∧ H a = some (.lst (ps.map fun p => V.ref p.1)) ∧ H b = some (.lst []) ∧ ps ≠ [] ∧ (∀ p ∈ ps, H p.1 = some (.lst p.2)) ∧ (ps.map (·.2)).flatten.length ≤ sizeLine ∧
    d' = .lst ds ∧ RepAll c F (ps.map (·.2)).flatten ds := by
  unfold dSumL at o
  split at o
  · rename_i x0 xs0
    split at o
    · rename_i ls hls
      split at o
      · rename_i hz
        obtain ⟨rfl, rfl⟩ := ok_pure.mp o
        obtain ⟨a, vs, rfl, ea, ra⟩ := r1.lst le
        obtain ⟨b, ws, rfl, eb, rb⟩ := r2.lst le
        cases rb
        obtain ⟨ps, e1, e2, e3⟩ := lists_rep ra hls
        subst e1
        refine ⟨rfl, a, b, ps, _, rfl, rfl, ea, eb, fun z => ?_, fun p hp => le _ _ (e2 p hp), by rw [e3.length]; exact lim_le hz, rfl, e3⟩
        subst z
        cases ra
      · exact absurd o not_ok_stuck
    · exact absurd o not_ok_stuck
  · exact absurd o not_ok_stuck
theorem sumL_c (hc : X.calm = true) : CallR X (.builtin "sum") (c2 c dSumL) := fun pins s σ H xs us Q I r ⟨x, y, e, F, d, e1, d', g, g', le, gen, r1, r2, o, q⟩ => by
  obtain ⟨rfl, a, b, ps, ds, rfl, rfl, k1, k2, k3, k4, k5, rfl, ra⟩ := sumL_rep le r1 r2 o
  refine cr_sumL hc pins s σ H xs us Q I r ⟨a, b, ps, e, k1, k2, k3, k4, k5, fun p hp => ?_⟩
  have st := Stp.lay (c := c) (o := .lst (ps.map (·.2)).flatten) le gen hp
  exact q _ _ _ st (.lst upd_same (ra.up st.sub))
/-- of what is read alone: the items no objects -/
def dSumLD (d e : D) : M D := dSumL d.un e.un >>= fun r => match r with
  | .lst xs => if xs.all D.imm then pure (.lst xs) else stuck
  | _ => stuck
theorem sumLD_c (hc : X.calm = true) : CallR X (.builtin "sum") (c2 c dSumLD) := fun pins s σ H xs us Q I r ⟨x, y, e, F, d, e1, d', g, g', le, gen, r1, r2, o, q⟩ => by
  obtain ⟨d1, g1, o1, o⟩ := ok_bind.mp o
  obtain ⟨rfl, a, b, ps, ds, rfl, rfl, k1, k2, k3, k4, k5, rfl, ra⟩ := sumL_rep (un_le le gen.bo) (unB_RepB le gen.bo r1) (unB_RepB le gen.bo r2) o1
  replace o : Ok (if ds.all D.imm then pure (D.lst ds) else stuck) g d' g' := o
  split at o
  · rename_i hi
    obtain ⟨rfl, rfl⟩ := ok_pure.mp o
    refine cr_sumL hc pins s σ H xs us Q I r ⟨a, b, ps, e, k1, k2, k3, k4, k5, fun p hp => ?_⟩
    have st := Stp.lay (c := c) (o := .lst (ps.map (·.2)).flatten) le gen hp
    exact q _ _ _ st (.lst upd_same (imms_any hi ra))
  · exact absurd o not_ok_stuck
end
end DL

/-! ## DOdd2 -/
set_option Elab.async false
set_option autoImplicit false
set_option linter.all false
set_option maxRecDepth 100000
set_option maxHeartbeats 4000000
/-! DOdd2: what a scope spoils at its end: x[..].append('odd'); for y in x[..]: y.append('odd'). -/
namespace DL
open PySem PySem.Spec PyProof.Rows L2
inductive Op where
  | one (i : Nat) (p : List Nat)
  | each (i : Nat) (p : List Nat) (j : Nat)
/-- for y in ..: y.append('odd'), y in slot j -/
def tEach (i : Nat) (p : List Nat) (j : Nat) : TS := fun D σ H => ∃ v b xs, σ[i]? = some (some v) ∧ Fol H v p (.ref b) ∧ H b = some (.lst xs) ∧ ∃ Pv : Nat → L2.St → Hp → Prop, Pv 0 σ H ∧ (∀ k σ H, k ≤ xs.length → Pv k σ H → H b = some (.lst xs)) ∧
  (∀ (k : Nat) (x : V) (σ : L2.St) (H : Hp), xs[k]? = some x → Pv k σ H → j < σ.length ∧ ∃ a ys, x = .ref a ∧ H a = some (.lst ys) ∧ ys.length < sizeLine ∧ Pv (k + 1) (σ.set j (some x)) (upd H a (.lst (ys ++ [.str "odd"])))) ∧ ∀ σ H, Pv xs.length σ H → D.nx σ H
def tOp : Op → TS
  | .one i p => tOddP i p
  | .each i p j => tEach i p j
def tOps : List Op → TS
  | [] => tNext
  | o :: r => tSeq (tOp o) (tOps r)
section
variable {X : Cx} {a b : Expr} {i j : Nat} {p : List Nat}
theorem ps_each {x : Str} {st : Stmt} {px pos : Pos} (h : PE X a (tAt i p)) (hN : X.N.Nodup) (hj : X.N[j]? = some x) (hx : Loc X.env.scope x) (hb : PS X st (tOddP j [])) (hc : X.calm = true := by rfl) (hf : X.fn x = true ∨ X.env.scope.names.lookup x = some .local := by first | exact .inl rfl | exact .inr rfl)
    (hs : ∀ x, foldedSetIterable a X.env x = pure x := by intro _; rfl) (hp : PassesOwn (model X.prog X.w) X.A X.env X.xe := by exact PassesOwn.never) : PS X (.For (.Name x px) a [st] [] pos) (tEach i p j) :=
  (ps_for hp hc (pi_list h) (pg_name (i := j) hN hj hx hf) (pss_one hb) hs).imp fun D σ H ⟨v, b, xs, e1, f, e2, Pv, h0, hl, hs, hd⟩ => by
    refine ⟨v, .ref b, e1, f, b, rfl, ⟨xs, SqL.of e2⟩, for_list (K := X.K) (a := b) (xs := xs) Pv h0 (fun k σ H hk q => SqL.of (hl k σ H hk q)) (fun k x σ H hx q => ?_) hd⟩
    obtain ⟨hj, a, ys, rfl, e3, hz, q⟩ := hs k x σ H hx q
    exact ⟨.ref a, a, ys, by rw [List.getElem?_set_self hj], .nil, e3, hz, q⟩
theorem pops_nil : PSs X [] (tOps []) := pss_nil
theorem pops_one {st : Stmt} {sts : List Stmt} {r : List Op} (h : PS X st (tOddP i p)) (t : PSs X sts (tOps r)) : PSs X (st :: sts) (tOps (.one i p :: r)) := pss_cons h t
theorem pops_each {st : Stmt} {sts : List Stmt} {r : List Op} (h : PS X st (tEach i p j)) (t : PSs X sts (tOps r)) : PSs X (st :: sts) (tOps (.each i p j :: r)) := pss_cons h t
end
/-- while things are spoilt: lists grow; those that hold objects stand, while fl -/
structure J (F1 Hs H : Hp) (fl : Bool) (k : Nat) : Prop where
  out : ∀ a, F1 a = none → H a = Hs a
  oth : ∀ a o, F1 a = some o → (∀ vs, o ≠ .lst vs) → H a = some o
  lst : ∀ a vs, F1 a = some (.lst vs) → ∃ ex, H a = some (.lst (vs ++ ex)) ∧ ex.length ≤ k ∧ (fl = true → (∃ b, V.ref b ∈ vs) → ex = [])
theorem J.start {F1 Hs : Hp} (h : Same F1 Hs) : J F1 Hs Hs true 0 := ⟨fun _ _ => rfl, fun a o e _ => h a o e, fun a vs e => ⟨[], by rw [List.append_nil]; exact h a _ e, Nat.le_refl _, fun _ _ => rfl⟩⟩
theorem J.mono {F1 Hs H : Hp} {fl : Bool} {k m : Nat} (j : J F1 Hs H fl k) (h : k ≤ m) : J F1 Hs H fl m := ⟨j.out, j.oth, fun a vs e => by
  obtain ⟨ex, e1, e2, e3⟩ := j.lst a vs e
  exact ⟨ex, e1, by omega, e3⟩⟩
theorem J.drop {F1 Hs H : Hp} {fl : Bool} {k : Nat} (j : J F1 Hs H fl k) : J F1 Hs H false k := ⟨j.out, j.oth, fun a vs e => by
  obtain ⟨ex, e1, e2, _⟩ := j.lst a vs e
  exact ⟨ex, e1, e2, fun z => nomatch z⟩⟩
theorem J.grow {F1 Hs H : Hp} {fl : Bool} {k : Nat} {b : Addr} {vs ex : List V} (j : J F1 Hs H fl k) (hb : F1 b = some (.lst vs)) (hH : H b = some (.lst (vs ++ ex))) (he : ex.length ≤ k) (hf : fl = true → ¬ ∃ a, V.ref a ∈ vs) : J F1 Hs (upd H b (.lst ((vs ++ ex) ++ [.str "odd"]))) fl (k + 1) := by
  refine ⟨fun a ha => ?_, fun a o e n => ?_, fun a us e => ?_⟩
  · rw [upd_ne (fun z => by rw [z, hb] at ha; cases ha)]
    exact j.out a ha
  · rw [upd_ne (fun z => by rw [z, hb] at e; cases e; exact n vs rfl)]
    exact j.oth a o e n
  · by_cases h : a = b
    · subst h
      rw [hb] at e
      cases e
      exact ⟨ex ++ [.str "odd"], by rw [upd_same, List.append_assoc], by simp; omega, fun z q => absurd q (hf z)⟩
    · obtain ⟨ex', e1, e2, e3⟩ := j.lst a us e
      exact ⟨ex', by rw [upd_ne h]; exact e1, by omega, e3⟩
section
variable {c : C} {F1 Hs H : Hp} {fl : Bool} {k : Nat}
theorem flat_noref : ∀ {ds : List D} {vs : List V}, ds.all D.imm = true → RepAll c F1 vs ds → ¬ ∃ a, V.ref a ∈ vs
  | [], _, _, r => by cases r; simp
  | d :: ds, _, h, r => by
    cases r with
    | cons r1 r2 =>
      rw [List.all_cons, Bool.and_eq_true] at h
      rintro ⟨a, ha⟩
      rcases List.mem_cons.mp ha with e | ha
      · have := h.1
        subst e
        cases d <;> first | (cases this; done) | cases r1
      · exact flat_noref h.2 r2 ⟨a, ha⟩
theorem j_fol {v : V} {d : D} (j : J F1 Hs H fl k) (r : Rep c F1 v d) : ∀ {p : List Nat} {e : D}, dfol d p = some e → ∃ w, Fol H v p w ∧ Rep c F1 w e
  | [], e, h => by cases h; exact ⟨v, .nil, r⟩
  | q :: p, e, h => by
    obtain ⟨e1, h1, h2⟩ := Option.bind_eq_some_iff.mp h
    obtain ⟨w, f, rw'⟩ := j_fol j r h1
    cases e1 with
    | lst xs =>
      cases rw' with
      | @lst _ a vs _ e2 ra =>
        obtain ⟨u, q1, q2⟩ := ra.get h2
        obtain ⟨ex, e3, _⟩ := j.lst a vs e2
        exact ⟨u, .step f (.inl e3) (by rw [List.getElem?_append_left (List.getElem?_eq_some_iff.mp q1).1]; exact q1), q2⟩
    | tup xs =>
      cases rw' with
      | @tup _ a vs _ e2 ra =>
        obtain ⟨u, q1, q2⟩ := ra.get h2
        exact ⟨u, .step f (.inr (j.oth a _ e2 fun _ z => nomatch z)) q1, q2⟩
    | _ => cases h2
end
def flatL (d : D) : Bool := match d with
  | .lst ys => decide (ys.length ≤ 1000000) && ys.all D.imm
  | _ => false
def stepOp (fl : Bool) (δ : Dlt) : Op → Option Dlt
  | .one i p => match δ[i]? with
    | some (.val d) => match dfol d p with
      | some (.lst e) => if e.length ≤ 1000000 ∧ (!fl || e.all D.imm) = true then some δ else none
      | _ => none
    | _ => none
  | .each i p j => match δ[i]? with
    | some (.val d) => match dfol d p with
      | some (.lst (e :: es)) => if fl = true ∧ j < δ.length ∧ es.length ≤ 1000 ∧ (e :: es).all flatL = true then some (δ.set j .no) else none
      | _ => none
    | _ => none
def goOps (fl : Bool) : Dlt → List Op → Option Dlt
  | δ, [] => some δ
  | δ, o :: r => (stepOp fl δ o).bind fun δ' => goOps fl δ' r
def sOps (o1 o2 : List Op) : S := fun δ => if o1.length + o2.length ≤ 1000 then match (goOps true δ o1).bind fun δ' => goOps false δ' o2 with
  | some δ' => pure (.nx (δ'.map unSl))
  | none => stuck else stuck
section
variable {c : C} {F HE F1 Hs H : Hp} {g : Gs} {fl : Bool} {k : Nat} {De : Ends}
theorem op_run {o : Op} {σ : L2.St} {δ δ' : Dlt} (w : Wd (Cin c F) HE F1 Hs σ δ g) (j : J F1 Hs H fl k) (hk : k ≤ 10000000) (h : stepOp fl δ o = some δ') (rest : ∀ σ' H', Wd (Cin c F) HE F1 Hs σ' δ' g → J F1 Hs H' fl (k + 1001) → De.nx σ' H') : tOp o De σ H := by
  cases o with
  | one i p =>
    unfold stepOp at h
    dsimp only at h
    split at h
    · rename_i d hd
      split at h
      · rename_i e he
        split at h
        · rename_i hc
          cases h
          obtain ⟨v, e1, r⟩ := w.val _ _ hd
          obtain ⟨u, f, r2⟩ := j_fol j r he
          cases r2 with
          | @lst _ b vs _ eb rb =>
            obtain ⟨ex, e3, e4, e5⟩ := j.lst b vs eb
            have lv := rb.length
            refine ⟨v, b, vs ++ ex, e1, f, e3, ?_, rest _ _ w ((j.grow eb e3 e4 fun z => ?_).mono (by omega))⟩
            · rw [List.length_append, sizeLine_eq]; omega
            · subst z
              exact flat_noref (by simpa using hc.2) rb
        · cases h
      · cases h
    · cases h
  | each i p jj =>
    unfold stepOp at h
    dsimp only at h
    split at h
    · rename_i d hd
      split at h
      · rename_i e es he
        split at h
        · rename_i hc
          obtain ⟨rfl, hj, hes, hall⟩ := hc
          cases h
          obtain ⟨v, e1, r⟩ := w.val _ _ hd
          obtain ⟨u, f, r2⟩ := j_fol j r he
          cases r2 with
          | @lst _ b vs _ eb rb =>
            have lv := rb.length
            have hasref : ∃ a, V.ref a ∈ vs := by
              have h0 := hall
              rw [List.all_cons, Bool.and_eq_true] at h0
              cases rb with
              | cons r1 _ =>
                cases e <;> first | (simp [flatL] at h0; done) | (cases r1 with | lst _ _ => exact ⟨_, List.mem_cons_self⟩)
            obtain ⟨ex, e3, e4, e5⟩ := j.lst b vs eb
            rw [e5 rfl hasref, List.append_nil] at e3
            have hj' : jj < σ.length := by rw [← w.len]; exact hj
            refine ⟨v, b, vs, e1, f, e3, fun n σ' H' => Wd (Cin c F) HE F1 Hs σ' (δ.set jj .no) g ∧ J F1 Hs H' true (k + n), ⟨?_, j⟩, fun n σ' H' _ q => ?_, fun n x σ' H' hx q => ?_, fun σ' H' q => rest σ' H' q.1 (q.2.mono (by rw [lv]; simp; omega))⟩
            · have := w.forget (i := jj) (x := σ[jj])
              rwa [List.set_getElem_self] at this
            · obtain ⟨ex', e6, _, e8⟩ := q.2.lst b vs eb
              rw [e8 rfl hasref, List.append_nil] at e6
              exact e6
            · obtain ⟨w', j'⟩ := q
              obtain ⟨dx, hdx, rx⟩ := rb.getV hx
              have hn : n < vs.length := (List.getElem?_eq_some_iff.mp hx).1
              have fx := List.all_eq_true.mp hall dx (List.mem_of_getElem? hdx)
              unfold flatL at fx
              split at fx
              · rename_i ys
                rw [Bool.and_eq_true, decide_eq_true_eq] at fx
                cases rx with
                | @lst _ a us _ ea ra =>
                  obtain ⟨ex', e6, e7, _⟩ := j'.lst a us ea
                  have lu := ra.length
                  refine ⟨by rw [← w'.len, List.length_set]; exact hj, a, us ++ ex', rfl, e6, ?_, ?_, (j'.grow ea e6 e7 fun _ => flat_noref fx.2 ra).mono (by omega)⟩
                  · rw [List.length_append, sizeLine_eq]
                    simp at lv
                    omega
                  · have := w'.forget (i := jj) (x := some (V.ref a))
                    rwa [List.set_set] at this
              · cases fx
        · cases h
      · cases h
    · cases h
theorem ops_run : ∀ {os : List Op} {σ : L2.St} {δ δ' : Dlt} {H : Hp} {k : Nat} {r : List Op}, Wd (Cin c F) HE F1 Hs σ δ g → J F1 Hs H fl k → k + 1001 * os.length ≤ 10000000 → goOps fl δ os = some δ' →
    (∀ σ' H', Wd (Cin c F) HE F1 Hs σ' δ' g → J F1 Hs H' fl (k + 1001 * os.length) → tOps r De σ' H') → tOps (os ++ r) De σ H
  | [], σ, δ, δ', H, k, r, w, j, _, h, rest => by
    cases h
    exact rest σ H w j
  | o :: os, σ, δ, δ', H, k, r, w, j, hk, h, rest => by
    obtain ⟨δ1, h1, h2⟩ := Option.bind_eq_some_iff.mp h
    rw [List.length_cons] at hk
    refine op_run (De := { De with nx := tOps (os ++ r) De }) w j (by omega) h1 fun σ' H' w' j' => ?_
    exact ops_run (k := k + 1001) w' j' (by omega) h2 fun σ'' H'' w'' j'' => rest σ'' H'' w'' (j''.mono (by rw [List.length_cons]; omega))
end
section
variable {X : Cx} {c : C} {sts : List Stmt} {o1 o2 : List Op}
theorem dSS_ops (h : PSs X sts (tOps (o1 ++ (o2 ++ [])))) : PSs X sts (tSS c (sOps o1 o2)) := h.imp fun D σ H ⟨F0, H0, F, HE, gE, F1, δ, g, r, g', so, hb, w, si, o, q⟩ => by
  unfold sOps at o
  split at o
  · rename_i hc
    split at o
    · rename_i δ2 hg
      obtain ⟨rfl, rfl⟩ := ok_pure.mp o
      obtain ⟨δ1, h1, h2⟩ := Option.bind_eq_some_iff.mp hg
      refine ops_run (De := D) w (J.start w.le) (by omega) h1 fun σ1 H1 w1 j1 => ?_
      refine ops_run (De := D) (r := []) w1 j1.drop (by omega) h2 fun σ2 H2 w2 j2 => ?_
      obtain ⟨w', s'⟩ := scope_out so hb w2 si j2.out
      exact q σ2 H2 w' s'
    · exact absurd o not_ok_stuck
  · exact absurd o not_ok_stuck
end
end DL

/-! ## DKey -/
set_option Elab.async false
set_option autoImplicit false
set_option linter.all false
set_option maxRecDepth 100000
set_option maxHeartbeats 4000000
/-! DKey: sorted(xs, key=f), f a def of the text, by plain data. -/
namespace DL
open PySem PySem.W PySem.Spec PyProof.Rows L2
def keysGo (Fs : List D → M D) : List D → M (List D)
  | [] => pure []
  | d :: r => Fs [d] >>= fun k => keysGo Fs r >>= fun ks => pure (k :: ks)
/-- ds by their keys -/
def sortBy (ds ks : List D) : List D := ((ds.zip ks).mergeSort fun a b => leD a.2 b.2).map (·.1)
theorem keysGo_len {Fs : List D → M D} : ∀ {ds ks : List D} {g g' : Gs}, Ok (keysGo Fs ds) g ks g' → ks.length = ds.length
  | [], ks, g, g', h => by
    obtain ⟨rfl, rfl⟩ := ok_pure.mp h
    rfl
  | d :: ds, ks, g, g', h => by
    obtain ⟨k, g1, o1, h⟩ := ok_bind.mp h
    obtain ⟨ks', g2, o2, h⟩ := ok_bind.mp h
    obtain ⟨rfl, rfl⟩ := ok_pure.mp h
    rw [List.length_cons, List.length_cons, keysGo_len o2]
theorem keysGo_snoc {Fs : List D → M D} : ∀ {ds ks : List D} {i : Nat} {d : D} {g g' : Gs}, Ok (keysGo Fs (ds.drop i)) g ks g' → ds[i]? = some d → ∃ k g1 r, Ok (Fs [d]) g k g1 ∧ ks = k :: r ∧ Ok (keysGo Fs (ds.drop (i + 1))) g1 r g' := fun {ds ks i d g g'} h e => by
  have hl := (List.getElem?_eq_some_iff.mp e).1
  rw [List.drop_eq_getElem_cons hl] at h
  rw [List.getElem?_eq_getElem hl] at e
  cases e
  obtain ⟨k, g1, o1, h⟩ := ok_bind.mp h
  obtain ⟨r, g2, o2, h⟩ := ok_bind.mp h
  obtain ⟨rfl, rfl⟩ := ok_pure.mp h
  exact ⟨k, g1, r, o1, rfl, o2⟩
/-- the objects of a heap but some -/
def objsBut (h : Heap) (p : Addr → Bool) : List (Addr × Obj) := (List.range h.objs.size).filterMap fun b => if p b then (h.get? b).map fun o => (b, o) else none
theorem mem_objs {h : Heap} {p : Addr → Bool} {b : Addr} {o : Obj} : (b, o) ∈ objsBut h p ↔ p b = true ∧ h.get? b = some o := by
  unfold objsBut
  rw [List.mem_filterMap]
  constructor
  · rintro ⟨x, _, e⟩
    split at e
    · rename_i hp
      obtain ⟨o', h1, h2⟩ := Option.map_eq_some_iff.mp e
      cases h2
      exact ⟨hp, h1⟩
    · cases e
  · rintro ⟨hp, e⟩
    exact ⟨b, List.mem_range.mpr (Heap.lt_size e), by rw [if_pos hp, e]; rfl⟩
section
variable {X : Cx} {k : Nat} {fa : Addr} {fd : FuncData} {x : Str} {Fs : List D → M D} {ga : Option Addr} {bo : Hp} {pins : List (Addr × Obj)} {σ : L2.St}
/-- a call of a def with one value, from a built-in -/
theorem key_call {H F : Hp} {s : Shared} {v : V} {u : Value} {d kd : D} {g g1 : Gs} (FQ : FnG X.prog X.w X.K X.mg X.base k fa fd [x] Fs) (hr : Room (k + 2) X.A) (hg : X.A.guards = some []) (hb : ∀ (s : Shared) (u : Value), X.K.In s.heap → BindsTo s fd ⟨[u], []⟩ [(x, u)])
    (I : Inv X pins σ H s) (le : Same F H) (gn : GenOk ⟨X.K, X.mg, ga, bo, X.prog, X.w⟩ F H g) (r : Rep ⟨X.K, X.mg, ga, bo, X.prog, X.w⟩ F v d) (rv : RelV v u) (o : Ok (Fs [d]) g kd g1) :
    wpAny (model X.prog X.w) X.A.in1.in1 (call (.ref fa) [u]) (EP X pins σ fun w H' => ∃ F', Stp ⟨X.K, X.mg, ga, bo, X.prog, X.w⟩ F H F' H' g1 ∧ Rep ⟨X.K, X.mg, ga, bo, X.prog, X.w⟩ F' w kd) (fun _ _ => False) s := by
  refine wpAny_call (codeAny_mono (FQ.q.run X.A.in1.in1 X.stack s H ⟨[u], []⟩ [u] [v] (fun w H' => ∃ F', Stp ⟨X.K, X.mg, ga, bo, X.prog, X.w⟩ F H F' H' g1 ∧ Rep ⟨X.K, X.mg, ga, bo, X.prog, X.w⟩ F' w kd) ((hr.in1).in1) hg I.env0.in1.in1 (hb s u I.kIn) (.cons rv .nil) rfl ⟨ga, bo, F, [d], g, kd, g1, le, gn, .cons r .nil, o, fun w F' H' st rw' => ⟨F', st, rw'⟩⟩) fun r s' hq => ?_)
  cases r with
  | error e => exact False.elim hq
  | ok fl =>
    cases fl with
    | ret u => exact I.after hq
    | next => exact hq
    | brk => exact hq
    | cont => exact hq
abbrev lsObj (xs : Array Value) (n : Nat) : Obj := seqObj "list" xs n
theorem ls_upd {h : Heap} {a : Addr} {xs : Array Value} {n : Nat} (f : Array Value → Array Value) (e : h.get? a = some (lsObj xs n)) : ∃ m, (h.update a (Obj.mapSeq f)).get? a = some (lsObj (f xs) m) := ⟨_, get?_update_seq e f⟩
/-- a record of ours, changed -/
theorem inv_rec {H : Hp} {s : Shared} {b : Addr} {h' : Heap} {t : Nat} (I : Inv X pins σ H s) (hb : FpOk X pins H b) (hk : ∀ c o, c ≠ b → s.heap.get? c = some o → h'.get? c = some o) : Inv X pins σ H { s with heap := h', toks := t } :=
  I.turned hk hb.1 hb.2.1 hb.2.2.2.1 hb.2.2.2.2.1 hb.2.2.2.2.2
theorem fp_pin {H H' : Hp} {s : Shared} {b : Addr} {o : Obj} {pl : List (Addr × Obj)} (hb : FpOk X pins H b) (I : Inv X (pins ++ pl) σ H' s) (hp : (b, o) ∈ pl) : FpOk X pins H' b ∧ s.heap.get? b = some o := by
  have q := I.pin (b, o) (List.mem_append_right _ (List.mem_append_right _ hp))
  exact ⟨⟨q.2.1, hb.2⟩, q.1⟩
theorem vals_getR : ∀ {vs : List V} {us : List Value} {j : Nat} {u : Value}, Vals vs us → us[j]? = some u → ∃ v, vs[j]? = some v ∧ RelV v u
  | _, _, _, _, .nil, e => by simp at e
  | _, _, 0, _, .cons r _, e => by simp at e; subst e; exact ⟨_, rfl, r⟩
  | _, _, j + 1, u, .cons _ t, e => by
    obtain ⟨v, h1, h2⟩ := vals_getR (j := j) (u := u) t (by simpa using e)
    exact ⟨v, by simpa using h1, h2⟩
theorem each_rel : ∀ {vs : List V} {us : List Value} {zs : List (D × D)}, vs.length = zs.length → Vals vs us → PySem.W.EachIs (fun (v : Value) (b : V × D × D) => RelV b.1 v) us (vs.zip zs)
  | [], [], _, _, .nil => .nil
  | v :: vs, u :: us, z :: zs, h, .cons r t => .cons r (each_rel (by simpa using h) t)
theorem each_vals3 : ∀ {its : List Value} {bs : List (V × D × D)}, PySem.W.EachIs (fun (v : Value) (b : V × D × D) => RelV b.1 v) its bs → Vals (bs.map (·.1)) its
  | _, _, .nil => .nil
  | _, _, .cons r t => .cons r (each_vals3 t)
theorem each_reads {H F : Hp} {s : Shared} {c : C} (I : Inv X pins σ H s) (le : Same F H) : ∀ {ks : List D} {ws : List V} {us : List Value}, RepAll c F ws ks → Vals ws us → (∀ d ∈ ks, d.cl 60 = true) → PySem.W.EachIs (fun (v : Value) (d : PyData) => ∃ as, Reads s.heap v d as) us (ks.map D.py)
  | [], _, _, r, v, _ => by
    cases r
    cases v
    exact .nil
  | d :: ks, _, _, r, v, h => by
    cases r with
    | cons r1 r2 =>
      cases v with
      | cons v1 v2 => exact .cons (reads_of I le (h d List.mem_cons_self) (.inl r1) v1) (each_reads I le r2 v2 fun e he => h e (List.mem_cons_of_mem _ he))
theorem sortable_py {ds : List D} (hs : sortableB ds = true) : PySem.W.AllAlike (ds.map D.py) ∧ PySem.W.Sortable (ds.map D.py) ∧ ∀ d ∈ ds, d.cl 60 = true := by
  unfold sortableB at hs
  rw [Bool.and_eq_true, Bool.and_eq_true] at hs
  obtain ⟨⟨h1, h2⟩, h3⟩ := hs
  have cl : ∀ e ∈ ds, e.cl 60 = true := fun e he => List.all_eq_true.mp h1 e he
  refine ⟨fun e he f hf => ?_, ?_, cl⟩
  · obtain ⟨p, hp, rfl⟩ := List.mem_map.mp he
    obtain ⟨p', hp', rfl⟩ := List.mem_map.mp hf
    exact List.all_eq_true.mp (List.all_eq_true.mp h2 _ hp) _ hp'
  · rw [Bool.or_eq_true] at h3
    rcases h3 with h3 | h3
    · refine .inl fun e he => ?_
      obtain ⟨p, hp, rfl⟩ := List.mem_map.mp he
      have t := List.all_eq_true.mp h3 _ hp
      cases p with
      | tup l => cases l with
        | nil => cases t
        | cons y l => exact ⟨y.py, pys l, by simp [D.py, pys]⟩
      | _ => cases t
    · refine .inr fun e he => ?_
      obtain ⟨p, hp, rfl⟩ := List.mem_map.mp he
      have t := List.all_eq_true.mp h3 _ hp
      have k := cl _ hp
      cases p with
      | tup l => cases t
      | non => cases t
      | bl _ => simp [D.py]
      | int _ => simp [D.py]
      | str _ => simp [D.py]
      | lst _ => simp [D.py]
      | _ => simp [D.cl] at k
theorem sortBy_eq {vs : List V} {ds ks : List D} (h1 : vs.length = ds.length) (h2 : ks.length = ds.length) : ((vs.zip (ds.zip ks)).mergeSort (PySem.W.dataLe false fun b : V × D × D => b.2.2.py)).map (fun b => b.2.1) = sortBy ds ks := by
  unfold sortBy
  have e : ((vs.zip (ds.zip ks)).mergeSort (PySem.W.dataLe false fun b : V × D × D => b.2.2.py)).map (fun b => b.2) = (ds.zip ks).mergeSort fun a b => leD a.2 b.2 := by
    rw [List.map_mergeSort (s := fun a b : D × D => leD a.2 b.2) (f := fun b : V × D × D => b.2)]
    · congr 1
      exact List.map_snd_zip (by rw [List.length_zip]; omega)
    · intro p _ p' _
      rfl
  rw [← e, List.map_map]
  rfl
theorem memZip3 {F : Hp} {c : C} {ks : List D} : ∀ {vs : List V} {ds : List D} {zs : List (D × D)}, RepAll c F vs ds → zs.map (·.1) = ds → ∀ b ∈ vs.zip zs, Rep c F b.1 b.2.1
  | _, _, [], _, _, b, hb => by simp at hb
  | _, _, z :: zs, .nil, h, b, hb => by cases h
  | _, _, z :: zs, .cons r t, h, b, hb => by
    rw [List.map_cons] at h
    obtain ⟨h1, h2⟩ := List.cons.inj h
    rcases List.mem_cons.mp hb with rfl | hb
    · rw [h1]; exact r
    · exact memZip3 (ks := ks) t h2 b hb

def KJ (X : Cx) (c : C) (pins : List (Addr × Obj)) (σ : L2.St) (H F : Hp) (Fs : List D → M D) (ds ks : List D) (g' : Gs) (a kS : Addr) (e1 : Nat) (i : Nat) (s : Shared) : Prop :=
  ∃ (H' F' : Hp) (gi : Gs) (kA : Array Value) (e : Nat) (ws : List V), Inv X pins σ H' s ∧ Stp c F H F' H' gi ∧ FpOk X pins H' a ∧ FpOk X pins H' kS ∧ s.heap.get? kS = some (lsObj kA e) ∧ s.heap.get? a = some (lsObj #[] e1) ∧ Vals ws kA.toList ∧ RepAll c F' ws (ks.take i) ∧ Ok (keysGo Fs (ds.drop i)) gi (ks.drop i) g'
theorem key_sort {H F : Hp} {s : Shared} {vs : List V} {us : List Value} {ds ks : List D} {g g' : Gs} {a : Addr} {n : Nat} {P : PySem.Fin → Shared → Prop} {E : Value → Shared → Prop} (FQ : FnG X.prog X.w X.K X.mg X.base k fa fd [x] Fs) (hr : Room (k + 2) X.A) (hg : X.A.guards = some [])
    (hb : ∀ (s : Shared) (u : Value), X.K.In s.heap → BindsTo s fd ⟨[u], []⟩ [(x, u)]) (I : Inv X pins σ H s) (le : Same F H) (gn : GenOk ⟨X.K, X.mg, ga, bo, X.prog, X.w⟩ F H g) (ra : RepAll ⟨X.K, X.mg, ga, bo, X.prog, X.w⟩ F vs ds) (rv : Vals vs us) (hfa : FpOk X pins H a)
    (ho : s.heap.get? a = some (lsObj us.toArray n)) (hz : us.length ≤ sizeLine) (ok : Ok (keysGo Fs ds) g ks g') (hs : sortableB ks = true)
    (fin : ∀ s' F' H', Inv X pins σ H' s' → Stp ⟨X.K, X.mg, ga, bo, X.prog, X.w⟩ F H F' H' g' → Rep ⟨X.K, X.mg, ga, bo, X.prog, X.w⟩ F' (.ref a) (.lst (sortBy ds ks)) → P (.done (.ret .none)) s') :
    wpAny (model X.prog X.w) X.A.in1.in1 (ksk_tree a (.ref fa) false) P E s := by
  have lus : us.length = ds.length := by rw [← rv.length, ra.length]
  have lks := keysGo_len ok
  unfold ksk_tree
  refine wpAny_bind (listItems_at (xs := us.toArray) ho rfl ?_)
  refine wpAny_bind (listUpdate_at (xs := us.toArray) ho rfl ?_ (by rw [List.size_toArray]; exact hz) (Nat.zero_le _))
  obtain ⟨e1, ho1⟩ := ls_upd (fun _ => #[]) ho
  have I1 : Inv X pins σ H { s with heap := s.heap.update a (Obj.mapSeq fun _ => #[]) } := inv_rec (t := s.toks) I hfa fun c o ne e => (Heap.get?_update_other _ _ (Ne.symm ne)).trans e
  refine wpAny_bind (seqEpoch_at (xs := #[]) ho1 rfl ?_)
  refine wpAny_bind (wpAny_newTuple ?_ (by show us.length ≤ _; exact hz))
  generalize hh1 : (s.heap.update a (Obj.mapSeq fun _ => #[])).push { cls := .type "tuple", data := .seq us.toArray.toList.toArray } = h1
  have I2 : Inv X pins σ H { s with heap := h1 } := by
    rw [← hh1]
    exact I1.kept (t' := s.toks) fun b u e => Heap.get?_push_of_some _ e
  have ho2 : h1.get? a = some (lsObj #[] e1) := by
    rw [← hh1]
    exact Heap.get?_push_of_some _ ho1
  refine wpAny_bind (wpAny_newList ?_ (Nat.zero_le _))
  refine wpAny_holding ?_
  have fpk : FpOk X pins H h1.objs.size := I2.fpOk (Nat.le_refl _) (I2.hok.fresh (Nat.le_refl _))
  have hka : h1.objs.size ≠ a := Nat.ne_of_gt (Heap.lt_size ho2)
  generalize hk : h1.objs.size = kS at fpk hka
  have ho3 : (h1.push { cls := .type "list", data := .seq ([] : List Value).toArray }).get? kS = some (lsObj #[] 0) := by
    rw [← hk]
    exact Heap.get?_push_size _ rfl
  have I3 : Inv X pins σ H { s with heap := h1.push { cls := .type "list", data := .seq ([] : List Value).toArray } } := I2.kept (t' := s.toks) fun b u e => Heap.get?_push_of_some _ e
  have J0 : KJ X ⟨X.K, X.mg, ga, bo, X.prog, X.w⟩ pins σ H F Fs ds ks g' a kS e1 0 { s with heap := h1.push { cls := .type "list", data := .seq ([] : List Value).toArray } } :=
    ⟨H, F, g, #[], 0, [], I3, .refl le gn, hfa, fpk, ho3, Heap.get?_push_of_some _ ho2, .nil, by rw [List.take_zero]; exact .nil, by rw [List.drop_zero, List.drop_zero]; exact ok⟩
  unfold ksk_rest
  refine wpAny_bind (wpAny_rule ?_)
  rw [List.forIn_toArray]
  refine wpAny_bind (ksk_fold (KJ X ⟨X.K, X.mg, ga, bo, X.prog, X.w⟩ pins σ H F Fs ds ks g' a kS e1) us 0 _ J0 ?step ?done)
  case step =>
    rintro j u s1 hu ⟨H1, F1, gi, kA, e, ws, I4, st, fa1, fk1, hk1, ha1, vw, rw1, okj⟩
    rw [Nat.zero_add] at rw1 okj ⊢
    have hj : j < us.length := (List.getElem?_eq_some_iff.mp hu).1
    obtain ⟨v, hv, rvu⟩ := vals_getR rv hu
    obtain ⟨d, hd, rd⟩ := ra.getV hv
    obtain ⟨kd, g1, r, o1, er, o2⟩ := keysGo_snoc okj hd
    have hkj : ks[j]? = some kd := by
      have := congrArg List.head? er
      rw [List.head?_drop] at this
      exact this
    have hdr : r = ks.drop (j + 1) := by
      have := congrArg List.tail er
      rw [List.tail_drop] at this
      exact this.symm
    subst hdr
    have Ip : Inv X (pins ++ [(kS, lsObj kA e), (a, lsObj #[] e1)]) σ H1 s1 := I4.pins_of fun p hp => by
      rcases List.mem_append.mp hp with hp | hp
      · exact I4.pin p (List.mem_append_right _ hp)
      · simp only [List.mem_cons, List.mem_nil_iff, or_false] at hp
        rcases hp with rfl | rfl
        · exact ⟨hk1, fk1.1, fk1.2.1, fk1.2.2.1, fun v z => by cases z⟩
        · exact ⟨ha1, fa1.1, fa1.2.1, fa1.2.2.1, fun v z => by cases z⟩
    refine wpAny_bind (wpAny_attempt (wpAny_mono (key_call FQ hr hg hb Ip st.le st.gen (rd.up st.sub) rvu o1) (fun w s2 hq => ?_) fun _ _ z => z.elim))
    obtain ⟨wv, H2, I5, rwv, F2, st2, rk⟩ := hq
    obtain ⟨fk2, hk2⟩ := fp_pin (b := kS) (o := lsObj kA e) fk1 I5 (by simp)
    obtain ⟨fa2, ha2⟩ := fp_pin (b := a) (o := lsObj #[] e1) fa1 I5 (by simp)
    have sz : kA.size = j := by
      have h1 : ws.length = kA.size := by rw [vw.length, Array.length_toList]
      have h2 := rw1.length
      rw [List.length_take] at h2
      omega
    obtain ⟨e2, hk3⟩ := ls_upd (·.push w) hk2
    refine wpAny_bind (listUpdate_at (xs := kA) hk2 rfl ?_ (by omega) (by rw [Array.size_push]; omega))
    refine wpAny_pure ⟨rfl, H2, F2, g1, kA.push w, e2, ws ++ [wv], inv_rec (t := s2.toks) I5.unpinned fk2 fun c o ne ec => (Heap.get?_update_other _ _ (Ne.symm ne)).trans ec, st.trans st2, fa2, fk2, hk3, (Heap.get?_update_other _ _ hka).trans ha2, ?_, ?_, o2⟩
    · rw [Array.toList_push]
      exact vw.append (.cons rwv .nil)
    · rw [List.take_add_one, hkj]
      exact (rw1.up st2.sub).append (.cons rk .nil)
  case done =>
    rintro s1 ⟨H1, F1, gi, kA, e, ws, I4, st, fa1, fk1, hk1, ha1, vw, rw1, okj⟩
    rw [Nat.zero_add] at rw1 okj
    rw [List.drop_eq_nil_of_le (by omega), List.drop_eq_nil_of_le (by omega)] at okj
    rw [List.take_of_length_le (by omega)] at rw1
    obtain ⟨_, rfl⟩ := ok_pure.mp okj
    obtain ⟨hal, hsk, hcl⟩ := sortable_py hs
    have rd := each_reads I4 st.le rw1 vw hcl
    obtain ⟨m, FR⟩ := I4.fr
    have szk : kA.size = us.length := by
      have h1 : ws.length = kA.size := by rw [vw.length, Array.length_toList]
      have h2 := rw1.length
      omega
    have baseNo : ∀ b : Addr, FpOk X pins H1 b → (∃ o, s1.heap.get? b = some o) → X.base.get? b = none := fun b fb _ => by
      cases q : X.base.get? b with
      | none => rfl
      | some o =>
        have l1 := Heap.lt_size q
        rcases fb.2.2.2.1 with z | z
        · exact absurd z (I4.ok.noex b o q)
        · exact absurd (Nat.lt_of_lt_of_le l1 (Nat.le_trans I4.ok.bsz z)) (Nat.lt_irrefl _)
    have N : News X.base X.env.locals s1.heap (objsBut s1.heap (fun b => decide (b ≠ X.env.locals) && decide (b ≠ kS) && decide (b ≠ a) && (X.base.get? b).isNone) ++ [(kS, lsObj kA e), (a, lsObj #[] e1)]) := fun p hp => by
      rcases List.mem_append.mp hp with hp | hp
      · obtain ⟨b, o⟩ := p
        obtain ⟨q1, q2⟩ := mem_objs.mp hp
        simp only [Bool.and_eq_true, decide_eq_true_eq, Option.isNone_iff_eq_none] at q1
        exact ⟨q2, q1.1.1.1, q1.2⟩
      · simp only [List.mem_cons, List.mem_nil_iff, or_false] at hp
        rcases hp with rfl | rfl
        · exact ⟨hk1, fk1.2.1, baseNo _ fk1 ⟨_, hk1⟩⟩
        · exact ⟨ha1, fa1.2.1, baseNo _ fa1 ⟨_, ha1⟩⟩
    have nbut : ∀ (b : Addr), ∀ p ∈ objsBut s1.heap (fun b => decide (b ≠ X.env.locals) && decide (b ≠ kS) && decide (b ≠ a) && (X.base.get? b).isNone), p.1 ≠ kS ∧ p.1 ≠ a := fun _ p hp => by
      obtain ⟨b, o⟩ := p
      obtain ⟨q1, q2⟩ := mem_objs.mp hp
      simp only [Bool.and_eq_true, decide_eq_true_eq] at q1
      exact ⟨q1.1.1.2, q1.1.2⟩
    refine wpAny_bind (listItems_at (xs := kA) hk1 rfl ?_)
    refine PySem.W.key_end (κ := PySem.W.dataKind s1.heap (ks.map D.py)) FR N hka (fun p hp => (nbut 0 p hp).1) (fun p hp => (nbut 0 p hp).2) (PySem.W.SortsAt.data rd hal hsk fun d hd => ?_) szk hz fun h' tk cc F3 N3 => ?_
    · obtain ⟨e0, he0, rfl⟩ := List.mem_map.mp hd
      have q := (cl_lay 60 e0 (hcl e0 he0)).2.1
      have u := hr.un
      show X.A.units + 2 + e0.py.depth < cLine
      omega
    · have lz : ks.length = ds.length := lks
      have out := PySem.W.keyedOut_each (rev := false) (R := fun (v : Value) (b : V × D × D) => RelV b.1 v) (bs := vs.zip (ds.zip ks)) (vs := us) (out := PySem.W.sortVals (PySem.W.dataKind s1.heap (ks.map D.py)) false kA.toList us) (fun b => b.2.2.py)
        ⟨s1.heap, kA.toList, by
          have e3 : (vs.zip (ds.zip ks)).map (fun b => b.2.2.py) = ks.map D.py := by
            have e4 : (vs.zip (ds.zip ks)).map (fun b => b.2.2) = ks := by
              have : (vs.zip (ds.zip ks)).map (fun b => b.2.2) = ((vs.zip (ds.zip ks)).map (·.2)).map (·.2) := by rw [List.map_map]; rfl
              rw [this, List.map_snd_zip (by rw [List.length_zip, ra.length]; omega), List.map_snd_zip (by omega)]
            have e5 := congrArg (List.map D.py) e4
            rw [List.map_map] at e5
            exact e5
          rw [e3]
          exact ⟨hal, rfl, rd⟩⟩ (each_rel (by rw [List.length_zip, ra.length]; omega) rv)
      generalize hB : (vs.zip (ds.zip ks)).mergeSort (PySem.W.dataLe false fun b : V × D × D => b.2.2.py) = B at out
      generalize PySem.W.sortVals (PySem.W.dataKind s1.heap (ks.map D.py)) false kA.toList us = ov at out N3
      have vB := each_vals3 out
      have hb2 : ∀ b ∈ B, Rep ⟨X.K, X.mg, ga, bo, X.prog, X.w⟩ F1 b.1 b.2.1 := fun b hbm => by
        rw [← hB] at hbm
        exact (memZip3 (ks := ks) ra (List.map_fst_zip (by omega)) b (List.mem_mergeSort.mp hbm)).up st.sub
      have rB : RepAll ⟨X.K, X.mg, ga, bo, X.prog, X.w⟩ F1 (B.map (·.1)) (sortBy ds ks) := by
        rw [← sortBy_eq (vs := vs) ra.length lks, hB]
        have := repAll_of (c := ⟨X.K, X.mg, ga, bo, X.prog, X.w⟩) (F := F1) (ps := B.map fun b => (b.1, b.2.1)) fun p hp => by
          obtain ⟨b, hbm, rfl⟩ := List.mem_map.mp hp
          exact hb2 b hbm
        rw [List.map_map, List.map_map] at this
        exact this
      have lB : (B.map (·.1)).length ≤ sizeLine := by
        rw [List.length_map, ← hB, List.length_mergeSort, List.length_zip, List.length_zip, ra.length]
        omega
      have na := N3 (a, lsObj ov.toArray cc) List.mem_cons_self
      have stay : ∀ b o, b ≠ X.env.locals → b ≠ kS → b ≠ a → s1.heap.get? b = some o → h'.get? b = some o := fun b o n1 n2 n3 e => by
        cases q : X.base.get? b with
        | some o' =>
          have e5 := (I4.bs b o' q).1
          rw [e] at e5
          cases e5
          exact F3.keep b o q
        | none => exact (N3 (b, o) (List.mem_cons_of_mem _ (mem_objs.mpr ⟨by simp [n1, n2, n3, q], e⟩))).1
      have I6 : Inv X pins σ (upd H1 a (.lst (B.map (·.1)))) { s1 with heap := h', toks := tk } := by
        refine I4.step (g' := s1.gens) (d' := s1.drawn) (ch := [a, kS]) (fun b hb => ?_) (fun b o n1 _ hc e _ => ?_) (fun b o n1 _ hc e _ => ⟨o.slots, ?_⟩) (fun b o hc e hn => ?_) (fun b o hc e => ?_) (fun b xs e => ?_) (fun b o u e => ?_) (fun b ps e => ⟨#[], ?_⟩) (fun m' hm => ?_) ?_ I4.bare
        · simp only [List.mem_cons, List.mem_nil_iff, or_false] at hb
          rcases hb with rfl | rfl
          · exact ⟨fa1.2.2.2.1, fa1.2.1, fa1.2.2.2.2.1, fa1.2.2.2.2.2⟩
          · exact ⟨fk1.2.2.2.1, fk1.2.1, fk1.2.2.2.2.1, fk1.2.2.2.2.2⟩
        · simp only [List.mem_cons, List.mem_nil_iff, or_false, not_or] at hc
          exact stay b o n1 hc.2 hc.1 e
        · simp only [List.mem_cons, List.mem_nil_iff, or_false, not_or] at hc
          exact stay b o n1 hc.2 hc.1 e
        · simp only [List.mem_cons, List.mem_nil_iff, or_false, not_or] at hc
          rw [upd_ne hc.1]
          exact hn
        · simp only [List.mem_cons, List.mem_nil_iff, or_false, not_or] at hc
          by_cases hl : b = X.env.locals
          · subst hl
            obtain ⟨o2, _, _, q, _⟩ := F3.ns
            exact ⟨o2, q⟩
          · exact ⟨o, stay b o hl hc.2 hc.1 e⟩
        · rw [upd_ne (fun z => by rw [z, fa1.1] at e; cases e)]
          exact e
        · rw [upd_ne (fun z => by rw [z, fa1.1] at e; cases e)]
          exact e
        · rw [upd_ne (fun z => by rw [z, fa1.1] at e; cases e), e]
          simp
        · rw [hm.eq_nsMap, ← FR.ns.eq_nsMap]
          exact F3.ns
        · have hk5 : HOk X.prog X.w H1 s1.heap := I4.hok
          intro b o e
          by_cases hba : b = a
          · subst hba
            rw [upd_same] at e
            cases e
            exact ⟨lB, ov, cc, vB, na.1⟩
          · rw [upd_ne hba] at e
            have tr : ∀ b' u, H1 b' ≠ none → s1.heap.get? b' = some u → h'.get? b' = some u := fun b' u hn hg => stay b' u (fun z => hn (by rw [z]; exact I4.free)) (fun z => hn (by rw [z]; exact fk1.1)) (fun z => hn (by rw [z]; exact fa1.1)) hg
            exact (hk5 b o e).stay (fun b' u hc hg => tr b' u (by rcases hc with rfl | q; rw [e]; simp; rw [q]; simp) hg) (fun b' q => by rw [upd_ne (fun z => by rw [z, fa1.1] at q; cases q)]; exact q) fun b' xs q => by rw [upd_ne (fun z => by rw [z, fa1.1] at q; cases q)]; exact q
      exact fin _ _ _ I6 (st.trans (Stp.lay st.le st.gen fa1.1)) (.lst upd_same (rB.up (Stp.lay (c := ⟨X.K, X.mg, ga, bo, X.prog, X.w⟩) (o := .lst (B.map (·.1))) st.le st.gen fa1.1).sub))
end
end DL

/-! ## DKey2 -/
set_option Elab.async false
set_option autoImplicit false
set_option linter.all false
set_option maxRecDepth 100000
set_option maxHeartbeats 4000000
/-! DKey2: sorted(..) of a list, of a dict of tuples, with a key or without. -/
namespace DL
open PySem PySem.W PySem.Spec PyProof.Rows L2
def keyD : Int ⊕ Str → D
  | .inl i => .int i
  | .inr x => .str x
def tupD (k : List (Int ⊕ Str)) : D := .tup (k.map keyD)
theorem rep_key {c : C} {F : Hp} (k : Int ⊕ Str) : Rep c F (kV k) (keyD k) := by
  cases k with
  | inl i => exact .int i
  | inr x => exact .str x
theorem rep_keys {c : C} {F : Hp} : ∀ k : List (Int ⊕ Str), RepAll c F (k.map kV) (k.map keyD)
  | [] => .nil
  | x :: k => .cons (rep_key x) (rep_keys k)
theorem rep_tups {c : C} {F : Hp} : ∀ {xs : List (List L2.Key × Addr)}, (∀ x ∈ xs, F x.2 = some (.tup (x.1.map kV))) → RepAll c F (xs.map fun x => V.ref x.2) ((xs.map (·.1)).map tupD)
  | [], _ => .nil
  | x :: xs, h => .cons (.tup (h x List.mem_cons_self) (rep_keys x.1)) (rep_tups fun y hy => h y (List.mem_cons_of_mem _ hy))
section
variable {P : Program} {w : World} {A : Around} {E : Value → Shared → Prop} {s : Shared}
theorem collect_src {T : String} {r d : Addr} {n : Nat} {Pv : Nat → Value → Prop} {OK : Heap → Prop} {R : List Value → Shared → Prop} (K : KdlSrc P w T r d n Pv OK) (hh : A.handled = none) (hok : OK s.heap) (hn : n ≤ sizeLine)
    (h : ∀ (h' : Heap) (tk : Nat) (vs : List Value), (∀ b o, s.heap.get? b = some o → h'.get? b = some o) → s.heap.objs.size ≤ h'.objs.size → vs.length = n → (∀ j v, vs[j]? = some v → Pv j v) → R vs { s with heap := h', toks := tk }) : wpAny (model P w) A (collect (.ref r)) R E s := by
  obtain ⟨hr, hd⟩ := K.there _ hok
  unfold collect
  refine wpAny_bind (wpAny_runValue (codeAny_builtin entry_proto_collect' ?_))
  rw [Around.under_plainId PySem.F.plain_proto_collect _]
  show wpAny _ A.in1 (newList [] >>= fun l => again (.builtin "list.__iadd__" ⟨[l, .ref r], []⟩)) _ _ s
  refine wpAny_bind (wpAny_newObj_type (wpAny_pure ⟨plainId_quiet PySem.F.plain_list_iadd _, codeAny_builtin entry_list_iadd' ?_⟩))
  rw [Around.under_plainId PySem.F.plain_list_iadd _]
  have atS : (s.heap.push { cls := .type "list", data := .seq ([] : List Value).toArray }).get? s.heap.objs.size = some { cls := .type "list", data := .seq #[] } := Heap.get?_push_size _ rfl
  show wpAny _ A.in1 (Builtin.List.listExtendWith (.ref s.heap.objs.size) (.ref r) (.ref s.heap.objs.size)) _ _ _
  have ext := kdl_extend (A := A) (s := { s with heap := s.heap.push { cls := .type "list", data := .seq ([] : List Value).toArray } })
    (R := fun (q : Result) (s' : Shared) => ∃ (h' : Heap) (tk : Nat) (acc : Array Value) (c : Nat), q = .ok (.ret (.ref s.heap.objs.size)) ∧ s' = { s with heap := h', toks := tk } ∧ (∀ b o, s.heap.get? b = some o → h'.get? b = some o) ∧
      h'.get? s.heap.objs.size = some { cls := .type "list", dict := none, data := .seq acc c, slots := #[] } ∧ ItemsOf Pv acc n)
    K hh (K.keep _ _ hok fun b _ o e => Heap.get?_push_of_some _ e) s.heap.objs.size (Nat.ne_of_gt hr) (Nat.ne_of_gt hd) (.ref s.heap.objs.size) 0 atS
    (fun h' tk acc c hk hS' hi => ⟨h', tk, acc, c, rfl, rfl, fun b o e => hk b o (Nat.ne_of_lt (Heap.lt_size e)) (Heap.get?_push_of_some _ e), hS', hi⟩) hn
  refine wpAny_mono ext (fun f s' z => ?_) fun e s' z => ?_
  · cases f with
    | done f =>
      obtain ⟨h', tk, acc, c, e, rfl, hk, hS', hi⟩ := z
      cases e
      show wpAny _ A (load s.heap.objs.size >>= _) _ _ _
      refine wpAny_bind (wpAny_load hS' (wpAny_pure ?_))
      exact h h' tk acc.toList hk (Nat.le_of_lt (Heap.lt_size hS')) (by rw [Array.length_toList]; exact hi.1) fun j v e => hi.2 j v (by rw [← Array.getElem?_toList]; exact e)
    | again c1 =>
      refine ⟨z.1, codeAny_mono z.2 fun q s2 y => ?_⟩
      obtain ⟨h', tk, acc, c, rfl, rfl, hk, hS', hi⟩ := y
      show wpAny _ A (load s.heap.objs.size >>= _) _ _ _
      refine wpAny_bind (wpAny_load hS' (wpAny_pure ?_))
      exact h h' tk acc.toList hk (Nat.le_of_lt (Heap.lt_size hS')) (by rw [Array.length_toList]; exact hi.1) fun j v e => hi.2 j v (by rw [← Array.getElem?_toList]; exact e)
  · obtain ⟨_, _, _, _, e', _⟩ := z
    cases e'
theorem sorted_any {x : Value} {kw : List (Str × Value)} {vs : List Value} {Q : Value → Shared → Prop} (ha1 : argsOk "sorted" ⟨[x], kw⟩) (ha2 : ∀ x, argsOk "list.sort" ⟨[.ref x], kw⟩) (hz : vs.length ≤ sizeLine)
    (col : ∀ (R : List Value → Shared → Prop) (E' : Value → Shared → Prop), (∀ (h' : Heap) (tk : Nat), (∀ b o, s.heap.get? b = some o → h'.get? b = some o) → s.heap.objs.size ≤ h'.objs.size → R vs { s with heap := h', toks := tk }) → wpAny (model P w) A.in1 (collect x) R E' s)
    (body : ∀ (h' : Heap) (tk : Nat) (E' : Value → Shared → Prop), (∀ b o, s.heap.get? b = some o → h'.get? b = some o) → s.heap.objs.size ≤ h'.objs.size → wpAny (model P w) A.in1.in1 (Builtin.«list.sort» ⟨[.ref h'.objs.size], kw⟩) (fun f s' => f = .done (.ret .none) ∧ Q (.ref h'.objs.size) s') E' { s with heap := h'.push (seqObj "list" vs.toArray 0), toks := tk }) : wpAny (model P w) A (call (.builtin "sorted") [x] kw) Q E s := by
  refine call_function_entry_kw kind_sorted plain_sorted entry_sorted ha1 ?_
  unfold Builtin.«sorted»
  refine wpAny_bind (m := checkCount "sorted" 1 1 _) (wpAny_pure ?_)
  refine wpAny_bind (col _ _ fun h' tk hk hs => ?_)
  refine wpAny_bind (wpAny_newList ?_ hz)
  refine wpAny_bind (wpAny_holding (wpAny_call_entry_kw slot_list_sort ⟨_, Heap.get?_push_size _ rfl, rfl⟩ entry_list_sort ?b (ha2 _)))
  case b =>
    refine wpAny_mono (body h' tk _ hk hs) (fun f s' hf => ?_) fun _ _ e => e
    obtain ⟨rfl, hq⟩ := hf
    exact ⟨_, rfl, wpAny_pure ⟨_, rfl, hq⟩⟩
end
/-! ### by plain data -/
def rowK (d : D) : Option (List D) := match d with
  | .lst xs => some xs
  | .dset ks => if lim ks.length then some (ks.map tupD) else none
  | _ => none
def dSortKey (Fs : List D → M D) (d : D) : M D := match rowK d with
  | some xs => keysGo Fs xs >>= fun ks => if sortableB ks then pure (.lst (sortBy xs ks)) else stuck
  | none => stuck
section
variable {X : Cx} {ga : Option Addr} {bo : Hp}
theorem ds_at {pins : List (Addr × Obj)} {σ : L2.St} {H : Hp} {s : Shared} {P : Program} {w : World} {a : Addr} {xs : List (List L2.Key × Addr)} (I : Inv X pins σ H s) (e : H a = some (dsO P w a xs)) : (a == sysModules) = false ∧ ∃ o es ep, s.heap.get? a = some o ∧ o.ExactDict ∧ o.data = .dict es ep ∧ es.toList = xs.map (fun x => entryOfKey (tupleKind (mixKind P w)) (x.1, x.2, Value.bool true)) ∧ (xs.map (·.1)).Nodup := (I.hok a _ e).1
theorem coll_vals {P : Program} {w : World} {es : Array DictEntry} {xs : List (List L2.Key × Addr)} (he : es.toList = xs.map (fun x => entryOfKey (tupleKind (mixKind P w)) (x.1, x.2, Value.bool true))) {vs : List Value} (hl : vs.length = es.size) (hv : ∀ j v, vs[j]? = some v → ∃ hi : j < es.size, v = es[j].key) : vs = xs.map fun x => Value.ref x.2 := by
  have lx : es.size = xs.length := by rw [← Array.length_toList, he, List.length_map]
  refine List.ext_getElem (by rw [hl, lx, List.length_map]) fun j h1 h2 => ?_
  obtain ⟨hi, e⟩ := hv j vs[j] (List.getElem?_eq_getElem h1)
  rw [e]
  have q : es[j] = es.toList[j]'(by rw [Array.length_toList]; exact hi) := (Array.getElem_toList hi).symm
  rw [q]
  simp only [he, List.getElem_map]
  rfl
theorem vals_refs : ∀ xs : List (List L2.Key × Addr), Vals (xs.map fun x => V.ref x.2) (xs.map fun x => Value.ref x.2)
  | [] => .nil
  | x :: xs => .cons rfl (vals_refs xs)
/-- sorted(x, key=f), by what x stands for -/
def rSK (K : PySem.W.Frag) (mg : Str → Option Value) (P : Program) (w : World) (z : Str) (Fs : List D → M D) : List V → List V → Hp → VK → Prop := fun vs zs H Q => ∃ (ga : Option Addr) (bo : Hp) (x y : V) (F : Hp) (d d' : D) (g g' : Gs), vs = [x] ∧ zs = [y] ∧ Same F H ∧ GenOk ⟨K, mg, ga, bo, P, w⟩ F H g ∧ RepB ⟨K, mg, ga, bo, P, w⟩ F H x d ∧ Rep ⟨K, mg, ga, bo, P, w⟩ F y (.fn z) ∧ Ok (dSortKey Fs d) g d' g' ∧
  ∀ v F' H', Stp ⟨K, mg, ga, bo, P, w⟩ F H F' H' g' → Rep ⟨K, mg, ga, bo, P, w⟩ F' v d' → Q v H'
theorem cr_sortKey {k : Nat} {z p : Str} {st : Stmt} {Fs : List D → M D} (C : Cal X.prog X.w X.K X.mg X.base k z st [p] Fs) (hr : Room (k + 2) X.A) (hg : X.A.guards = some []) : CallRK X (.builtin "sorted") [Str.ofString "key"] (rSK X.K X.mg X.prog X.w z Fs) := by
  intro pins s σ H vs zs us ws Q I rv rz h
  obtain ⟨ga, bo, x, y, F, d, d', g, g', rfl, rfl, le, gen, rx, ry, ok, q⟩ := h
  obtain ⟨fa, fd, h1, h2, h3, h4⟩ := C.ex
  have hb : ∀ (s : Shared) (u : Value), X.K.In s.heap → BindsTo s fd ⟨[u], []⟩ [(p, u)] := fun s u hk => by
    have b := h3 s [u] hk rfl
    rw [List.append_nil] at b
    exact b
  cases ry with
  | fn ef =>
    have efa := Option.some.inj (h1.symm.trans ef)
    cases efa
    cases rz with
    | cons z1 z2 =>
      cases z2
      cases z1
      cases rv with
      | @cons _ u _ _ u1 u2 =>
        cases u2
        show wpAny _ X.A (call (.builtin "sorted") [u] [(Str.ofString "key", .ref fa)]) _ _ s
        unfold dSortKey at ok
        split at ok
        · rename_i xs hxs
          obtain ⟨ks, g1, o1, ok⟩ := ok_bind.mp ok
          split at ok
          · rename_i hs
            obtain ⟨rfl, rfl⟩ := ok_pure.mp ok
            -- the sort of what has been collected
            have run : ∀ (vs : List V) (us : List Value) (h' : Heap) (tk : Nat) (E' : Value → Shared → Prop), Vals vs us → RepAll ⟨X.K, X.mg, ga, bo, X.prog, X.w⟩ F vs xs → us.length ≤ sizeLine → (∀ b o, s.heap.get? b = some o → h'.get? b = some o) → s.heap.objs.size ≤ h'.objs.size →
                wpAny (model X.prog X.w) X.A.in1.in1 (Builtin.«list.sort» ⟨[.ref h'.objs.size], [(Str.ofString "key", .ref fa)]⟩) (fun f s' => f = .done (.ret .none) ∧ EP X pins σ Q (.ref h'.objs.size) s') E' { s with heap := h'.push (seqObj "list" us.toArray 0), toks := tk } := fun vs us h' tk E' hv hr2 hz hk hsz => by
              rw [ksk_t1]
              have I2 : Inv X pins σ H { s with heap := h'.push (seqObj "list" us.toArray 0), toks := tk } := I.kept (t' := tk) fun b o e => Heap.get?_push_of_some _ (hk b o e)
              have fp := I.fpOk hsz (I.hok.fresh hsz)
              exact key_sort (ga := ga) (bo := bo) (ds := xs) (ks := ks) h4 hr hg hb I2 le gen hr2 hv fp (Heap.get?_push_size _ rfl) hz o1 hs fun s' F' H' I3 st rl => ⟨rfl, .ref h'.objs.size, H', I3, rfl, q _ F' H' st rl⟩
            cases d with
            | lst ys =>
              cases hxs
              obtain ⟨a, vs, rfl, ea, ra⟩ := rx.lst le
              cases u1
              obtain ⟨zl, its, n, rl, hl, el⟩ := I.lstM ea
              have hz : its.length ≤ sizeLine := by rw [← rl.length]; exact zl
              refine sorted_any (vs := its) (ksk_s1 _ _) (fun x => ksk_l1 _ _) hz (fun R E' hR => ?_) fun h' tk E' hk hsz => run vs its h' tk E' rl ra hz hk hsz
              refine collect_list (s := s) (vs := its) ⟨_, el, rfl, n, rfl⟩ ?_ hz
              have hR2 := hR ((s.heap.push (seqObj "list" #[] 0)).update s.heap.objs.size (Obj.mapSeq (· ++ its.toArray))) s.toks (fun b o e => (Heap.get?_update_other _ _ (Nat.ne_of_gt (Heap.lt_size e))).trans (Heap.get?_push_of_some _ e)) (by rw [Heap.size_update, Heap.size_push]; exact Nat.le_succ _)
              exact hR2
            | dset kk =>
              replace hxs : (if lim kk.length then some (kk.map tupD) else none) = some xs := hxs
              split at hxs
              · rename_i hlim
                cases hxs
                have r1 := rx.rep rfl
                cases r1 with
                | @dset _ a xs _ e1 e2 e3 =>
                  cases u1
                  obtain ⟨hd, o, es, ep, ho, hx, hdat, hes, nd⟩ := ds_at I (le _ _ e1)
                  have lx : es.size = xs.length := by rw [← Array.length_toList, hes, List.length_map]
                  have hz : es.size ≤ sizeLine := by
                    rw [e3, List.length_map, ← lx] at hlim
                    exact lim_le hlim
                  refine sorted_any (vs := xs.map fun x => Value.ref x.2) (ksk_s1 _ _) (fun x => ksk_l1 _ _) (by rw [List.length_map, ← lx]; exact hz) (fun R E' hR => ?_) fun h' tk E' hk hsz => run (xs.map fun x => V.ref x.2) _ h' tk E' (vals_refs xs) (by rw [e3]; exact rep_tups e2) (by rw [List.length_map, ← lx]; exact hz) hk hsz
                  refine collect_src (KdlSrc.rawDict (es := es) (ep := ep) hd) hr.hd ⟨o, ho, hx, hdat⟩ hz fun h' tk vs hk hsz hl hv => ?_
                  rw [coll_vals hes hl hv]
                  exact hR h' tk hk hsz
              · cases hxs
            | _ => cases hxs
          · exact absurd ok not_ok_stuck
        · exact absurd ok not_ok_stuck
end
end DL

/-! ## DKey3 -/
set_option Elab.async false
set_option autoImplicit false
set_option linter.all false
set_option maxRecDepth 100000
set_option maxHeartbeats 4000000
/-! DKey3: the expression sorted(x, key=f). -/
namespace DL
open PySem PySem.W PySem.Spec PyProof.Rows L2
section
variable {X : Cx} {ga : Option Addr} {bo : Hp} {k : Nat} {z p x : Str} {st : Stmt} {Fs : List D → M D} {a : Expr} {fa : E} {kws : List Keyword} {pos px : Pos}
theorem d_sortKey (C : Cal X.prog X.w X.K X.mg X.base k z st [p] Fs) (hr : Room (k + 2) X.A) (hgd : X.A.guards = some []) (hm : X.mg "sorted" = none) (ha : PE X a (tR ⟨X.K, X.mg, ga, bo, X.prog, X.w⟩ fa)) (hk : PK X kws (tAs ⟨X.K, X.mg, ga, bo, X.prog, X.w⟩ (esC (eK (.fn z)) esN))) (hg : Gl X "sorted" := by rfl)
    (he : backTo pos (starEach [a] X.env) = (false, eval a X.env) :: backTo pos (starEach [] X.env) := by rfl) (hpl : (backTo pos (starEach [a] X.env)).any (·.1) = false := by rfl)
    (hall : (backToKw pos (keywordEach kws X.env)).all (·.1.isSome) = true := by rfl) (hnone : (backToKw pos (keywordEach kws X.env)).any (·.1.isNone) = false := by rfl) (hks : (backToKw pos (keywordEach kws X.env)).filterMap (·.1) = [Str.ofString "key"] := by rfl)
    (he2 : starEach [a] X.env = (false, eval a X.env) :: starEach [] X.env := by rfl) :
    PE X (.Call (.Name "sorted" px) [a] kws pos) (tP ⟨X.K, X.mg, ga, bo, X.prog, X.w⟩ (eF (dSortKey Fs) fa)) :=
  (pe_callBK (cr_sortKey C hr hgd) hg hm (by rfl) (pa_cons ha pa_nil he2) hk (by decide) (by decide) he hpl hall hnone hks).imp fun σ H Q ⟨H0, F, δ, g, d, g', w, o, q⟩ => by
    obtain ⟨y, g1, o1, o2⟩ := ok_bind.mp o
    refine ⟨H0, F, δ, g, y, g1, w, o1, fun v F1 H1 s1 r1 => ⟨H0, F1, δ, g1, [.fn z], g1, w.step s1, ok_pure.mpr ⟨rfl, rfl⟩, fun zs F2 H2 s2 rz => ?_⟩⟩
    cases rz with
    | @cons _ u _ _ _ r2 r3 =>
      cases r3
      exact ⟨ga, bo, v, u, F2, y, d, g1, g', rfl, rfl, s2.le, s2.gen, r1.step s2, r2, o2, fun v F' H' s r => q v F' H' ((s1.trans s2).trans s) r⟩
end
end DL

/-! ## DDc -/
set_option Elab.async false
set_option autoImplicit false
set_option linter.all false
set_option maxRecDepth 100000
set_option maxHeartbeats 4000000
/-! DDc: {k: v for a in xs for b in ys}: the loops of the model. -/
namespace DL
open PySem PySem.Spec PyProof.Rows L2
abbrev dc2 (kx vx t0 i0 : Expr) (c0 : List Expr) (t1 i1 : Expr) (c1 : List Expr) (sc : Scope) (ps : Pos) : Expr := .DictComp kx vx [⟨t0, i0, c0, 0⟩, ⟨t1, i1, c1, 0⟩] sc ps
section
variable {kx vx t0 i0 t1 i1 : Expr} {c0 c1 : List Expr} {sc : Scope} {ps : Pos} {it : Value} {D : Addr} {env : Env}
theorem dc2_turn0 : compTurn (dc2 kx vx t0 i0 c0 t1 i1 c1 sc ps) 0 it (.ref D) env = (do
    standAt i0.pos
    match ← pyNext it with
    | none => pure (.done .next)
    | some z =>
      letOwnedTupleGo t0 it z
      assign t0 env z
      let mut good := true
      for c in c0 do
        if good then good ← isTrue c env (eval c env)
      if good then
        let y ← eval i1 env
        standAt i1.pos
        let y ← foldedSetIterable i1 env y
        let _ ← runOwn (.compStart (dc2 kx vx t0 i0 c0 t1 i1 c1 sc ps) 1 (← holding [y] (pyIter y)) (.ref D) env) env
      again (.compLoop (dc2 kx vx t0 i0 c0 t1 i1 c1 sc ps) 0 it (.ref D) env)) := by rfl
theorem dc2_turn1 : compTurn (dc2 kx vx t0 i0 c0 t1 i1 c1 sc ps) 1 it (.ref D) env = (do
    standAt i1.pos
    match ← pyNext it with
    | none => pure (.done .next)
    | some z =>
      letOwnedTupleGo t1 it z
      assign t1 env z
      let mut good := true
      for c in c1 do
        if good then good ← isTrue c env (eval c env)
      if good then
        (do
          let p ← eval kx env
          let q ← holding [p] (eval vx env)
          standAt { kx.pos with endLine := vx.pos.endLine, endCol := vx.pos.endCol }
          holding [p, q] (dictSet D p q))
      again (.compLoop (dc2 kx vx t0 i0 c0 t1 i1 c1 sc ps) 1 it (.ref D) env)) := by rfl
variable {P : Program} {w : World} {A : Around} {R : Result → Shared → Prop} {s : Shared}
/-- what a raise owes -/
abbrev owe (P : Program) (w : World) (A : Around) (env : Env) (R : Result → Shared → Prop) : Value → Shared → Prop := notedBy (model P w) A env fun x s' => R (.error x) s'
abbrev testsC (cs : List Expr) (env : Env) : Sem Bool := forIn cs true fun c r => if r = true then do let ok ← isTrue c env (eval c env); pure (ForInStep.yield ok) else pure (ForInStep.yield r)
theorem dc2_loop0 (hs : ∀ x, foldedSetIterable i1 env x = pure x) (J : Nat → Shared → Prop)
    (turn : ∀ n s, J n s → wpAny (model P w) A (pyNext it) (fun r s1 => match r with
      | none => R (.ok .next) s1
      | some z => wpAny (model P w) A (letOwnedTupleGo t0 it z) (fun _ s2 => wpAny (model P w) A (assign t0 env z) (fun _ s3 => wpAny (model P w) A (testsC c0 env) (fun good s4 =>
          if good = true then wpAny (model P w) A (eval i1 env) (fun y s5 => wpAny (model P w) A (pyIter y) (fun it1 s6 => codeAny (model P w) A (.compStart (dc2 kx vx t0 i0 c0 t1 i1 c1 sc ps) 1 it1 (.ref D) env) (fun r s' => match r with
            | .ok _ => ∃ m, m < n ∧ J m s'
            | .error _ => False) s6) (owe P w A env R) s5) (owe P w A env R) s4
          else ∃ m, m < n ∧ J m s4) (owe P w A env R) s3) (owe P w A env R) s2) (owe P w A env R) s1) (owe P w A env R) s)
    (n : Nat) (h : J n s) : codeAny (model P w) A (.compLoop (dc2 kx vx t0 i0 c0 t1 i1 c1 sc ps) 0 it (.ref D) env) R s := by
  refine codeAny_loop rfl J (fun m t hJ => ?_) n h
  show wpAny _ A ((compTurn (dc2 kx vx t0 i0 c0 t1 i1 c1 sc ps) 0 it (.ref D) env).onRaise (fun x => do noteFrame x env; theTreesLotGoes x)) _ _ t
  refine wpAny_noted ?_
  rw [dc2_turn0]
  refine wpAny_bind (wpAny_standAt (wpAny_bind (wpAny_mono (turn m t hJ) (fun r s1 k1 => ?_) fun _ _ z => z)))
  cases r with
  | none => exact wpAny_pure k1
  | some v =>
    refine wpAny_bind (wpAny_mono k1 (fun _ s2 k2 => wpAny_bind (wpAny_mono k2 (fun _ s3 k3 => wpAny_bind (wpAny_mono k3 (fun good s4 k4 => ?_) fun _ _ z => z)) fun _ _ z => z)) fun _ _ z => z)
    cases good with
    | false => exact wpAny_pure ⟨rfl, k4⟩
    | true =>
      refine wpAny_bind (wpAny_mono k4 (fun y s5 k5 => wpAny_bind (wpAny_standAt (wpAny_bind (wpAny_of_eq (hs y) (wpAny_bind (wpAny_holding (wpAny_mono k5 (fun it1 s6 k6 => ?_) fun _ _ z => z))))))) fun _ _ z => z)
      refine wpAny_bind (wpAny_runOwn ?_)
      rw [Around.mark_none]
      refine codeAny_mono k6 fun r s' hr => ?_
      cases r with
      | error e => exact hr.elim
      | ok f =>
        first
          | exact wpAny_pure ⟨rfl, hr⟩
          | exact wpAny_bind (wpAny_pure (wpAny_pure ⟨rfl, hr⟩))
theorem dc2_loop1 (J : Nat → Shared → Prop)
    (turn : ∀ n s, J n s → wpAny (model P w) A (pyNext it) (fun r s1 => match r with
      | none => R (.ok .next) s1
      | some z => wpAny (model P w) A (letOwnedTupleGo t1 it z) (fun _ s2 => wpAny (model P w) A (assign t1 env z) (fun _ s3 => wpAny (model P w) A (testsC c1 env) (fun good s4 =>
          if good = true then wpAny (model P w) A (eval kx env) (fun p s5 => wpAny (model P w) A (eval vx env) (fun q s6 => wpAny (model P w) A (dictSet D p q) (fun _ s7 => ∃ m, m < n ∧ J m s7) (owe P w A env R) s6) (owe P w A env R) s5) (owe P w A env R) s4
          else ∃ m, m < n ∧ J m s4) (owe P w A env R) s3) (owe P w A env R) s2) (owe P w A env R) s1) (owe P w A env R) s)
    (n : Nat) (h : J n s) : codeAny (model P w) A (.compLoop (dc2 kx vx t0 i0 c0 t1 i1 c1 sc ps) 1 it (.ref D) env) R s := by
  refine codeAny_loop rfl J (fun m t hJ => ?_) n h
  show wpAny _ A ((compTurn (dc2 kx vx t0 i0 c0 t1 i1 c1 sc ps) 1 it (.ref D) env).onRaise (fun x => do noteFrame x env; theTreesLotGoes x)) _ _ t
  refine wpAny_noted ?_
  rw [dc2_turn1]
  refine wpAny_bind (wpAny_standAt (wpAny_bind (wpAny_mono (turn m t hJ) (fun r s1 k1 => ?_) fun _ _ z => z)))
  cases r with
  | none => exact wpAny_pure k1
  | some v =>
    refine wpAny_bind (wpAny_mono k1 (fun _ s2 k2 => wpAny_bind (wpAny_mono k2 (fun _ s3 k3 => wpAny_bind (wpAny_mono k3 (fun good s4 k4 => ?_) fun _ _ z => z)) fun _ _ z => z)) fun _ _ z => z)
    cases good with
    | false => exact wpAny_pure ⟨rfl, k4⟩
    | true =>
      exact wpAny_bind (wpAny_bind (wpAny_mono k4 (fun p s5 k5 => wpAny_bind (wpAny_holding (wpAny_mono k5 (fun q s6 k6 => wpAny_bind (wpAny_standAt (wpAny_holding (wpAny_mono k6 (fun _ s7 k7 => wpAny_pure ⟨rfl, k7⟩) fun _ _ z => z)))) fun _ _ z => z))) fun _ _ z => z))
theorem dc2_start1 (h0 : codeAny (model P w) A (.compLoop (dc2 kx vx t0 i0 c0 t1 i1 c1 sc ps) 1 it (.ref D) env) R s)
    (h : wpAny (model P w) A (pyIter it) (fun it' s' => codeAny (model P w) A (.compLoop (dc2 kx vx t0 i0 c0 t1 i1 c1 sc ps) 1 it' (.ref D) env) R s') (owe P w A env R) s) :
    codeAny (model P w) A (.compStart (dc2 kx vx t0 i0 c0 t1 i1 c1 sc ps) 1 it (.ref D) env) R s := by
  refine codeAny_of_tree ?_
  show wpAny _ _ ((compStart (dc2 kx vx t0 i0 c0 t1 i1 c1 sc ps) 1 it (.ref D) env).onRaise (fun x => do noteFrame x env; standAt theWindowsPlace)) _ _ s
  refine wpAny_notedAt ?_
  unfold compStart
  show wpAny _ _ (ask >>= _) _ _ s
  refine wpAny_bind (wpAny_askSetting (wpAny_ite ?_))
  split
  · first
      | exact wpAny_bind (wpAny_pure (wpAny_pure (And.intro rfl h0)))
      | exact wpAny_pure (And.intro rfl h0)
  · first
      | exact wpAny_bind (wpAny_rule (wpAny_bind (wpAny_standAt (wpAny_bind (wpAny_mono h (fun it' s' k => wpAny_pure (And.intro rfl k)) fun _ _ x => x)))))
      | (refine wpAny_bind (wpAny_rule ?_); show wpAny _ _ (standAt i1.pos >>= _) _ _ s; exact wpAny_bind (wpAny_standAt (wpAny_bind (wpAny_mono h (fun it' s' k => wpAny_pure (And.intro rfl k)) fun _ _ x => x))))
end
/-! ### storing -/
def hasK (ks : List (List (Int ⊕ Str))) (k : List (Int ⊕ Str)) : Bool := ks.any fun y => decide (y = k)
theorem hasK_iff {ks : List (List (Int ⊕ Str))} {k : List (Int ⊕ Str)} : hasK ks k = true ↔ k ∈ ks := by
  unfold hasK
  rw [List.any_eq_true]
  constructor
  · rintro ⟨y, h1, h2⟩
    rw [← of_decide_eq_true h2]; exact h1
  · exact fun h => ⟨k, h, decide_eq_true rfl⟩
def putX (xs : List (List L2.Key × Addr)) (k : List L2.Key) (b : Addr) : List (List L2.Key × Addr) := if hasK (xs.map (·.1)) k then xs else xs ++ [(k, b)]
def ksPut (ks : List (List (Int ⊕ Str))) (k : List (Int ⊕ Str)) : List (List (Int ⊕ Str)) := if hasK ks k then ks else ks ++ [k]
theorem putX_keys (xs : List (List L2.Key × Addr)) (k : List L2.Key) (b : Addr) : (putX xs k b).map (·.1) = ksPut (xs.map (·.1)) k := by
  unfold putX ksPut
  split
  · rfl
  · rw [List.map_append]; rfl
section
variable {X : Cx} {pins : List (Addr × Obj)} {σ : L2.St} {H : Hp} {s : Shared} {D b : Addr} {xs : List (List L2.Key × Addr)} {k : List L2.Key}
abbrev withT (xs : List (List L2.Key × Addr)) : List (List L2.Key × Addr × Value) := xs.map fun x => (x.1, x.2, Value.bool true)
theorem ds_ofH (I : Inv X pins σ H s) (e : H D = some (dsO X.prog X.w D xs)) (ht : ∀ x ∈ xs, H x.2 = some (.tup (x.1.map kV))) : s.heap.DictOfH (tupleKind (mixKind X.prog X.w)) D (withT xs) := by
  obtain ⟨_, o, es, ep, ho, hx, hd, he, hn⟩ := (I.hok D _ e).1
  refine ⟨o, es, ep, ho, hx, hd, by rw [he, List.map_map]; rfl, fun y hy => ?_, by rw [List.map_map]; exact hn⟩
  obtain ⟨x, hxm, rfl⟩ := List.mem_map.mp hy
  exact key_of I.hok (ht x hxm)
theorem atKey_none {xs : List (List L2.Key × Addr)} (h : k ∉ xs.map (·.1)) : atKey (withT xs) k = none := by
  unfold atKey
  rw [Option.map_eq_none_iff, List.find?_eq_none]
  intro y hy
  obtain ⟨x, hx, rfl⟩ := List.mem_map.mp hy
  simp only [decide_eq_true_eq]
  exact fun z => h (z ▸ List.mem_map.mpr ⟨x, hx, rfl⟩)
theorem atKey_some {xs : List (List L2.Key × Addr)} (h : k ∈ xs.map (·.1)) : ∃ p, atKey (withT xs) k = some p := by
  unfold atKey
  cases e : (withT xs).find? fun x => decide (x.1 = k) with
  | some y => exact ⟨_, rfl⟩
  | none =>
    obtain ⟨x, hx, rfl⟩ := List.mem_map.mp h
    have := List.find?_eq_none.mp e (x.1, x.2, Value.bool true) (List.mem_map.mpr ⟨x, hx, rfl⟩)
    simp at this
theorem stored_put (xs : List (List L2.Key × Addr)) (k : List L2.Key) (b : Addr) : storedH (withT xs) k b (Value.bool true) = withT (putX xs k b) := by
  unfold putX
  by_cases h : hasK (xs.map (·.1)) k = true
  · obtain ⟨p, hp⟩ := atKey_some (hasK_iff.mp h)
    rw [if_pos h, storedH_old hp, List.map_map]
    refine List.map_congr_left fun x _ => ?_
    show putAt k (Value.bool true) (x.1, x.2, Value.bool true) = _
    unfold putAt
    split <;> rfl
  · rw [if_neg h, storedH_new (atKey_none fun z => h (hasK_iff.mpr z))]
    show _ = (xs ++ [(k, b)]).map _
    rw [List.map_append]
    rfl
theorem ds_set {E : Value → Shared → Prop} {Q : Unit → Shared → Prop} (hu : X.A.units < cLine) (I : Inv X pins σ H s) (e : H D = some (dsO X.prog X.w D xs)) (ht : ∀ x ∈ xs, H x.2 = some (.tup (x.1.map kV))) (eb : H b = some (.tup (k.map kV))) (hz : xs.length < sizeLine)
    (h : ∀ s', Inv X pins σ (upd H D (dsO X.prog X.w D (putX xs k b))) s' → Q () s') : wpAny (model X.prog X.w) X.A (dictSet D (.ref b) (.bool true)) Q E s := by
  have dd := ds_ofH I e ht
  refine wpAny_dictSet_heap (hsz := by rw [List.length_map]; omega) hu (key_of I.hok eb) dd fun h' dd' hs => h _ ?_
  rw [stored_put] at dd'
  obtain ⟨q, es, ep, hq, h2, h3, h4, _, h5⟩ := dd'
  have hd := (I.hok D _ e).1.1
  refine d_write I (by rw [e]; exact True.intro) hs ⟨q, hq⟩ ⟨⟨hd, q, es, ep, hq, h2, h3, by rw [h4, List.map_map]; rfl, by rw [List.map_map] at h5; exact h5⟩, ⟨q, hq⟩, fun g1 g2 ⟨z1, o, es, ep, y1, y2⟩ ky => ⟨z1, o, es, ep, ky o y1, y2⟩⟩
end
end DL

/-! ## DDc2 -/
set_option Elab.async false
set_option autoImplicit false
set_option linter.all false
set_option maxRecDepth 100000
set_option maxHeartbeats 8000000
/-! DDc2: {k: True for a in xs for b in ys}, k tuples: the block, by its reading. -/
namespace DL
open PySem PySem.Spec PyProof.Rows L2
/-- the reading: D the new dict -/
def tDs2 (P : Program) (w : World) (wi : TI) (g : TG) (tt : TT) (wi1 : TI) (g1 : TG) (tt1 : TT) (tk tv : TE) (vs vs1 : List Nat) : TE := fun σ H Q => wi σ H fun J H1 => ∀ D, H1 D = none → ∃ W : Nat → Nat → Hp → Prop, (∃ m, W 0 m (upd H1 D (dsO P w D []))) ∧ ∀ i m H, W i m H →
  (J.stop i H ∧ Q (.ref D) H) ∨ (J.go i H ∧ ∃ Nx : Hp → Prop, (∀ H', Nx H' → ∃ m', m' < m ∧ W (i + 1) m' H') ∧ ∀ x H', J.yld i H x H' → g x (wipe σ vs) H' fun σ2 H2 => wipe σ2 vs = wipe σ vs ∧ tt σ2 H2 fun b H3 =>
    if b = true then wi1 σ2 H3 fun J1 H4 => ∃ W1 : Nat → Nat → Hp → Prop, (∃ m1, W1 0 m1 H4) ∧ ∀ j k H, W1 j k H →
      (J1.stop j H ∧ Nx H) ∨ (J1.go j H ∧ ∃ N1 : Hp → Prop, (∀ H', N1 H' → ∃ k', k' < k ∧ W1 (j + 1) k' H') ∧ ∀ x1 H', J1.yld j H x1 H' → g1 x1 (wipe σ2 vs1) H' fun σ5 H5 => wipe σ5 vs1 = wipe σ2 vs1 ∧ tt1 σ5 H5 fun b1 H6 =>
        if b1 = true then tk σ5 H6 fun y H7 => tv σ5 H7 fun z H8 => ∃ xs kk b, y = .ref b ∧ z = .bl true ∧ H8 D = some (dsO P w D xs) ∧ (∀ x ∈ xs, H8 x.2 = some (.tup (x.1.map kV))) ∧ H8 b = some (.tup (kk.map kV)) ∧ xs.length < sizeLine ∧ N1 (upd H8 D (dsO P w D (putX xs kk b))) else N1 H6)
    else Nx H3)
theorem ds_empty {P : Program} {w : World} {H : Hp} {h : Heap} {D : Addr} {o : Obj} (ho : h.get? D = some { cls := .type "dict", data := .dict #[] }) (hd : (D == sysModules) = false) : ObjOk P w H h D (dsO P w D []) :=
  ⟨⟨hd, _, #[], _, ho, ⟨rfl, rfl, rfl⟩, rfl, rfl, List.nodup_nil⟩, ⟨_, ho⟩, fun g1 g2 ⟨z1, o, es, ep, y1, y2⟩ ky => ⟨z1, o, es, ep, ky o y1, y2⟩⟩
section
variable {X : Cx}
theorem ds2_core {pins : List (Addr × Obj)} {s : Shared} {σ : L2.St} {H : Hp} {Q : VK} {kx vx tg iter tg1 iter1 : Expr} {ifs ifs1 : List Expr} {scope : Scope} {own : List (Str × Nat)} {vs1 : List Nat} {pos pos' : Pos} {wi wi1 : TI} {g g1 : TG} {tt tt1 : TT} {tk tv : TE} {use : Option (Value → Sem Unit)} {Qf : Value → Shared → Prop}
    (hu : X.A.units < cLine) (hc : X.calm = true) (hN : X.N.Nodup) (I : Inv X pins σ H s) (hi : PI X tg iter wi) (ok : BlkOk X.N X.env.scope scope own) (hv : ∀ i ∈ vs1, i ∈ own.map (·.2))
    (hg : ∀ (s : Shared) (H : Hp) (C : Addr) (cl : List (Str × Addr)) (fp : List Addr), PG (X.blk s H scope (compEnvC scope cl C X.env) fp) tg g) (ht : ∀ (s : Shared) (H : Hp) (C : Addr) (cl : List (Str × Addr)) (fp : List Addr), PTs (X.blk s H scope (compEnvC scope cl C X.env) fp) ifs tt)
    (hk : ∀ (s : Shared) (H : Hp) (C : Addr) (cl : List (Str × Addr)) (fp : List Addr), PE (X.blk s H scope (compEnvC scope cl C X.env) fp) kx tk) (he : ∀ (s : Shared) (H : Hp) (C : Addr) (cl : List (Str × Addr)) (fp : List Addr), PE (X.blk s H scope (compEnvC scope cl C X.env) fp) vx tv)
    (hs : ∀ x, foldedSetIterable iter X.env x = pure x) (hi1 : ∀ (s : Shared) (H : Hp) (C : Addr) (cl : List (Str × Addr)) (fp : List Addr), PI (X.blk s H scope (compEnvC scope cl C X.env) fp) tg1 iter1 wi1)
    (hg1 : ∀ (s : Shared) (H : Hp) (C : Addr) (cl : List (Str × Addr)) (fp : List Addr), PG (X.blk s H scope (compEnvC scope cl C X.env) fp) tg1 g1) (ht1 : ∀ (s : Shared) (H : Hp) (C : Addr) (cl : List (Str × Addr)) (fp : List Addr), PTs (X.blk s H scope (compEnvC scope cl C X.env) fp) ifs1 tt1)
    (hs1 : ∀ env x, foldedSetIterable iter1 env x = pure x) (h : tDs2 X.prog X.w wi g tt wi1 g1 tt1 tk tv (own.map (·.2)) vs1 σ H Q)
    (out : ∀ D C s' m H', Inv X pins σ H' s' → Q (.ref D) H' → s'.heap.Ns C m → FpOk X pins H' C → compPost (model X.prog X.w) X.A X.xe use Qf (.ref D) C (.ok .next) s') :
    wpAny (model X.prog X.w) X.A (comprehension (dc2 kx vx tg iter ifs tg1 iter1 ifs1 scope pos) scope X.env pos' newDict false (eval iter X.env) use) Qf X.xe s := by
  have frees : ∀ y ∈ scope.names, y.2 = .free → ∃ c, X.env.cells.lookup y.1 = some c := fun y hy e => (ok.free y hy e).elim (fun z => I.ok.has _ (.inl z)) fun z => I.ok.has _ (.inr z)
  refine wpAny_comprehension_free (use := use) rfl hs (closure_ok frees) ok.kind (fun y hy e => by rw [ok.uniq y hy, e]) (thn (hi.run pins s σ H _ I h) fun xv s1 hx => thn hx fun itv s2 z2 => ?_)
  obtain ⟨it, fp, tn, J, Ha, e, Ia, T, sta, fa, q⟩ := z2
  subst e
  refine wpAny_newObj_type (newEnv_comp ?_)
  generalize hD : s2.heap.objs.size = D
  have hDn : Ha D = none := Ia.hok.fresh (Nat.le_of_eq hD)
  obtain ⟨W, ⟨m0, w0⟩, turn⟩ := q D hDn
  generalize hs3 : ({ s2 with heap := s2.heap.push { cls := .type "dict", data := .dict #[] } } : Shared) = s3
  have h3 : s3.heap = s2.heap.push { cls := .type "dict", data := .dict #[] } := by rw [← hs3]
  have sysD : (D == sysModules) = false := by
    have q0 := dk_empty (P := X.prog) (w := X.w) (H := Ha) s2.heap Ia.big
    rw [hD] at q0
    exact q0.2.1
  have Ib : Inv X pins σ (upd Ha D (dsO X.prog X.w D [])) s3 := by
    rw [← hs3]
    refine Ia.laid (t' := s2.toks) (fun b o eb => Heap.get?_push_of_some _ eb) (Nat.le_of_eq hD) (ds_empty (o := { cls := .type "dict", data := .dict #[] }) ?_ sysD)
    rw [← hD]
    exact Heap.get?_push_size _ rfl
  have lts : ∀ b ∈ fp, b < s2.heap.objs.size := fun b hb => let ⟨o, eb, _⟩ := T.obj _ _ sta b hb; Heap.lt_size eb
  have fb : ∀ b ∈ fp, FpOk X pins (upd Ha D (dsO X.prog X.w D [])) b ∧ b < s3.heap.objs.size := fun b hb => by
    have hlt := lts b hb
    refine ⟨⟨?_, (fa b hb).2⟩, by rw [h3, Heap.size_push]; exact Nat.lt_succ_of_lt hlt⟩
    rw [upd_ne (by rw [← hD]; exact Nat.ne_of_lt hlt)]
    exact (fa b hb).1
  have stb : tn 0 s3.heap := T.keep _ _ _ sta fun b _ o eb => by rw [h3]; exact Heap.get?_push_of_some _ eb
  have Ic := block_start Ib ok hN fb
  show codeAny _ _ (.compStart (dc2 kx vx tg iter ifs tg1 iter1 ifs1 scope pos) 0 (.ref it) (.ref D) (compEnvC scope (cellsFrom (s3.heap.objs.size + 1) scope.names (cloFrom X.env.cells scope.names [])) s3.heap.objs.size X.env)) (compPost (model X.prog X.w) X.A X.xe use Qf (.ref D) s3.heap.objs.size) { s3 with heap := pushCells (s3.heap.push { cls := .type "dict", data := .dict #[] }) scope.names }
  generalize hcl : cellsFrom (s3.heap.objs.size + 1) scope.names (cloFrom X.env.cells scope.names []) = cl at Ic ⊢
  have pg := hg s3 (upd Ha D (dsO X.prog X.w D [])) s3.heap.objs.size cl fp
  have pt := ht s3 (upd Ha D (dsO X.prog X.w D [])) s3.heap.objs.size cl fp
  have pk := hk s3 (upd Ha D (dsO X.prog X.w D [])) s3.heap.objs.size cl fp
  have pe := he s3 (upd Ha D (dsO X.prog X.w D [])) s3.heap.objs.size cl fp
  have pi1 := hi1 s3 (upd Ha D (dsO X.prog X.w D [])) s3.heap.objs.size cl fp
  have pg1 := hg1 s3 (upd Ha D (dsO X.prog X.w D [])) s3.heap.objs.size cl fp
  have pt1 := ht1 s3 (upd Ha D (dsO X.prog X.w D [])) s3.heap.objs.size cl fp
  have nfp : ∀ b ∈ fp, (upd Ha D (dsO X.prog X.w D [])) b = none := fun b hb => (fb b hb).1.1
  generalize hce : compEnvC scope cl s3.heap.objs.size X.env = ce at Ic pg pt pk pe pi1 pg1 pt1 ⊢
  have cL : ce.locals = s3.heap.objs.size := by subst hce; rfl
  generalize hHb : upd Ha D (dsO X.prog X.w D []) = Hb at Ib Ic pg pt pk pe pi1 pg1 pt1 w0 nfp fb
  generalize hs4 : ({ s3 with heap := pushCells (s3.heap.push { cls := .type "dict", data := .dict #[] }) scope.names } : Shared) = s4 at Ic ⊢
  have stc : tn 0 s4.heap := T.keep _ _ _ stb fun b _ o eb => by rw [← hs4]; exact pushCells_keeps _ _ _ _ (Heap.get?_push_of_some _ eb)
  have still : ∀ {σ' : L2.St} {H' : Hp} {s' : Shared}, Inv (X.blk s3 Hb scope ce fp) [] σ' H' s' → (∀ b ∈ fp, H' b = none) → ∀ b ∈ fp, FpOk (X.blk s3 Hb scope ce fp) [] H' b := fun {σ' H' s'} Iz hn b hb =>
    ⟨hn b hb, (Iz.ok.exf b hb).1, Iz.ok.exfs b hb, .inl hb, fun x c ec => (Iz.ok.exf b hb).2 x c ec, fun p hp => absurd (show p ∈ ([] : List (Addr × Obj)) ++ [] from hp) (by simp)⟩
  have main : codeAny (model X.prog X.w) X.A (.compLoop (dc2 kx vx tg iter ifs tg1 iter1 ifs1 scope pos) 0 (.ref it) (.ref D) ce) (compPost (model X.prog X.w) X.A X.xe use Qf (.ref D) s3.heap.objs.size) s4 := by
    refine dc2_loop0 (hs1 ce) (fun n s' => ∃ i H', Inv (X.blk s3 Hb scope ce fp) [] (wipe σ (own.map (·.2))) H' s' ∧ tn i s'.heap ∧ (∀ b ∈ fp, H' b = none) ∧ W i n H') ?_ m0 ⟨0, Hb, Ic, stc, nfp, w0⟩
    rintro n s5 ⟨i, H5, I5, st5, n5, w5⟩
    rcases turn i n H5 w5 with ⟨stop, qq⟩ | ⟨go, Nx, hNx, step⟩
    · refine thnF (T.done (X.blk s3 Hb scope ce fp) rfl rfl rfl hc i [] s5 _ H5 (fun _ _ => False) I5 (still I5 n5) st5 stop) fun r s6 ⟨hr, I6⟩ => ?_
      subst hr
      have I7 : Inv X pins σ H5 s6 := Ib.call' (ch := fp) I6.os I6.base I6.hok I6.bare fun b hb => ⟨(fb b hb).1.2.2.2.1, (fb b hb).1.2.1, (fb b hb).1.2.2.2.2.1, (fb b hb).1.2.2.2.2.2⟩
      have noC : H5 s3.heap.objs.size = none := by
        have z : H5 ce.locals = none := I6.free
        rwa [cL] at z
      obtain ⟨m, hn, _⟩ := I6.loc
      replace hn : s6.heap.Ns ce.locals m := hn
      rw [cL] at hn
      exact out D s3.heap.objs.size s6 m H5 I7 qq hn (Ib.fpOk (Nat.le_refl _) noC)
    · refine thnF (T.item (X.blk s3 Hb scope ce fp) rfl rfl rfl hc i [] s5 _ H5 (fun _ _ => False) I5 (still I5 n5) st5 go) fun r s6 ⟨u, hr, z6⟩ => ?_
      subst hr
      refine thnF z6 fun _ s7 ⟨x, H7, I7, r7, y7, st7, n7⟩ => ?_
      refine thnF (pg.run _ s7 _ H7 x u _ (I7.pinned (still I7 n7) (T.obj _ _ st7)) r7 (step x H7 y7)) fun _ s8 ⟨σ8, H8, I8, hw8, q8⟩ => ?_
      refine thnF (pt.run _ s8 σ8 H8 _ I8 q8) fun b s9 ⟨H9, I9, q9⟩ => ?_
      have back : ∀ {σ9 : L2.St} {s' : Shared} {H' : Hp}, Inv (X.blk s3 Hb scope ce fp) ([] ++ pinsAt fp s7.heap) σ9 H' s' → (wipe σ (own.map (·.2))).length = σ9.length → (∀ (j : Nat) v, (wipe σ (own.map (·.2)))[j]? = some (some v) → σ9[j]? = some (some v)) → Nx H' →
          ∃ m, m < n ∧ ∃ i H', Inv (X.blk s3 Hb scope ce fp) [] (wipe σ (own.map (·.2))) H' s' ∧ tn i s'.heap ∧ (∀ b ∈ fp, H' b = none) ∧ W i m H' := fun {σ9 s' H'} Iz hl hkk nx => by
        obtain ⟨m', hm, w'⟩ := hNx H' nx
        have pinned : ∀ b ∈ fp, ∀ o, s7.heap.get? b = some o → s'.heap.get? b = some o ∧ H' b = none := fun b hb o eb => let z := Iz.pin (b, o) (List.mem_append_right _ (List.mem_append_right _ (mem_pinsAt hb eb))); ⟨z.1, z.2.1⟩
        refine ⟨m', hm, i + 1, H', (Iz.unpinned (pins := [])).weak hl hkk, T.keep _ _ _ st7 fun b hb o eb => (pinned b hb o eb).1, fun b hb => ?_, w'⟩
        obtain ⟨o, eb, _⟩ := T.obj _ _ st7 b hb
        exact (pinned b hb o eb).2
      have len8 : (wipe σ (own.map (·.2))).length = σ8.length := by rw [← hw8, wipe_length]
      have kept8 : ∀ (j : Nat) v, (wipe σ (own.map (·.2)))[j]? = some (some v) → σ8[j]? = some (some v) := fun j v ej => by
        rw [← hw8] at ej
        exact (wipe_some ej).1
      have kept9 : ∀ (j : Nat) v, (wipe σ (own.map (·.2)))[j]? = some (some v) → (wipe σ8 vs1)[j]? = some (some v) := fun j v ej => by
        rw [← hw8] at ej
        obtain ⟨a1, a2⟩ := wipe_some ej
        rw [wipe_out fun z => a2 (hv j z)]
        exact a1
      cases b with
      | false =>
        simp only [Bool.false_eq_true, if_false] at q9 ⊢
        exact back I9 len8 kept8 q9
      | true =>
        simp only [if_true] at q9 ⊢
        refine thnF (pi1.run _ s9 σ8 H9 _ I9 q9) fun xv s10 hx => thnF hx fun itv s11 z11 => ?_
        obtain ⟨it1, fp1, tn1, J1, H11, e1, I11, T1, st11, f11, W1, ⟨m1, w1⟩, turn1⟩ := z11
        subst e1
        have still1 : ∀ {H' : Hp}, (∀ b ∈ fp1, H' b = none) → ∀ b ∈ fp1, FpOk (X.blk s3 Hb scope ce fp) ([] ++ pinsAt fp s7.heap) H' b := fun hn b hb => ⟨hn b hb, (f11 b hb).2⟩
        have inner : codeAny (model X.prog X.w) X.A (.compLoop (dc2 kx vx tg iter ifs tg1 iter1 ifs1 scope pos) 1 (.ref it1) (.ref D) ce) (fun r s' => match r with
              | .ok _ => ∃ m, m < n ∧ ∃ i H', Inv (X.blk s3 Hb scope ce fp) [] (wipe σ (own.map (·.2))) H' s' ∧ tn i s'.heap ∧ (∀ b ∈ fp, H' b = none) ∧ W i m H'
              | .error _ => False) s11 := by
          refine dc2_loop1 (fun k s' => ∃ j H', Inv (X.blk s3 Hb scope ce fp) ([] ++ pinsAt fp s7.heap) (wipe σ8 vs1) H' s' ∧ tn1 j s'.heap ∧ (∀ b ∈ fp1, H' b = none) ∧ W1 j k H') ?_ m1 ⟨0, H11, I11.weak (wipe_length _ _) (fun j v ej => (wipe_some ej).1), st11, fun b hb => (f11 b hb).1, w1⟩
          rintro k s12 ⟨j, H12, I12, st12, n12, w12⟩
          rcases turn1 j k H12 w12 with ⟨stop1, nx1⟩ | ⟨go1, N1, hN1, step1⟩
          · refine thnF (T1.done (X.blk s3 Hb scope ce fp) rfl rfl rfl hc j _ s12 (wipe σ8 vs1) H12 (fun _ _ => False) I12 (still1 n12) st12 stop1) fun r s13 ⟨hr, I13⟩ => ?_
            subst hr
            exact back I13 (len8.trans (wipe_length σ8 vs1).symm) kept9 nx1
          · refine thnF (T1.item (X.blk s3 Hb scope ce fp) rfl rfl rfl hc j _ s12 (wipe σ8 vs1) H12 (fun _ _ => False) I12 (still1 n12) st12 go1) fun r s13 ⟨u1, hr, z13⟩ => ?_
            subst hr
            refine thnF z13 fun _ s14 ⟨x1, H14, I14, r14, y14, st14, n14⟩ => ?_
            refine thnF (pg1.run _ s14 (wipe σ8 vs1) H14 x1 u1 _ (I14.pinned (still1 n14) (T1.obj _ _ st14)) r14 (step1 x1 H14 y14)) fun _ s15 ⟨σ15, H15, I15, hw15, q15⟩ => ?_
            refine thnF (pt1.run _ s15 σ15 H15 _ I15 q15) fun b1 s16 ⟨H16, I16, q16⟩ => ?_
            have back1 : ∀ {s' : Shared} {H' : Hp}, Inv (X.blk s3 Hb scope ce fp) (([] ++ pinsAt fp s7.heap) ++ pinsAt fp1 s14.heap) σ15 H' s' → N1 H' → ∃ m, m < k ∧ ∃ j H', Inv (X.blk s3 Hb scope ce fp) ([] ++ pinsAt fp s7.heap) (wipe σ8 vs1) H' s' ∧ tn1 j s'.heap ∧ (∀ b ∈ fp1, H' b = none) ∧ W1 j m H' := fun {s' H'} Iz nx => by
              obtain ⟨m', hm, w'⟩ := hN1 H' nx
              have pinned : ∀ b ∈ fp1, ∀ o, s14.heap.get? b = some o → s'.heap.get? b = some o ∧ H' b = none := fun b hb o eb => let z := Iz.pin (b, o) (List.mem_append_right _ (List.mem_append_right _ (mem_pinsAt hb eb))); ⟨z.1, z.2.1⟩
              refine ⟨m', hm, j + 1, H', Iz.unpinned.weak (by rw [← hw15, wipe_length]) (fun l v el => by rw [← hw15] at el; exact (wipe_some el).1), T1.keep _ _ _ st14 fun b hb o eb => (pinned b hb o eb).1, fun b hb => ?_, w'⟩
              obtain ⟨o, eb, _⟩ := T1.obj _ _ st14 b hb
              exact (pinned b hb o eb).2
            cases b1 with
            | false =>
              simp only [Bool.false_eq_true, if_false] at q16 ⊢
              exact back1 I16 q16
            | true =>
              simp only [if_true] at q16 ⊢
              refine thnF (pk.run _ s16 σ15 H16 _ I16 q16) fun z s17 ⟨yk, H17, I17, r17, q17⟩ => ?_
              refine thnF (pe.run _ s17 σ15 H17 _ I17 q17) fun z2 s18 ⟨yv, H18, I18, r18, xs, kk, b, ey, ez, eD, hts, eb, hz, nx⟩ => ?_
              subst ey ez
              cases r17
              cases r18
              exact ds_set (X := X.blk s3 Hb scope ce fp) hu I18 eD hts eb hz fun s19 I19 => back1 I19 nx
        exact dc2_start1 inner (T1.self X.A 0 _ _ _ st11 inner)
  exact codeAny_compStart_dict main (T.self X.A 0 _ _ _ stc main)
/-- as a value -/
theorem pe_ds2 {kx vx tg iter tg1 iter1 : Expr} {ifs ifs1 : List Expr} {scope : Scope} {own : List (Str × Nat)} {vs1 : List Nat} {pos : Pos} {wi wi1 : TI} {g g1 : TG} {tt tt1 : TT} {tk tv : TE} (hu : X.A.units < cLine) (hc : X.calm = true) (hN : X.N.Nodup) (hi : PI X tg iter wi) (ok : BlkOk X.N X.env.scope scope own) (hv : ∀ i ∈ vs1, i ∈ own.map (·.2))
    (hg : ∀ (s : Shared) (H : Hp) (C : Addr) (cl : List (Str × Addr)) (fp : List Addr), PG (X.blk s H scope (compEnvC scope cl C X.env) fp) tg g) (ht : ∀ (s : Shared) (H : Hp) (C : Addr) (cl : List (Str × Addr)) (fp : List Addr), PTs (X.blk s H scope (compEnvC scope cl C X.env) fp) ifs tt)
    (hk : ∀ (s : Shared) (H : Hp) (C : Addr) (cl : List (Str × Addr)) (fp : List Addr), PE (X.blk s H scope (compEnvC scope cl C X.env) fp) kx tk) (he : ∀ (s : Shared) (H : Hp) (C : Addr) (cl : List (Str × Addr)) (fp : List Addr), PE (X.blk s H scope (compEnvC scope cl C X.env) fp) vx tv)
    (hi1 : ∀ (s : Shared) (H : Hp) (C : Addr) (cl : List (Str × Addr)) (fp : List Addr), PI (X.blk s H scope (compEnvC scope cl C X.env) fp) tg1 iter1 wi1) (hg1 : ∀ (s : Shared) (H : Hp) (C : Addr) (cl : List (Str × Addr)) (fp : List Addr), PG (X.blk s H scope (compEnvC scope cl C X.env) fp) tg1 g1)
    (ht1 : ∀ (s : Shared) (H : Hp) (C : Addr) (cl : List (Str × Addr)) (fp : List Addr), PTs (X.blk s H scope (compEnvC scope cl C X.env) fp) ifs1 tt1) (hs : ∀ x, foldedSetIterable iter X.env x = pure x := by intro _; rfl) (hs1 : ∀ env x, foldedSetIterable iter1 env x = pure x := by intro _ _; rfl) :
    PE X (dc2 kx vx tg iter ifs tg1 iter1 ifs1 scope pos) (tDs2 X.prog X.w wi g tt wi1 g1 tt1 tk tv (own.map (·.2)) vs1) := by
  refine ⟨fun pins s σ H Q I h => ?_⟩
  rw [arm_eval_DictComp]
  refine ds2_core hu hc hN I hi ok hv hg ht hk he hs hi1 hg1 ht1 hs1 h fun D C s' m H' Iz q hn f => ⟨m, hn, fun h'' sb => ?_⟩
  obtain ⟨f0, f1, f2, f3, f4, f5⟩ := f
  exact ⟨.ref D, H', Iz.turned (t' := s'.toks) (fun b o hb eb => (sb.2 b hb).trans eb) f0 f1 f3 f4 f5, rfl, q⟩
end
end DL

/-! ## DDc3 -/
set_option Elab.async false
set_option autoImplicit false
set_option linter.all false
set_option maxRecDepth 100000
set_option maxHeartbeats 4000000
/-! DDc3: {k: True for a in xs for b in ys}, by plain data. -/
namespace DL
open PySem PySem.Spec PyProof.Rows L2
def keyOf? : D → Option (Int ⊕ Str)
  | .int i => some (.inl i)
  | .str x => some (.inr x)
  | _ => none
def keysOf? : List D → Option (List (Int ⊕ Str))
  | [] => some []
  | d :: r => match keyOf? d, keysOf? r with
    | some k, some ks => some (k :: ks)
    | _, _ => none
def tupOf? : D → Option (List (Int ⊕ Str))
  | .tup xs => keysOf? xs
  | _ => none
def tupK (d : D) : List (Int ⊕ Str) := (tupOf? d).getD []
def allTup (ys : List D) : Bool := ys.all fun y => (tupOf? y).isSome
def dsetOf (ys : List D) : List (List (Int ⊕ Str)) := (ys.map tupK).foldl ksPut []
def eDs2 (vs vs1 : List Nat) (g : G) (src : Es) (tt : E) (g1 : G) (src1 : Es) (tt1 tk : E) : E := fun δ => src δ >>= fun xs =>
  lc2Go g tt (fun δ' => src1 δ' >>= fun zs => lcGo g1 tt1 tk (wipeD δ' vs1) zs) (wipeD δ vs) xs >>= fun ys => if allTup ys = true ∧ lim ys.length = true then pure (.dset (dsetOf ys)) else stuck
theorem keys_rep {c : C} {F : Hp} : ∀ {ds : List D} {vs : List V} {ks : List (Int ⊕ Str)}, keysOf? ds = some ks → RepAll c F vs ds → vs = ks.map kV
  | [], _, _, h, r => by cases h; cases r; rfl
  | d :: ds, _, _, h, r => by
    cases r with
    | cons r1 r2 =>
      unfold keysOf? at h
      split at h
      · rename_i k ks h1 h2
        cases h
        rw [List.map_cons, keys_rep h2 r2]
        congr 1
        cases d <;> first | (cases h1; done) | (cases h1; cases r1; rfl)
      · cases h
theorem tup_rep {c : C} {F : Hp} {d : D} {v : V} (h : (tupOf? d).isSome = true) (r : Rep c F v d) : ∃ b, v = .ref b ∧ F b = some (.tup ((tupK d).map kV)) := by
  obtain ⟨ks, hk⟩ := Option.isSome_iff_exists.mp h
  have e : tupK d = ks := by unfold tupK; rw [hk]; rfl
  cases d <;> first | (cases hk; done) | skip
  rename_i xs
  cases r with
  | tup ea ra =>
    refine ⟨_, rfl, ?_⟩
    rw [e, ← keys_rep hk ra]
    exact ea
/-- the dict holds what has been made -/
structure SetOk (F : Hp) (xs : List (List L2.Key × Addr)) (ys : List D) : Prop where
  eq : xs.map (·.1) = dsetOf ys
  at' : ∀ x ∈ xs, F x.2 = some (.tup (x.1.map kV))
  le : xs.length ≤ ys.length
theorem SetOk.up {F F' : Hp} {xs : List (List L2.Key × Addr)} {ys : List D} (h : SetOk F xs ys) (s : Same F F') : SetOk F' xs ys := ⟨h.eq, fun x hx => s _ _ (h.at' x hx), h.le⟩
theorem SetOk.put {F : Hp} {xs : List (List L2.Key × Addr)} {ys : List D} {y : D} {b : Addr} (h : SetOk F xs ys) (eb : F b = some (.tup ((tupK y).map kV))) : SetOk F (putX xs (tupK y) b) (ys ++ [y]) := by
  refine ⟨?_, fun x hx => ?_, ?_⟩
  · rw [putX_keys, h.eq]
    unfold dsetOf
    rw [List.map_append, List.foldl_append]
    rfl
  · unfold putX at hx
    split at hx
    · exact h.at' x hx
    · rcases List.mem_append.mp hx with hx | hx
      · exact h.at' x hx
      · rw [List.mem_singleton] at hx
        subst hx
        exact eb
  · unfold putX
    have := h.le
    split
    · rw [List.length_append]; omega
    · rw [List.length_append, List.length_append]; simp; exact this
section
variable {c : C}
/-- one loop of the comprehension: it fills the dict at L -/
theorem ds_loop {J : It} {bs : List Addr} {F1 H1 : Hp} {ds : List D} {gd : G} {is : List Nat} {ft fe : E} {vs : List Nat} {H0 : Hp} {σ : L2.St} {δ : Dlt} {g1 g2 : Gs} {L : Addr} {xs0 : List (List L2.Key × Addr)} {ys0 ys : List D} {Nx : Hp → Prop}
    (his : ∀ i ∈ is, i ∈ vs) (wk : WalkD c J bs F1 H1 ds) (hbL : ∀ b ∈ bs, b ≠ L) (w : Wd c H0 F1 H1 σ δ g1) (nd : ∀ (i : Nat) (xs : List D), δ[i]? = some (Sl.own xs) → σ[i]? ≠ some (some (V.ref L))) (nga : c.ga ≠ some L)
    (hL : H1 L = some (dsO c.prog c.w L xs0)) (hF : F1 L = none) (hbo : c.bo L = none) (r0 : SetOk F1 xs0 ys0) (hz : ys0.length + ys.length ≤ sizeLine) (hat : allTup ys = true) (ok : Ok (lcGo gd ft fe (wipeD δ vs) ds) g1 ys g2)
    (fin : ∀ F' H' xs, StpX c L F1 H1 F' H' g2 → H' L = some (dsO c.prog c.w L xs) → SetOk F' xs (ys0 ++ ys) → Nx H') :
    ∃ W : Nat → Nat → Hp → Prop, (∃ m, W 0 m H1) ∧ ∀ i m H, W i m H →
      (J.stop i H ∧ Nx H) ∨ (J.go i H ∧ ∃ N1 : Hp → Prop, (∀ H', N1 H' → ∃ m', m' < m ∧ W (i + 1) m' H') ∧ ∀ x H', J.yld i H x H' → gD c gd is x (wipe σ vs) H' fun σ2 H2 => wipe σ2 vs = wipe σ vs ∧ tT c ft σ2 H2 fun b H3 =>
        if b = true then tP c fe σ2 H3 fun y H4 => tP c (eK (.bl true)) σ2 H4 fun z H5 => ∃ xs kk b, y = .ref b ∧ z = .bl true ∧ H5 L = some (dsO c.prog c.w L xs) ∧ (∀ x ∈ xs, H5 x.2 = some (.tup (x.1.map kV))) ∧ H5 b = some (.tup (kk.map kV)) ∧ xs.length < sizeLine ∧ N1 (upd H5 L (dsO c.prog c.w L (putX xs kk b))) else N1 H3) := by
  let Pv : Nat → Hp → Prop := fun i H' => ∃ F' g' us ys1 ys2, StpX c L F1 H1 F' H' g' ∧ H' L = some (dsO c.prog c.w L us) ∧ SetOk F' us (ys0 ++ ys1) ∧ Ok (lcGo gd ft fe (wipeD δ vs) (ds.drop i)) g' ys2 g2 ∧ ys = ys1 ++ ys2
  refine ⟨fun i m H => m = ds.length - i ∧ i ≤ ds.length ∧ Pv i H, ⟨ds.length, by simp, Nat.zero_le _, F1, g1, xs0, [], ys, .refl w.le w.gen hF hbo, hL, by simpa using r0, ok, rfl⟩, ?_⟩
  rintro i m H ⟨rfl, hi, F', g', us, ys1, ys2, sx, eL, ra, ok', rfl⟩
  have keepb : ∀ b ∈ bs, H b = H1 b := fun b hb => by
    obtain ⟨k1, k2⟩ := wk.bk b hb
    cases e : H1 b with
    | none => exact absurd e k1
    | some o => exact sx.ext b o (hbL b hb) k2 e
  by_cases hlt : i < ds.length
  · refine .inr ⟨wk.goes i F' H hlt sx.sub sx.le keepb sx.gen.bo, Pv (i + 1), fun H' p' => ⟨ds.length - (i + 1), by omega, rfl, hlt, p'⟩, fun x H' hy => ?_⟩
    obtain ⟨F2, d, hd, st, rx⟩ := wk.yields i F' H g' x H' hlt sx.sub sx.le keepb sx.gen hy
    rw [List.drop_eq_getElem_cons hlt] at ok'
    rw [List.getElem?_eq_getElem hlt] at hd
    cases hd
    unfold lcGo at ok'
    obtain ⟨δ', g'', ok1, ok2⟩ := ok_bind.mp ok'
    have hgd : gd ds[i] (wipeD δ vs) = some δ' ∧ g' = g'' := by
      unfold liftG at ok1
      split at ok1
      · rename_i e
        obtain ⟨rfl, rfl⟩ := ok_pure.mp ok1
        exact ⟨e, rfl⟩
      · exact absurd ok1 not_ok_stuck
    obtain ⟨hgd, rfl⟩ := hgd
    obtain ⟨b, g3, ok3, ok4⟩ := ok_bind.mp ok2
    have w2 : Wd c H0 F2 H' (wipe σ vs) (wipeD δ vs) g' := ((w.wipe vs).stepX (fun j xs hj => by
      obtain ⟨a1, a2⟩ := wipe_own w.len hj
      rw [a2]
      exact nd j xs a1) sx).step st
    have eL' : H' L = some (dsO c.prog c.w L us) := st.ext _ _ nga eL
    refine ⟨H0, F2, wipeD δ vs, g', ds[i], δ', w2, rx, hgd, fun σ' w3 k l => ⟨by rw [k vs his, wipe_wipe], ?_⟩⟩
    have sx2 : StpX c L F1 H1 F2 H' g' := sx.andThen st (by rw [eL]; simp)
    cases b with
    | bl b =>
      refine ⟨H0, F2, δ', g', b, g3, w3, ok3, fun F3 H3 s3 => ?_⟩
      have eL3 : H3 L = some (dsO c.prog c.w L us) := s3.ext _ _ nga eL'
      cases b with
      | true =>
        obtain ⟨y, g4, ok5, ok6⟩ := ok_bind.mp ok4
        obtain ⟨rest, g5, ok7, ok8⟩ := ok_bind.mp ok6
        obtain ⟨rfl, rfl⟩ := ok_pure.mp ok8
        refine iteT ⟨H0, F3, δ', g3, y, g4, w3.step s3, ok5, fun v F4 H4 s4 r4 => ?_⟩
        have eL4 : H4 L = some (dsO c.prog c.w L us) := s4.ext _ _ nga eL3
        refine ⟨H0, F4, δ', g4, .bl true, g4, (w3.step s3).step s4, ok_pure.mpr ⟨rfl, rfl⟩, fun z F5 H5 s5 r5 => ?_⟩
        cases r5
        have eL5 : H5 L = some (dsO c.prog c.w L us) := s5.ext _ _ nga eL4
        have hy : (tupOf? y).isSome = true := List.all_eq_true.mp hat y (by simp)
        obtain ⟨bb, rfl, eb⟩ := tup_rep hy (r4.up s5.sub)
        have lus := ra.le
        have ra5 : SetOk F5 us (ys0 ++ ys1) := (((ra.up st.sub).up s3.sub).up s4.sub).up s5.sub
        simp only [List.length_append, List.length_cons] at hz lus
        refine ⟨us, tupK y, bb, rfl, rfl, eL5, fun x hx => s5.le _ _ (ra5.at' x hx), s5.le _ _ eb, by omega, F5, g4, putX us (tupK y) bb, ys1 ++ [y], rest, ?_, upd_same, ?_, ok7, by simp⟩
        · exact (((sx2.andThen s3 (by rw [eL']; simp)).andThen s4 (by rw [eL3]; simp)).andThen s5 (by rw [eL4]; simp)).put nga
        · rw [← List.append_assoc]
          exact ra5.put eb
      | false =>
        refine iteF ?_
        exact ⟨F3, g3, us, ys1, ys2, sx2.andThen s3 (by rw [eL']; simp), eL3, (ra.up st.sub).up s3.sub, ok4, rfl⟩
    | _ => exact absurd ok4 not_ok_stuck
  · have e : i = ds.length := by omega
    subst e
    rw [List.drop_length] at ok'
    obtain ⟨rfl, rfl⟩ := ok_pure.mp ok'
    refine .inl ⟨wk.stops F' H sx.sub sx.le keepb sx.gen.bo, fin F' H us sx eL ?_⟩
    simpa using ra
theorem ds2_imp {src src1 : Es} {gd gd1 : G} {is is1 : List Nat} {ft ft1 fe : E} {vs vs1 : List Nat} (his : ∀ i ∈ is, i ∈ vs) (his1 : ∀ i ∈ is1, i ∈ vs1) :
    ∀ σ H Q, tP c (eDs2 vs vs1 gd src ft gd1 src1 ft1 fe) σ H Q → tDs2 c.prog c.w (iB c src) (gD c gd is) (tT c ft) (iD c src1) (gD c gd1 is1) (tT c ft1) (tP c fe) (tP c (eK (.bl true))) vs vs1 σ H Q := fun σ H Q ⟨H0, F, δ, g, d, g', w, o, q⟩ => by
  obtain ⟨ds, g1, o1, o⟩ := ok_bind.mp o
  obtain ⟨ys, g2, o2, o⟩ := ok_bind.mp o
  split at o
  · rename_i hl
    obtain ⟨hat, hl⟩ := hl
    obtain ⟨rfl, rfl⟩ := ok_pure.mp o
    refine ⟨H0, F, δ, g, ds, g1, w, o1, fun J bs F1 H1 s1 wk L hL => ?_⟩
    have nga : c.ga ≠ some L := fun e => by
      obtain ⟨_, q2⟩ := s1.gen.gen L e
      rw [hL] at q2; cases q2
    have hbo : c.bo L = none := by
      cases e : c.bo L with
      | none => rfl
      | some u => rw [s1.gen.bo L u e] at hL; cases hL
    have st0 := Stp.tmp (o := dsO c.prog c.w L []) s1.le s1.gen hL
    have w1 := (w.step s1)
    have hbL : ∀ b ∈ bs, b ≠ L := fun b hb z => (wk.bk b hb).1 (by rw [z]; exact hL)
    have fL : F1 L = none := by
      cases e : F1 L with
      | none => rfl
      | some u => rw [s1.le L u e] at hL; cases hL
    have nd : ∀ (i : Nat) (xs : List D), δ[i]? = some (Sl.own xs) → σ[i]? ≠ some (some (V.ref L)) := fun i xs e => by
      obtain ⟨a, _, e1, e2, _⟩ := w1.own i xs e
      rw [e1]
      intro z
      cases z
      rw [hL] at e2; cases e2
    let Pv : Nat → Hp → Prop := fun i H' => ∃ F' g' us ys1 ys2, StpX c L F1 (upd H1 L (dsO c.prog c.w L [])) F' H' g' ∧ H' L = some (dsO c.prog c.w L us) ∧ SetOk F' us ys1 ∧
      Ok (lc2Go gd ft (fun δ' => src1 δ' >>= fun zs => lcGo gd1 ft1 fe (wipeD δ' vs1) zs) (wipeD δ vs) (ds.drop i)) g' ys2 g2 ∧ ys = ys1 ++ ys2
    refine ⟨fun i m H => m = ds.length - i ∧ i ≤ ds.length ∧ Pv i H, ⟨ds.length, by simp, Nat.zero_le _, F1, g1, [], [], ys, .refl st0.le st0.gen fL hbo, upd_same, ⟨rfl, fun x hx => (by cases hx), Nat.le_refl _⟩, o2, rfl⟩, ?_⟩
    rintro i m H ⟨rfl, hi, F', g', us, ys1, ys2, sx, eL, ra, ok', rfl⟩
    have keepb : ∀ b ∈ bs, H b = H1 b := fun b hb => by
      obtain ⟨k1, k2⟩ := wk.bk b hb
      cases e : H1 b with
      | none => exact absurd e k1
      | some o => exact sx.ext b o (hbL b hb) k2 (by rw [upd_ne (hbL b hb)]; exact e)
    by_cases hlt : i < ds.length
    · refine .inr ⟨wk.goes i F' H hlt sx.sub sx.le keepb sx.gen.bo, Pv (i + 1), fun H' p' => ⟨ds.length - (i + 1), by omega, rfl, hlt, p'⟩, fun x H' hy => ?_⟩
      obtain ⟨F2, d, hd, st, rx⟩ := wk.yields i F' H g' x H' hlt sx.sub sx.le keepb sx.gen hy
      rw [List.drop_eq_getElem_cons hlt] at ok'
      rw [List.getElem?_eq_getElem hlt] at hd
      cases hd
      unfold lc2Go at ok'
      obtain ⟨δ', g'', ok1, ok2⟩ := ok_bind.mp ok'
      have hgd : gd ds[i] (wipeD δ vs) = some δ' ∧ g' = g'' := by
        unfold liftG at ok1
        split at ok1
        · rename_i e
          obtain ⟨rfl, rfl⟩ := ok_pure.mp ok1
          exact ⟨e, rfl⟩
        · exact absurd ok1 not_ok_stuck
      obtain ⟨hgd, rfl⟩ := hgd
      obtain ⟨b, g3, ok3, ok4⟩ := ok_bind.mp ok2
      have w2 : Wd c H0 F2 H' (wipe σ vs) (wipeD δ vs) g' := (((w1.step st0).wipe vs).stepX (fun j xs hj => by
        obtain ⟨a1, a2⟩ := wipe_own w.len hj
        rw [a2]
        exact nd j xs a1) sx).step st
      have eL' : H' L = some (dsO c.prog c.w L us) := st.ext _ _ nga eL
      refine ⟨H0, F2, wipeD δ vs, g', ds[i], δ', w2, rx, hgd, fun σ' w3 k l => ⟨by rw [k vs his, wipe_wipe], ?_⟩⟩
      have sx2 : StpX c L F1 (upd H1 L (dsO c.prog c.w L [])) F2 H' g' := sx.andThen st (by rw [eL]; simp)
      have nd3 : ∀ (j : Nat) (xs : List D), δ'[j]? = some (Sl.own xs) → σ'[j]? ≠ some (some (V.ref L)) := fun j xs hj => by
        obtain ⟨a1, a2⟩ := l j xs hj
        rw [a2]
        obtain ⟨b1, b2⟩ := wipe_own w.len a1
        rw [b2]
        exact nd j xs b1
      cases b with
      | bl b =>
        refine ⟨H0, F2, δ', g', b, g3, w3, ok3, fun F3 H3 s3 => ?_⟩
        have eL3 : H3 L = some (dsO c.prog c.w L us) := s3.ext _ _ nga eL'
        cases b with
        | true =>
          obtain ⟨zs, g4, ok5, ok6⟩ := ok_bind.mp ok4
          obtain ⟨rest, g5, ok7, ok8⟩ := ok_bind.mp ok6
          obtain ⟨rfl, rfl⟩ := ok_pure.mp ok8
          obtain ⟨es, g6, ok9, ok10⟩ := ok_bind.mp ok5
          refine iteT ⟨H0, F3, δ', g3, es, g6, w3.step s3, ok9, fun J1 F4 H4 s4 wk1 => ?_⟩
          have eL4 : H4 L = some (dsO c.prog c.w L us) := s4.ext _ _ nga eL3
          have lus := ra.le
          have hz := lim_le hl
          simp only [List.length_append] at hz
          have hat1 : allTup zs = true := by
            unfold allTup at hat ⊢
            rw [List.all_append, List.all_append, Bool.and_eq_true, Bool.and_eq_true] at hat
            exact hat.2.1
          have sx4 : StpX c L F1 (upd H1 L (dsO c.prog c.w L [])) F4 H4 g6 := (sx2.andThen s3 (by rw [eL']; simp)).andThen s4 (by rw [eL3]; simp)
          refine ds_loop his1 wk1 (fun _ z => nomatch z) ((w3.step s3).step s4) nd3 nga eL4 sx4.fd hbo (((ra.up st.sub).up s3.sub).up s4.sub) (by omega) hat1 ok10 fun F5 H5 us5 sx5 eL5 ra5 => ?_
          exact ⟨F5, g4, us5, ys1 ++ zs, rest, sx4.trans sx5 (by rw [upd_same]; simp) (by rw [eL4]; simp), eL5, ra5, ok7, by simp⟩
        | false =>
          refine iteF ?_
          exact ⟨F3, g3, us, ys1, ys2, sx2.andThen s3 (by rw [eL']; simp), eL3, (ra.up st.sub).up s3.sub, ok4, rfl⟩
      | _ => exact absurd ok4 not_ok_stuck
    · have e : i = ds.length := by omega
      subst e
      rw [List.drop_length] at ok'
      obtain ⟨rfl, rfl⟩ := ok_pure.mp ok'
      refine .inl ⟨wk.stops F' H sx.sub sx.le keepb sx.gen.bo, ?_⟩
      have fin := sx.close hL nga eL
      rw [List.append_nil] at q
      exact q _ _ _ (s1.trans fin) (.dset upd_same (fun x hx => by rw [upd_ne (ne_of_none (ra.at' x hx) sx.fd)]; exact ra.at' x hx) ra.eq.symm)
  · exact absurd o not_ok_stuck
section
variable {X : Cx} {kx tg iter tg1 iter1 : Expr} {ifs ifs1 : List Expr} {scope : Scope} {own : List (Str × Nat)} {vs1 : List Nat} {pos p1 : Pos} {src src1 : Es} {gd gd1 : G} {is is1 : List Nat} {ft ft1 fe : E} {ga : Option Addr} {bo : Hp} {sj : Nat}
/-- {k: True for tg in iter if .. for tg1 in iter1 if ..} -/
theorem d_ds2 (vs1 : List Nat) (hu : X.A.units < cLine) (hc : X.calm = true) (hN : X.N.Nodup) (ok : BlkOk X.N X.env.scope scope own) (hi : PI X tg iter (iB ⟨X.K, X.mg, ga, bo, X.prog, X.w⟩ src)) (hg : ∀ (s : Shared) (H : Hp) (C : Addr) (cl : List (Str × Addr)) (fp : List Addr), PG (X.blk s H scope (compEnvC scope cl C X.env) fp) tg (gD ⟨X.K, X.mg, ga, bo, X.prog, X.w⟩ gd is))
    (ht : ∀ (s : Shared) (H : Hp) (C : Addr) (cl : List (Str × Addr)) (fp : List Addr), PTs (X.blk s H scope (compEnvC scope cl C X.env) fp) ifs (tT ⟨X.K, X.mg, ga, bo, X.prog, X.w⟩ ft))
    (hi1 : ∀ (s : Shared) (H : Hp) (C : Addr) (cl : List (Str × Addr)) (fp : List Addr), PI (X.blk s H scope (compEnvC scope cl C X.env) fp) tg1 iter1 (iD ⟨X.K, X.mg, ga, bo, X.prog, X.w⟩ src1))
    (hg1 : ∀ (s : Shared) (H : Hp) (C : Addr) (cl : List (Str × Addr)) (fp : List Addr), PG (X.blk s H scope (compEnvC scope cl C X.env) fp) tg1 (gD ⟨X.K, X.mg, ga, bo, X.prog, X.w⟩ gd1 is1)) (ht1 : ∀ (s : Shared) (H : Hp) (C : Addr) (cl : List (Str × Addr)) (fp : List Addr), PTs (X.blk s H scope (compEnvC scope cl C X.env) fp) ifs1 (tT ⟨X.K, X.mg, ga, bo, X.prog, X.w⟩ ft1))
    (hk : ∀ (s : Shared) (H : Hp) (C : Addr) (cl : List (Str × Addr)) (fp : List Addr), PE (X.blk s H scope (compEnvC scope cl C X.env) fp) kx (tP ⟨X.K, X.mg, ga, bo, X.prog, X.w⟩ fe))
    (his : ∀ i ∈ is, i ∈ own.map (·.2) := by decide) (his1 : ∀ i ∈ is1, i ∈ vs1 := by decide) (hv : ∀ i ∈ vs1, i ∈ own.map (·.2) := by decide) (hs : ∀ x, foldedSetIterable iter X.env x = pure x := by intro _; rfl) (hs1 : ∀ env x, foldedSetIterable iter1 env x = pure x := by intro _ _; rfl) :
    PE X (.DictComp kx (.Constant (.bool true) sj p1) [⟨tg, iter, ifs, 0⟩, ⟨tg1, iter1, ifs1, 0⟩] scope pos) (tP ⟨X.K, X.mg, ga, bo, X.prog, X.w⟩ (eDs2 (own.map (·.2)) vs1 gd src ft gd1 src1 ft1 fe)) :=
  (pe_ds2 hu hc hN hi ok hv hg ht hk (fun _ _ _ _ _ => d_bl) hi1 hg1 ht1 hs hs1).imp (ds2_imp his his1)
end
end
end DL

/-! ## DStr -/
set_option Elab.async false
set_option autoImplicit false
set_option linter.all false
set_option maxRecDepth 100000
set_option maxHeartbeats 4000000
/-! DStr: texts: their signs, a sign in a text, a text's item, isalnum, isalpha, lower; a < b <= c; a text of the module by its name. -/
namespace DL
open PySem PySem.Spec PyProof.Rows L2
/-! ### by plain data -/
def sgn (n : Nat) : D := .str ⟨#[n]⟩
def signsOf (x : Str) : List D := x.cps.toList.map sgn
def xS (a : E) : Es := fun δ => a δ >>= fun x => match x with
  | .str y => pure (signsOf y)
  | _ => stuck
def inStr (x z : Str) : Option Bool := match x.cps.toList with
  | [n] => some (decide (n ∈ z.cps.toList))
  | _ => none
def dInX (x d : D) : M D := match x, d with
  | .str x, .str z => liftB (inStr x z)
  | x, d => dIn x d
def dNotInX (x d : D) : M D := match x, d with
  | .str x, .str z => liftB ((inStr x z).map (!·))
  | x, d => dNotIn x d
def signAt (z : Str) (i : Int) : Option Nat := if 0 ≤ i ∧ i < 2 ^ 63 then z.cps[i.toNat]? else none
def dIxS (x y : D) : M D := match x, y with
  | .str z, .int i => match signAt z i with
    | some n => pure (sgn n)
    | none => stuck
  | _, _ => stuck
def dAlnum (d : D) : M D := match d with
  | .str x => pure (.bl (Txt.isalnum x))
  | _ => stuck
def dAlpha (d : D) : M D := match d with
  | .str x => pure (.bl (Txt.isalpha x))
  | _ => stuck
def dLower (d : D) : M D := match d with
  | .str x => if x.length ≤ 5592405 then pure (.str (Txt.lower x)) else stuck
  | _ => stuck
def eChain (o o' : D → D → M D) (a b e : E) : E := fun δ => a δ >>= fun x => b δ >>= fun y => o x y >>= fun r => match r with
  | .bl true => e δ >>= fun z => o' y z
  | .bl false => pure (.bl false)
  | _ => stuck
section
variable {X : Cx} {c : C} {tg a b e : Expr} {fa fb f fe : E} {pos : Pos} {x : Str}
/-- a text of the module, by its name -/
theorem d_gcs {y : Str} (h : ∃ t, X.mg x = some (.str y t)) (hg : Gl X x := by rfl) (hd : (x == ("__debug__" : Str)) = false := by decide) : PE X (.Name x pos) (tP c (eK (.str y))) := by
  obtain ⟨t, h⟩ := h
  refine (C8.pe_gc (v := .str y) hg ⟨_, h, ⟨t, rfl⟩⟩ hd).imp fun σ H Q ⟨H0, F, δ, g, d, g', w, o, q⟩ => ?_
  obtain ⟨rfl, rfl⟩ := ok_pure.mp o
  exact q _ F H (.refl w.le w.gen) (.str y)
theorem d_gci {y : Int} (h : ∃ t, X.mg x = some (.int y t)) (hg : Gl X x := by rfl) (hd : (x == ("__debug__" : Str)) = false := by decide) : PE X (.Name x pos) (tP c (eK (.int y))) := by
  obtain ⟨t, h⟩ := h
  refine (C8.pe_gc (v := .int y) hg ⟨_, h, ⟨t, rfl⟩⟩ hd).imp fun σ H Q ⟨H0, F, δ, g, d, g', w, o, q⟩ => ?_
  obtain ⟨rfl, rfl⟩ := ok_pure.mp o
  exact q _ F H (.refl w.le w.gen) (.int y)
theorem hu0 {k : Nat} {A : Around} (r : Room k A) : A.units < cLine := by have := r.un; omega
/-- for s in text -/
theorem di_str (h : PE X e (tR c f)) : PI X tg e (iD c (xS f)) := (pi_str h).imp fun σ H R ⟨H0, F, δ, g, ds, g', w, o, q⟩ => by
  obtain ⟨x, g1, o1, o⟩ := ok_bind.mp o
  split at o
  · rename_i y
    obtain ⟨rfl, rfl⟩ := ok_pure.mp o
    refine ⟨H0, F, δ, g, _, g1, w, o1, fun v F1 H1 s1 r1 => ?_⟩
    have r1 := r1.rep rfl
    cases r1
    have len : (signsOf y).length = y.cps.size := by simp [signsOf]
    refine ⟨y, rfl, q _ F1 H1 s1 ⟨fun _ z => (nomatch z), fun i F2 H2 hi _ _ _ _ => (by rw [len] at hi; exact hi), fun F2 H2 _ _ _ _ => (by rw [len]; exact Nat.le_refl _), fun i F2 H2 g x H3 hi t1 t2 _ gen hy => ?_⟩⟩
    obtain ⟨rfl, n, hn, rfl⟩ := hy
    refine ⟨F2, sgn n, ?_, .refl t2 gen, .str _⟩
    unfold signsOf
    rw [List.getElem?_map, Array.getElem?_toList, hn]
    rfl
  · exact absurd o not_ok_stuck
theorem one_sign {x : Str} {n : Nat} (h : x.cps.toList = [n]) : x = ⟨#[n]⟩ := TL.ext_tl h
theorem inX_d (hu : X.A.units + 65 < cLine) : OpR X (compareOp .In) (oD c dInX) := by
  intro pins s σ H x y v u Q I rx ry h
  have h2 := h
  obtain ⟨F, d, e, d', g, g', le, gen, r1, r2, o, q⟩ := h
  unfold dInX at o
  split at o
  · rename_i x z
    have r1 := r1.rep rfl
    have r2 := r2.rep rfl
    cases r1; cases r2
    unfold inStr at o
    split at o
    · rename_i n hn
      obtain ⟨rfl, rfl⟩ := ok_pure.mp o
      cases (one_sign hn)
      exact op_in_sign pins s σ H _ _ v u Q I rx ry ⟨n, z, rfl, rfl, q _ F H (.refl le gen) (.bl _)⟩
    · exact absurd o not_ok_stuck
  · exact in_d hu pins s σ H x y v u Q I rx ry ⟨F, d, e, d', g, g', le, gen, r1, r2, o, q⟩
theorem notInX_d (hu : X.A.units + 65 < cLine) : OpR X (compareOp .NotIn) (oD c dNotInX) := by
  intro pins s σ H x y v u Q I rx ry h
  have h2 := h
  obtain ⟨F, d, e, d', g, g', le, gen, r1, r2, o, q⟩ := h
  unfold dNotInX at o
  split at o
  · rename_i x z
    have r1 := r1.rep rfl
    have r2 := r2.rep rfl
    cases r1; cases r2
    unfold inStr at o
    split at o
    · rename_i n hn
      obtain ⟨rfl, rfl⟩ := ok_pure.mp o
      cases (one_sign hn)
      exact op_notIn_sign pins s σ H _ _ v u Q I rx ry ⟨n, z, rfl, rfl, q _ F H (.refl le gen) (.bl _)⟩
    · exact absurd o not_ok_stuck
  · exact notIn_d hu pins s σ H x y v u Q I rx ry ⟨F, d, e, d', g, g', le, gen, r1, r2, o, q⟩
theorem signAt_ok {z : Str} {i : Int} {n : Nat} (h : signAt z i = some n) : 0 ≤ i ∧ i < 2 ^ 63 ∧ i < z.length ∧ z.cps[i.toNat]? = some n := by
  unfold signAt at h
  split at h
  · rename_i hi
    have lt := (Array.getElem?_eq_some_iff.mp h).1
    have len : z.length = z.cps.size := rfl
    exact ⟨hi.1, hi.2, by omega, h⟩
  · cases h
/-- text[i] -/
theorem d_ixs (ha : PE X a (tR c fa)) (hb : PE X b (tR c fb)) (hs : PlainIxT b := by exact fun _ _ => rfl) : PE X (.Subscript a b pos) (tP c (eO dIxS fa fb)) := (pe_item_str ha hb hs).imp fun σ H Q ⟨H0, F, δ, g, d, g', w, o, q⟩ => by
  obtain ⟨x, g1, o1, o⟩ := ok_bind.mp o
  obtain ⟨y, g2, o2, o⟩ := ok_bind.mp o
  refine ⟨H0, F, δ, g, _, g1, w, o1, fun v F1 H1 s1 r1 => ⟨H0, F1, δ, g1, _, g2, w.step s1, o2, fun u F2 H2 s2 r2 => ?_⟩⟩
  unfold dIxS at o
  split at o
  · rename_i z i
    split at o
    · rename_i n hn
      obtain ⟨rfl, rfl⟩ := ok_pure.mp o
      have r1 := r1.rep rfl
      have r2 := r2.rep rfl
      cases r1; cases r2
      obtain ⟨h1, h2, h3, h4⟩ := signAt_ok hn
      exact ⟨_, _, n, rfl, rfl, h1, h2, h3, h4, q _ F2 H2 (s1.trans s2) (.str _)⟩
    · exact absurd o not_ok_stuck
  · exact absurd o not_ok_stuck
/-- text.isalnum() -/
theorem d_alnum {apos : Pos} (h : PE X e (tR c f)) (hbase : attributeBase e "isalnum" X.env (eval e X.env) = eval e X.env := by rfl) (hline : (apos.endLine == pos.line) = true := by rfl) : PE X (.Call (.Attribute e "isalnum" apos) [] [] pos) (tP c (eF dAlnum f)) :=
  (pe_m0 PySem.F.slot_str_isalnum PySem.F.type_str_isalnum mt_isalnum h hbase hline).imp fun σ H Q ⟨H0, F, δ, g, d, g', w, o, q⟩ => by
    obtain ⟨x, g1, o1, o⟩ := ok_bind.mp o
    unfold dAlnum at o
    split at o
    · obtain ⟨rfl, rfl⟩ := ok_pure.mp o
      refine ⟨H0, F, δ, g, _, g1, w, o1, fun v F1 H1 s1 r1 => ?_⟩
      have r1 := r1.rep rfl
      cases r1
      exact ⟨⟨_, rfl⟩, _, rfl, rfl, trivial, q _ F1 H1 s1 (.bl _)⟩
    · exact absurd o not_ok_stuck
theorem d_alpha {apos : Pos} (h : PE X e (tR c f)) (hbase : attributeBase e "isalpha" X.env (eval e X.env) = eval e X.env := by rfl) (hline : (apos.endLine == pos.line) = true := by rfl) : PE X (.Call (.Attribute e "isalpha" apos) [] [] pos) (tP c (eF dAlpha f)) :=
  (pe_m0 PySem.F.slot_str_isalpha PySem.F.type_str_isalpha mt_isalpha h hbase hline).imp fun σ H Q ⟨H0, F, δ, g, d, g', w, o, q⟩ => by
    obtain ⟨x, g1, o1, o⟩ := ok_bind.mp o
    unfold dAlpha at o
    split at o
    · obtain ⟨rfl, rfl⟩ := ok_pure.mp o
      refine ⟨H0, F, δ, g, _, g1, w, o1, fun v F1 H1 s1 r1 => ?_⟩
      have r1 := r1.rep rfl
      cases r1
      exact ⟨⟨_, rfl⟩, _, rfl, rfl, trivial, q _ F1 H1 s1 (.bl _)⟩
    · exact absurd o not_ok_stuck
theorem d_lower {apos : Pos} (h : PE X e (tR c f)) (hbase : attributeBase e "lower" X.env (eval e X.env) = eval e X.env := by rfl) (hline : (apos.endLine == pos.line) = true := by rfl) : PE X (.Call (.Attribute e "lower" apos) [] [] pos) (tP c (eF dLower f)) :=
  (pe_lower h hbase hline).imp fun σ H Q ⟨H0, F, δ, g, d, g', w, o, q⟩ => by
    obtain ⟨x, g1, o1, o⟩ := ok_bind.mp o
    unfold dLower at o
    split at o
    · split at o
      · rename_i hl
        obtain ⟨rfl, rfl⟩ := ok_pure.mp o
        refine ⟨H0, F, δ, g, _, g1, w, o1, fun v F1 H1 s1 r1 => ?_⟩
        have r1 := r1.rep rfl
        cases r1
        exact ⟨⟨_, rfl⟩, _, rfl, rfl, hl, q _ F1 H1 s1 (.str _)⟩
      · exact absurd o not_ok_stuck
    · exact absurd o not_ok_stuck
/-! ### a < b <= e -/
theorem chain_imp {h h' : D → D → M D} : ∀ σ H Q, tP c (eChain h h' fa fb fe) σ H Q → tChain (oD c h) (oD c h') (tR c fa) (tR c fb) (tR c fe) σ H Q := fun σ H Q ⟨H0, F, δ, g, d, g', w, o, q⟩ => by
  obtain ⟨x, g1, o1, o⟩ := ok_bind.mp o
  obtain ⟨y, g2, o2, o⟩ := ok_bind.mp o
  obtain ⟨r, g3, o3, o⟩ := ok_bind.mp o
  refine ⟨H0, F, δ, g, x, g1, w, o1, fun v F1 H1 s1 r1 => ⟨H0, F1, δ, g1, y, g2, w.step s1, o2, fun u F2 H2 s2 r2 =>
    ⟨F2, x, y, r, g2, g3, s2.le, s2.gen, r1.step s2, r2, o3, fun z F3 H3 s3 r3 => ?_⟩⟩⟩
  split at o
  · cases r3
    refine ⟨true, rfl, ?_⟩
    refine iteT ?_
    obtain ⟨t, g4, o4, o5⟩ := ok_bind.mp o
    exact ⟨H0, F3, δ, g3, t, g4, ((w.step s1).step s2).step s3, o4, fun v4 F4 H4 s4 r4 => ⟨F4, y, t, d, g4, g', s4.le, s4.gen, (r2.step s3).step s4, r4, o5, fun z F5 H5 s5 r5 => q z F5 H5 ((((s1.trans s2).trans s3).trans s4).trans s5) r5⟩⟩
  · cases r3
    obtain ⟨rfl, rfl⟩ := ok_pure.mp o
    refine ⟨false, rfl, ?_⟩
    refine iteF ?_
    exact q _ F3 H3 ((s1.trans s2).trans s3) (.bl false)
  · exact absurd o not_ok_stuck
theorem d_chain {op op' : CmpOp} {h h' : D → D → M D} (ho : OpR X (compareOp op) (oD c h)) (ho' : OpR X (compareOp op') (oD c h')) (ha : PE X a (tR c fa)) (hb : PE X b (tR c fb)) (he : PE X e (tR c fe))
    (hm : lastMarks [op, op'] [b, e] = false := by with_unfolding_all rfl) : PE X (.Compare a [op, op'] [b, e] pos) (tP c (eChain h h' fa fb fe)) := (pe_chain ho ho' ha hb he hm).imp chain_imp
theorem dt_chain {op op' : CmpOp} {h h' : D → D → M D} (ho : OpR X (compareOp op) (oD c h)) (ho' : OpR X (compareOp op') (oD c h')) (ha : PE X a (tR c fa)) (hb : PE X b (tR c fb)) (he : PE X e (tR c fe))
    (hm : lastMarks [op, op'] [b, e] = false := by with_unfolding_all rfl) : PT X (.Compare a [op, op'] [b, e] pos) (tT c (eChain h h' fa fb fe)) := (pt_chain ho ho' ha hb he hm).imp fun σ H Q ⟨H0, F, δ, g, d, g', w, o, q⟩ =>
  chain_imp σ H _ ⟨H0, F, δ, g, .bl d, g', w, o, fun v F' H' s r => by
    cases r
    exact ⟨d, rfl, q F' H' s⟩⟩
end
end DL

/-! ## DSet3 -/
set_option Elab.async false
set_option autoImplicit false
set_option linter.all false
set_option maxRecDepth 100000
set_option maxHeartbeats 4000000
/-! DSet3: set(xs) of a list of texts; len(set(xs)). -/
namespace DL
open PySem PySem.Spec PyProof.Rows L2
/-- each once, the first ones stay -/
def uput {α : Type} [DecidableEq α] (acc : List α) (k : α) : List α := if k ∈ acc then acc else acc ++ [k]
def uniq {α : Type} [DecidableEq α] (l : List α) : List α := l.foldl uput []
theorem uput_mem {α : Type} [DecidableEq α] {acc : List α} {k x : α} : x ∈ uput acc k ↔ x ∈ acc ∨ x = k := by
  unfold uput
  split
  · rename_i h
    constructor
    · exact .inl
    · rintro (h' | rfl)
      · exact h'
      · exact h
  · simp
theorem foldl_uput_mem {α : Type} [DecidableEq α] {x : α} : ∀ (l acc : List α), x ∈ l.foldl uput acc ↔ x ∈ acc ∨ x ∈ l
  | [], acc => by simp
  | k :: l, acc => by
    rw [List.foldl_cons, foldl_uput_mem l, uput_mem, List.mem_cons, or_assoc]
theorem uniq_mem {α : Type} [DecidableEq α] {x : α} {l : List α} : x ∈ uniq l ↔ x ∈ l := by
  unfold uniq
  rw [foldl_uput_mem]
  simp
theorem uniq_snoc {α : Type} [DecidableEq α] (l : List α) (k : α) : uniq (l ++ [k]) = uput (uniq l) k := by
  unfold uniq
  rw [List.foldl_append]
  rfl
theorem uniq_le {α : Type} [DecidableEq α] (l : List α) : (uniq l).length ≤ l.length := by
  have h : ∀ (l acc : List α), (l.foldl uput acc).length ≤ acc.length + l.length := by
    intro l
    induction l with
    | nil => intro acc; simp
    | cons k l ih =>
      intro acc
      have q := ih (uput acc k)
      have z : (uput acc k).length ≤ acc.length + 1 := by
        unfold uput
        split
        · omega
        · simp
      rw [List.foldl_cons, List.length_cons]
      omega
  have q := h l []
  rw [List.length_nil, Nat.zero_add] at q
  exact q
section
variable {P : Program} {w : World} {A : Around} {E : Value → Shared → Prop} {s : Shared}
theorem strs_get {us : List Value} {xs : List Str} (h : StrsAre us xs) (i : Nat) (v : Value) (e : us[i]? = some v) : ∃ k t, xs[i]? = some k ∧ v = .str k t := by
  have len : us.length = xs.length := StrsAre.len_eq h
  have hi : i < xs.length := len ▸ (List.getElem?_eq_some_iff.mp e).1
  obtain ⟨t, e2⟩ := SS.strs_at h i v e
  exact ⟨xs[i], t, List.getElem?_eq_getElem hi, by rw [e2, List.getD_eq_getElem?_getD, List.getElem?_eq_getElem hi]; rfl⟩
theorem set_update_strs {I : Addr} {fp wr : List Addr} {G : Array GenState → Array GenState → Prop} {n : Nat} {Pv : Nat → Value → Prop} {St : Nat → Shared → Prop} {R : Result → Shared → Prop}
    (W : WalksS P w A.in1 I fp wr G n Pv St) (S : Addr) (hSf : S ∉ fp) (ns : List Str) (hn : n = ns.length) (hb : ns.length + 1 < scanBound) (hval : ∀ i v, Pv i v → ∃ k t, ns[i]? = some k ∧ v = .str k t) :
    ∀ (k i : Nat) (s : Shared), n - i = k → i ≤ n → St i s → s.heap.SetOf (strKind P w) S (fun j => decide (j ∈ uniq (ns.take i))) (uniq (ns.take i)).length →
      (∀ s', Moved (S :: wr) G s s' → s'.heap.SetOf (strKind P w) S (fun j => decide (j ∈ uniq ns)) (uniq ns).length → R (.ok (.ret .none)) s') →
      codeAny (model P w) A (.builtin "set.update.loop" ⟨[.ref S, .ref I], []⟩) R s := by
  have hSw : S ∉ wr := fun h => hSf (W.sub _ h)
  have hsub : ∀ b ∈ wr, b ∈ S :: wr := fun b hb => List.mem_cons_of_mem _ hb
  have atS : ∀ {h h' : Heap} {S' : Str → Bool} {n' : Nat}, h.SetOf (strKind P w) S S' n' → (∀ o, h.get? S = some o → h'.get? S = some o) → h'.SetOf (strKind P w) S S' n' := fun hS k => by
    obtain ⟨o, es, ep, t, ho, rest⟩ := hS
    exact ⟨o, es, ep, t, k o ho, rest⟩
  intro k
  induction k with
  | zero =>
    intro i s hk' hi hst hS hR
    have hin : i = n := by omega
    subst hin
    refine codeAny_builtin F.entry_set_update_loop ?_
    rw [Around.under_plainId F.plain_set_update_loop _]
    show wpAny _ A.in1 (pyNext (.ref I) >>= _) _ _ s
    refine wpAny_bind (W.done s _ _ hst fun s' hm => ?_)
    show wpAny _ A.in1 (ret Value.none) _ _ s'
    have e : ns.take i = ns := List.take_of_length_le (by omega)
    rw [e] at hS
    exact wpAny_pure (hR s' (hm.mono hsub) (atS hS fun o e => hm.heap S o hSw e))
  | succ k ih =>
    intro i s hk' hi hst hS hR
    have hlt : i < n := by omega
    refine codeAny_builtin F.entry_set_update_loop ?_
    rw [Around.under_plainId F.plain_set_update_loop _]
    show wpAny _ A.in1 (pyNext (.ref I) >>= _) _ _ s
    refine wpAny_bind (W.item i s _ _ hlt hst fun v s' hP hst' hm => ?_)
    obtain ⟨z, t, hz, rfl⟩ := hval i v hP
    have hS' := atS hS fun o e => hm.heap S o hSw e
    have le := uniq_le (ns.take i)
    have le2 : (ns.take i).length ≤ i := List.length_take_le _ _
    show wpAny _ A.in1 (holding [Value.str z t] (setAdd S (.str z t)) >>= _) _ _ s'
    refine wpAny_bind (wpAny_holding ?_)
    unfold setAdd
    refine wpAny_holding ?_
    refine wpAny_bind ((strKind P w).pyHash (k := z) (strKind_is _ _ _ _) ?_)
    refine wpAny_setAddHashed_of (knd := strKind P w) (s := { s' with toks := s'.toks + 1 }) (strKind_is _ _ _ _) rfl hS' (by omega) fun h' hsb hS2 => ?_
    have tk : ns.take (i + 1) = ns.take i ++ [z] := by rw [List.take_add_one, hz]; rfl
    have hS3 : h'.SetOf (strKind P w) S (fun j => decide (j ∈ uniq (ns.take (i + 1)))) (uniq (ns.take (i + 1))).length := by
      refine SetOf_congr hS2 (fun j => ?_) ?_
      · rw [tk, uniq_snoc]
        by_cases h1 : j ∈ uniq (ns.take i) <;> by_cases h2 : j = z <;> simp [uput_mem, h1, h2]
      · rw [tk, uniq_snoc]
        unfold uput
        by_cases h1 : z ∈ uniq (ns.take i) <;> simp [h1]
    refine wpAny_pure ⟨plainId_quiet F.plain_set_update_loop _, ih (i + 1) _ (by omega) hlt (W.frame _ s' _ _ hst' (Nat.le_succ _) fun b hb o e => ?_) hS3 fun s'' hm'' hS'' => ?_⟩
    · rw [hsb.2 b (fun h : b = S => hSf (by rw [← h]; exact hb))]; exact e
    · refine hR s'' (Moved.trans W.gtrans ((hm.mono hsub).then_heap (Nat.le_succ _) fun b o hb e => ?_) hm'') hS''
      rw [hsb.2 b (fun h : b = S => hb (by rw [h]; exact List.mem_cons_self))]; exact e
/-- the filling of a new set from a list of texts -/
def FilledS (P : Program) (w : World) (s : Shared) (ns : List Str) (s2 : Shared) : Prop := ∃ hp tk, s2 = { s with heap := hp, toks := tk } ∧ hp.SetOf (strKind P w) s.heap.objs.size (fun j => decide (j ∈ uniq ns)) (uniq ns).length ∧ ∀ b o, s.heap.get? b = some o → hp.get? b = some o
theorem fill_listS {l : Addr} {items : Array Value} {ns : List Str} (hh : A.handled = none) (hl : s.heap.IsList l items) (hit : StrsAre items.toList ns) (hb : ns.length + 1 < scanBound) :
    codeAny (model P w) A (.call (.builtin "set.__init__") ⟨[.ref s.heap.objs.size, .ref l], []⟩) (wants (fun r s2 => r = .none ∧ FilledS P w s ns s2) E) { s with heap := s.heap.push (eSet w) } := by
  have atS : (s.heap.push (eSet w)).get? s.heap.objs.size = some (eSet w) := Heap.get?_push_size _ rfl
  have isS : Shared.TypeIs { s with heap := s.heap.push (eSet w) } (.ref s.heap.objs.size) "set" := ⟨_, atS, rfl⟩
  have size : items.size = ns.length := by rw [← Array.length_toList]; exact StrsAre.len_eq hit
  refine codeAny_call_builtin PySem.F.called_set.init.plain PySem.F.entry_set_init (check_set_init_1 isS ?_)
  obtain ⟨ol, hol, hcl, nl, hdl⟩ := hl
  obtain ⟨k1, k2, k3, k4⟩ := ol
  replace hcl : k1 = _ := hcl
  replace hdl : k3 = _ := hdl
  subst hcl hdl
  have inS := Heap.get?_push_of_some (eSet w) hol
  have notSet := PySem.F.sub_list_set
  have notFrozen := PySem.F.sub_list_frozenset
  have notDict : (Value.type "list" == Value.type "dict") = false := by decide
  have isL : (s.heap.push (eSet w)).IsList l items := ⟨_, inS, rfl, nl, rfl⟩
  unfold Builtin.«set.__init__» noKeywords
  unfold Builtin.Frozenset.updateFrom
  generalize hPI : pyIter = itr
  wp_walk
  subst hPI
  refine wpAny_pyIter_list isL (wpAny_bind (wpAny_runValue ?_))
  have lt := Heap.lt_size hol
  have ne1 : l ≠ (s.heap.push (eSet w)).objs.size := by rw [Heap.size_push]; exact Nat.ne_of_lt (Nat.lt_succ_of_lt lt)
  have far : s.heap.objs.size ∉ [(s.heap.push (eSet w)).objs.size, l] := by
    rw [Heap.size_push]
    simp only [List.mem_cons, List.mem_singleton, List.not_mem_nil, or_false, not_or]
    exact ⟨fun z => Nat.lt_irrefl _ (Nat.lt_of_lt_of_eq (Nat.lt_succ_self _) z.symm), fun z => absurd lt (by rw [z]; exact Nat.lt_irrefl _)⟩
  have each : ∀ (i : Nat) (v : Value), items[i]? = some v → ∃ k t, ns[i]? = some k ∧ v = .str k t := fun i v hv => strs_get hit i v (by rw [Array.getElem?_toList]; exact hv)
  have atS2 : ((s.heap.push (eSet w)).push { cls := .type "list_iterator", data := .fields #[.ref l, .int 0 0] }).get? s.heap.objs.size = some (eSet w) := Heap.get?_push_of_some _ atS
  have new : ((s.heap.push (eSet w)).push { cls := .type "list_iterator", data := .fields #[.ref l, .int 0 0] }).SetOf (strKind P w) s.heap.objs.size (fun j => decide (j ∈ uniq (ns.take 0))) (uniq (ns.take 0)).length :=
    ⟨_, #[], 0, _, atS2, ⟨rfl, rfl, rfl⟩, rfl, (fun e he => by simp at he), (fun k => by simp [uniq]), (by decide), (by rfl), rfl⟩
  refine set_update_strs ((Walks.list (show A.in1.in1.handled = none by simp [hh]) _ l ne1 items).toS) s.heap.objs.size far ns size hb each (items.size - 0) 0 _ (by omega) (Nat.zero_le _) ?st ?new ?fin
  case st => exact ⟨⟨_, Heap.get?_push_size _ rfl, rfl, rfl⟩, isL.push _⟩
  case new => exact new
  intro s3 mv R3
  obtain ⟨h3, g3, d3, t3, o3⟩ := s3
  cases (show g3 = s.gens from mv.gens)
  cases (show d3 = s.drawn from mv.drawn)
  cases (show o3 = s.os from mv.os)
  refine wpAny_pure (show wpAny _ _ (ret Value.none) _ _ _ from wpAny_pure ⟨rfl, h3, t3, rfl, R3, fun b o e => ?_⟩)
  have hb0 := Heap.lt_size e
  refine mv.heap b o ?_ (Heap.get?_push_of_some _ (Heap.get?_push_of_some _ e))
  simp only [List.mem_cons, List.mem_singleton, List.not_mem_nil, or_false, not_or, Heap.size_push]
  exact ⟨Nat.ne_of_lt hb0, Nat.ne_of_lt (Nat.lt_succ_of_lt hb0)⟩
set_option maxHeartbeats 8000000 in
theorem set_of_strs {l : Addr} {items : Array Value} {ns : List Str} {Q : Value → Shared → Prop} (hh : A.handled = none) (hl : s.heap.IsList l items) (hit : StrsAre items.toList ns) (hb : ns.length + 1 < scanBound)
    (fin : ∀ s2, FilledS P w s ns s2 → Q (.ref s.heap.objs.size) s2) : wpAny (model P w) A (call (.type "set") [.ref l]) Q E s := by
  obtain ⟨c, tl, hmro⟩ := PySem.F.called_set.mro
  have made := PySem.F.called_set.made
  have self := PySem.F.called_set.sub
  refine wpAny_call (codeAny_of_tree (show wpAny _ _ (callAny (.type "set") _) _ _ _ from wpAny_pure ⟨Code.quiet_builtin _ (by decide +kernel), codeAny_builtin PySem.F.entry_type_call ?_⟩))
  rw [Around.under_plain (weight_type_call_type "set" [.ref l] []) rfl]
  have q1 := PySem.F.called_set.notType
  have q2 := PySem.F.called_set.canCreate
  have q3 := PySem.F.typeCall_set_1 (.ref l)
  repeat (any_goals (first | (assumption; done) | wp_step))
  refine codeAny_mono (code_set_led1 (.ref l) (E := E) (Q₁ := fun x s1 => x = .ref s.heap.objs.size ∧ s1 = { s with heap := s.heap.push (eSet w) }) ⟨rfl, rfl⟩) fun r s1 hr => ?_
  cases r with
  | error e => exact hr
  | ok fl => cases fl with
    | next => exact hr
    | brk => exact hr
    | cont => exact hr
    | ret x =>
      obtain ⟨e1, e2⟩ : x = _ ∧ s1 = _ := hr
      subst e1 e2
      have atS : (s.heap.push (eSet w)).get? s.heap.objs.size = some (eSet w) := Heap.get?_push_size _ rfl
      have isS : Shared.TypeIs { s with heap := s.heap.push (eSet w) } (.ref s.heap.objs.size) "set" := ⟨_, atS, rfl⟩
      have q4 := PySem.F.called_set.init.lookup
      have q5 := PySem.F.called_set.init.bind (.ref s.heap.objs.size)
      repeat (any_goals (first | (assumption; done) | wp_step))
      refine codeAny_mono (fill_listS (E := E) (by simp [hh]) hl hit hb) fun r2 s2 hr2 => ?_
      cases r2 with
      | error e => exact hr2
      | ok fl2 => cases fl2 with
        | next => exact hr2.elim
        | brk => exact hr2.elim
        | cont => exact hr2.elim
        | ret y =>
          obtain ⟨e3, f⟩ := hr2
          subst e3
          repeat (any_goals (first | (assumption; done) | wp_step))
          exact fin _ f
end
/-! ### by plain data -/
def dLenSet (d : D) : M D := match d with
  | .lst xs => match strs? xs with
    | some ns => if ns.length < 64 then pure (.int (uniq ns).length) else stuck
    | none => stuck
  | _ => stuck
def SetS (P : Program) (w : World) (a : Addr) (ns : List Str) : HO := .ext fun h => h.SetOf (strKind P w) a (fun j => decide (j ∈ uniq ns)) (uniq ns).length
section
variable {X : Cx} {ga : Option Addr} {bo : Hp} {a : Expr} {fa : E} {p p2 q pos : Pos}
theorem setS_new {w : World} {P : Program} {H : Hp} {h : Heap} {a : Addr} {ns : List Str} (R : h.SetOf (strKind P w) a (fun j => decide (j ∈ uniq ns)) (uniq ns).length) : ObjOk P w H h a (SetS P w a ns) := by
  have ⟨o, _, _, _, ho, _⟩ := R
  refine ⟨R, ⟨o, ho⟩, fun h1 h2 p k => ?_⟩
  obtain ⟨o, es, ep, t, ho, rest⟩ := p
  exact ⟨o, es, ep, t, k o ho, rest⟩
def rSetS (K : PySem.W.Frag) (P : Program) (w : World) : List V → Hp → VK → Prop := fun vs H Q => ∃ (l : Addr) (ns : List Str), vs = [.ref l] ∧ SqL K H l (ns.map V.str) ∧ ns.length < 64 ∧ ∀ (b : Addr), H b = none → Q (.ref b) (upd H b (SetS P w b ns))
theorem cr_setS (hc : X.calm = true) : CallR X (.type "set") (rSetS X.K X.prog X.w) := by
  intro pins s σ H vs us Q I r h
  obtain ⟨l, ns, rfl, hq, hl, q⟩ := h
  rw [Vals.ref1 r]
  obtain ⟨its, rv, pl, _⟩ := I.list hq
  refine set_of_strs (I.ok.hd hc) pl.isList (ns := ns) (by simpa using strsAre_of rv) (by unfold scanBound; omega) fun s2 ⟨hp, tk, e, R, keep⟩ => ?_
  subst e
  exact ⟨.ref _, upd H s.heap.objs.size (SetS X.prog X.w s.heap.objs.size ns), I.laid (t' := tk) keep (Nat.le_refl _) (setS_new R), rfl, q _ (I.hok.fresh (Nat.le_refl _))⟩
def rLenS (P : Program) (w : World) : List V → Hp → VK → Prop := fun vs H Q => ∃ (l : Addr) (ns : List Str), vs = [.ref l] ∧ H l = some (SetS P w l ns) ∧ ns.length < 64 ∧ Q (.int (uniq ns).length) H
theorem cr_lenS : CallR X (.builtin "len") (rLenS X.prog X.w) := by
  intro pins s σ H vs us Q I r h
  obtain ⟨l, ns, rfl, hl, h64, q⟩ := h
  rw [Vals.ref1 r]
  obtain ⟨o, es, ep, t, ho, hex, hd, _, _, _, hf, hn⟩ := (I.hok l _ hl).1
  have le := uniq_le ns
  exact call_len_set ho hex hd hf (by rw [hn]; omega) ⟨.int (uniq ns).length, H, I.tok _, ⟨_, by rw [hn]⟩, q⟩
theorem RepAll.ofStrs {c : C} {F : Hp} : ∀ {vs : List V} {ns : List Str}, RepAll c F vs (ns.map .str) → vs = ns.map V.str
  | _, [], h => by cases h; rfl
  | _, n :: ns, h => by
    cases h with
    | cons r t =>
      cases r
      rw [RepAll.ofStrs t]
      rfl
theorem strs_map : ∀ {xs : List D} {ns : List Str}, strs? xs = some ns → xs = ns.map .str
  | [], _, h => by cases h; rfl
  | d :: xs, ns, h => by
    unfold strs? at h
    split at h
    · rename_i e; cases e
    · rename_i x r e
      cases e
      obtain ⟨ms, h1, rfl⟩ := Option.map_eq_some_iff.mp h
      rw [strs_map h1]
      rfl
    · cases h
/-- len(set(xs)) of a list of texts -/
theorem d_lenset (hm : X.mg "len" = none) (hm2 : X.mg "set" = none) (ha : PE X a (tR ⟨X.K, X.mg, ga, bo, X.prog, X.w⟩ fa)) (hc : X.calm = true := by rfl) (hg : Gl X "len" := by rfl) (hg2 : Gl X "set" := by rfl) (he : starEach [a] X.env = (false, eval a X.env) :: starEach [] X.env := by rfl)
    (he2 : starEach [.Call (.Name "set" p2) [a] [] q] X.env = (false, eval (.Call (.Name "set" p2) [a] [] q) X.env) :: starEach [] X.env := by rfl) :
    PE X (.Call (.Name "len" p) [.Call (.Name "set" p2) [a] [] q] [] pos) (tP ⟨X.K, X.mg, ga, bo, X.prog, X.w⟩ (eF dLenSet fa)) :=
  (pe_callB cr_lenS hg hm (by rfl) (pa_cons (pe_callTy (cr_setS hc) hg2 hm2 (by rfl) (pa_cons ha pa_nil he) (by decide) (by decide) he rfl) pa_nil he2) (by decide) (by decide) he2 rfl).imp fun σ H Q ⟨H0, F, δ, g, d, g', w, o, q⟩ => by
    obtain ⟨x, g1, o1, o⟩ := ok_bind.mp o
    unfold dLenSet at o
    split at o
    · rename_i xs
      split at o
      · rename_i ns hns
        split at o
        · rename_i hl
          obtain ⟨rfl, rfl⟩ := ok_pure.mp o
          refine ⟨H0, F, δ, g, _, g1, w, o1, fun v F1 H1 s1 r1 => ?_⟩
          obtain ⟨l, vs, rfl, el, ra⟩ := r1.lst s1.le
          rw [strs_map hns] at ra
          have ev := RepAll.ofStrs ra
          subst ev
          refine ⟨l, ns, rfl, SqL.of el, hl, fun b hb => ?_⟩
          refine ⟨b, ns, rfl, upd_same, hl, ?_⟩
          have t1 := Stp.tmp (c := ⟨X.K, X.mg, ga, bo, X.prog, X.w⟩) (o := SetS X.prog X.w b ns) s1.le s1.gen hb
          exact q _ _ _ (s1.trans t1) (.int _)
        · exact absurd o not_ok_stuck
      · exact absurd o not_ok_stuck
    · exact absurd o not_ok_stuck
end
end DL

/-! ## DDc4 -/
set_option Elab.async false
set_option autoImplicit false
set_option linter.all false
set_option maxRecDepth 100000
set_option maxHeartbeats 4000000
/-! DDc4: name = {k: True for a in xs for b in ys}. -/
namespace DL
open PySem PySem.Spec PyProof.Rows L2
section
variable {X : Cx}
theorem ps_setDs2 {i : Nat} {y : Str} {py : Pos} {kx vx tg iter tg1 iter1 : Expr} {ifs ifs1 : List Expr} {scope : Scope} {own : List (Str × Nat)} {vs1 : List Nat} {pos spos : Pos} {wi wi1 : TI} {g g1 : TG} {tt tt1 : TT} {tk tv : TE} (hu : X.A.units < cLine) (hc : X.calm = true) (hN : X.N.Nodup) (hy : X.N[i]? = some y) (hyl : X.env.scope.names.lookup y = some .local)
    (hsw : swapsWith (dc2 kx vx tg iter ifs tg1 iter1 ifs1 scope pos) (some (.Name y py)) spos.line X.env = pure true) (hi : PI X tg iter wi) (ok : BlkOk X.N X.env.scope scope own) (hv : ∀ i ∈ vs1, i ∈ own.map (·.2))
    (hg : ∀ (s : Shared) (H : Hp) (C : Addr) (cl : List (Str × Addr)) (fp : List Addr), PG (X.blk s H scope (compEnvC scope cl C X.env) fp) tg g) (ht : ∀ (s : Shared) (H : Hp) (C : Addr) (cl : List (Str × Addr)) (fp : List Addr), PTs (X.blk s H scope (compEnvC scope cl C X.env) fp) ifs tt)
    (hk : ∀ (s : Shared) (H : Hp) (C : Addr) (cl : List (Str × Addr)) (fp : List Addr), PE (X.blk s H scope (compEnvC scope cl C X.env) fp) kx tk) (he : ∀ (s : Shared) (H : Hp) (C : Addr) (cl : List (Str × Addr)) (fp : List Addr), PE (X.blk s H scope (compEnvC scope cl C X.env) fp) vx tv)
    (hi1 : ∀ (s : Shared) (H : Hp) (C : Addr) (cl : List (Str × Addr)) (fp : List Addr), PI (X.blk s H scope (compEnvC scope cl C X.env) fp) tg1 iter1 wi1) (hg1 : ∀ (s : Shared) (H : Hp) (C : Addr) (cl : List (Str × Addr)) (fp : List Addr), PG (X.blk s H scope (compEnvC scope cl C X.env) fp) tg1 g1)
    (ht1 : ∀ (s : Shared) (H : Hp) (C : Addr) (cl : List (Str × Addr)) (fp : List Addr), PTs (X.blk s H scope (compEnvC scope cl C X.env) fp) ifs1 tt1) (hs : ∀ x, foldedSetIterable iter X.env x = pure x := by intro _; rfl) (hs1 : ∀ env x, foldedSetIterable iter1 env x = pure x := by intro _ _; rfl) :
    PS X (.Assign [.Name y py] (dc2 kx vx tg iter ifs tg1 iter1 ifs1 scope pos) spos) (tAsg (tDs2 X.prog X.w wi g tt wi1 g1 tt1 tk tv (own.map (·.2)) vs1) (gName i)) := by
  refine ⟨fun pins s σ H D I h => ?_⟩
  rw [exec_Assign_Name_used _ _ _ _ hsw]
  refine wpAny_bind (wpAny_standAt (wpAny_bind ?_))
  show wpAny _ X.A (do let _ ← comprehension (dc2 kx vx tg iter ifs tg1 iter1 ifs1 scope pos) scope X.env (firstIterPos [⟨tg, iter, ifs, 0⟩, ⟨tg1, iter1, ifs1, 0⟩] pos) newDict false (eval iter X.env) (some (assign (.Name y py) X.env))) _ _ s
  have h : tDs2 X.prog X.w wi g tt wi1 g1 tt1 tk tv (own.map (·.2)) vs1 σ H (fun x H1 => gName i x σ H1 D.nx) := h
  refine wpAny_bind (thn (ds2_core (Qf := fun _ s' => SP X pins D .next s') hu hc hN I hi ok hv hg ht hk he hs hi1 hg1 ht1 hs1 h fun L C s' m H' I' q hn f => ?_) fun _ s' hq => wpAny_pure (wpAny_pure hq))
  show wpAny _ _ (assign (.Name y py) X.env (.ref L)) _ _ _
  refine wpAny_assign_Name (store_ok2 (v := V.ref L) I' hN hy (.inl hyl) rfl (fun s2 I2 ⟨a, sb, ha⟩ => ?_) (.inr hyl))
  obtain ⟨f0, f1, f2, f3, f4, f5⟩ := f
  have haC : C ≠ a := by
    rcases ha with z | z
    · rw [z]; exact f1
    · exact fun e => f4 y a z e.symm
  refine ⟨m, hn.sameBut sb haC, fun h3 sb3 => ?_⟩
  exact ⟨_, H', I2.turned (t' := s2.toks) (fun b o hb e => (sb3.2 b hb).trans e) f0 f1 f3 f4 f5, q⟩
theorem swD_true {kx vx : Expr} {gs : List Comprehension} {scope : Scope} {pos py : Pos} {y : Str} {l : Nat} {env : Env} (hk : env.scope.kind = .function) (hy : env.scope.names.lookup y = some .local) (hl : (py.line == pos.line) = true)
    (ha : (scope.names.any fun (n, k) => n == y && (k == .local || k == .cell)) = false) : swapsWith (.DictComp kx vx gs scope pos) (some (.Name y py)) l env = pure true := by
  have ky : env.kindOf y = some .local := hy
  have hb : env.blockKind = .function := by unfold Env.blockKind; rw [hk]; rfl
  unfold swapsWith
  simp only [hb, ky, ha, Expr.pos, hl]
  rfl
variable {kx tg iter tg1 iter1 : Expr} {ifs ifs1 : List Expr} {scope : Scope} {own : List (Str × Nat)} {vs1 : List Nat} {pos p1 spos py : Pos} {src src1 : Es} {gd gd1 : G} {is is1 : List Nat} {ft ft1 fe : E} {ga : Option Addr} {bo : Hp} {sj i : Nat} {y : Str}
/-- y = {k: True for tg in iter if .. for tg1 in iter1 if ..} -/
theorem ds_ds2 (vs1 : List Nat) (hu : X.A.units < cLine) (hc : X.calm = true) (hN : X.N.Nodup) (hy : X.N[i]? = some y) (hyl : X.env.scope.names.lookup y = some .local) (hsw : swapsWith (.DictComp kx (.Constant (.bool true) sj p1) [⟨tg, iter, ifs, 0⟩, ⟨tg1, iter1, ifs1, 0⟩] scope pos) (some (.Name y py)) spos.line X.env = pure true)
    (ok : BlkOk X.N X.env.scope scope own) (hi : PI X tg iter (iB ⟨X.K, X.mg, ga, bo, X.prog, X.w⟩ src)) (hg : ∀ (s : Shared) (H : Hp) (C : Addr) (cl : List (Str × Addr)) (fp : List Addr), PG (X.blk s H scope (compEnvC scope cl C X.env) fp) tg (gD ⟨X.K, X.mg, ga, bo, X.prog, X.w⟩ gd is))
    (ht : ∀ (s : Shared) (H : Hp) (C : Addr) (cl : List (Str × Addr)) (fp : List Addr), PTs (X.blk s H scope (compEnvC scope cl C X.env) fp) ifs (tT ⟨X.K, X.mg, ga, bo, X.prog, X.w⟩ ft))
    (hi1 : ∀ (s : Shared) (H : Hp) (C : Addr) (cl : List (Str × Addr)) (fp : List Addr), PI (X.blk s H scope (compEnvC scope cl C X.env) fp) tg1 iter1 (iD ⟨X.K, X.mg, ga, bo, X.prog, X.w⟩ src1))
    (hg1 : ∀ (s : Shared) (H : Hp) (C : Addr) (cl : List (Str × Addr)) (fp : List Addr), PG (X.blk s H scope (compEnvC scope cl C X.env) fp) tg1 (gD ⟨X.K, X.mg, ga, bo, X.prog, X.w⟩ gd1 is1)) (ht1 : ∀ (s : Shared) (H : Hp) (C : Addr) (cl : List (Str × Addr)) (fp : List Addr), PTs (X.blk s H scope (compEnvC scope cl C X.env) fp) ifs1 (tT ⟨X.K, X.mg, ga, bo, X.prog, X.w⟩ ft1))
    (hk : ∀ (s : Shared) (H : Hp) (C : Addr) (cl : List (Str × Addr)) (fp : List Addr), PE (X.blk s H scope (compEnvC scope cl C X.env) fp) kx (tP ⟨X.K, X.mg, ga, bo, X.prog, X.w⟩ fe))
    (his : ∀ i ∈ is, i ∈ own.map (·.2) := by decide) (his1 : ∀ i ∈ is1, i ∈ vs1 := by decide) (hv : ∀ i ∈ vs1, i ∈ own.map (·.2) := by decide) (hs : ∀ x, foldedSetIterable iter X.env x = pure x := by intro _; rfl) (hs1 : ∀ env x, foldedSetIterable iter1 env x = pure x := by intro _ _; rfl) :
    PS X (.Assign [.Name y py] (.DictComp kx (.Constant (.bool true) sj p1) [⟨tg, iter, ifs, 0⟩, ⟨tg1, iter1, ifs1, 0⟩] scope pos) spos) (tS ⟨X.K, X.mg, ga, bo, X.prog, X.w⟩ (sAsg (gN i) (eDs2 (own.map (·.2)) vs1 gd src ft gd1 src1 ft1 fe))) :=
  (ps_setDs2 hu hc hN hy hyl hsw hi ok hv hg ht hk (fun _ _ _ _ _ => d_bl) hi1 hg1 ht1 hs hs1).imp (name_imp (ds2_imp his his1))
end
end DL

/-! ## FK81 -/
set_option Elab.async false
set_option autoImplicit false
set_option linter.all false
set_option maxRecDepth 100000
set_option maxHeartbeats 4000000
namespace K81
open PySem DL
def errs : List Str := ["InvalidPlan"]
/-- is_signs: 0 value, 1 signs, 2 sign -/
def f_is_signs : List D → M D := fn 3 2 (sRet (eAnd (eF (fun d => dIsI d "str") (eV 0)) (eO dEq (eLc [2] (gN 2) (xS (eV 0)) (eO dNotInX (eV 2) (eV 1)) (eW 2)) (eLst (esN)))))
/-- is_name: 0 value -/
def f_is_name : List D → M D := fn 1 1 (sRet (eAnd (eCall f_is_signs (esC (eW 0) (esC (eO dAdd (eK (.str "abcdefghijklmnopqrstuvwxyz")) (eK (.str "0123456789"))) (esN)))) (eAnd (eChain dLt dLe (eK (.int 0)) (eF dLen (eV 0)) (eK (.int 8))) (eO dInX (eO dIxS (eV 0) (eK (.int 0))) (eK (.str "abcdefghijklmnopqrstuvwxyz"))))))
/-- ascends: 0 items, 1 at -/
def f_ascends : List D → M D := fn 2 1 (sRet (eO dEq (eLc [1] (gN 1) (xR2 (eK (.int 1)) (eF dLen (eV 0))) (eO dGe (eO dIx (eV 0) (eO dSub (eV 1) (eK (.int 1)))) (eO dIx (eV 0) (eV 1))) (eW 1)) (eLst (esN))))
/-- is_names: 0 value, 1 item -/
def f_is_names : List D → M D := fn 2 1 (sSeq (sIf (eOr (eF dNot (eF (fun d => dIsI d "list") (eV 0))) (eO dNe (eLc [1] (gN 1) (xL (eW 0)) (eF dNot (eCall f_is_name (esC (eW 1) (esN)))) (eW 1)) (eLst (esN)))) (sRet (eK (.bl false))) (sSkip)) (sRet (eCall f_ascends (esC (eW 0) (esN)))))
/-- are_wished_orders: 0 value, 1 names, 2 order, 3 name -/
def f_are_wished_orders : List D → M D := fn 4 1 (sSeq (sIf (eOr (eF dNot (eF (fun d => dIsI d "list") (eV 0))) (eOr (eO dEq (eV 0) (eLst (esN))) (eOr (eF dNot (eF (fun d => dIsI d "list") (eO dIx (eV 0) (eK (.int 0))))) (eO dEq (eO dIx (eV 0) (eK (.int 0))) (eLst (esN)))))) (sRet (eK (.bl false))) (sSkip)) (sSeq (sIf (eF dNot (eF dAll (eLc [2] (gN 2) (xL (eW 0)) (eK (.bl true)) (eAnd (eF (fun d => dIsI d "list") (eV 2)) (eF dAll (eLc [3] (gN 3) (xL (eW 2)) (eK (.bl true)) (eF (fun d => dIsI d "str") (eV 3)))))))) (sRet (eK (.bl false))) (sSkip)) (sSeq (sAsg (gN 1) (eF dSorted (eO dIx (eV 0) (eK (.int 0))))) (sRet (eAnd (eCall f_is_names (esC (eW 1) (esN))) (eAnd (eF dAll (eLc [2] (gN 2) (xL (eW 0)) (eK (.bl true)) (eO dEq (eF dSorted (eV 2)) (eV 1)))) (eCall f_ascends (esC (eW 0) (esN)))))))))
/-- check_wished: 0 orders -/
def f_check_wished : List D → M D := fn 1 1 (sIf (eF dNot (eCall f_are_wished_orders (esC (eW 0) (esN)))) ((fun _ => stuck)) (sSkip))
/-- check_wished: 0 orders, raising -/
def fx_check_wished : List D → M D := fn 1 1 (sIf (eF dNot (eCall f_are_wished_orders (esC (eW 0) (esN)))) (sThr "InvalidPlan" (eW 0)) (sSkip))
/-- size_and_lot: 0 lot -/
def f_size_and_lot : List D → M D := fn 1 1 (sRet (eTup (esC (eF dLen (eV 0)) (esC (eW 0) (esN)))))
/-- beginnings_in: 0 orders, 1 found, 2 order, 3 size -/
def f_beginnings_in : List D → M D := fn 4 1 (sSeq (sAsg (gN 1) (eDs2 [2, 3] [3] (gN 2) (xL (eW 0)) (eK (.bl true)) (gN 3) (xR (eO dAdd (eF dUw (eF (hU dLen) (eF dUw (eW 2)))) (eK (.int 1)))) (eK (.bl true)) (eF dTuple (eF dUw (eF dSorted (eF dUw (eCut (eF dUw (eW 2)) (eNo) (eAt (eF dUw (eW 3)))))))))) (sRet (eF (dSortKey f_size_and_lot) (eF dUw (eW 1)))))
/-- beginnings_of: 0 orders, 1 lot -/
def f_beginnings_of : List D → M D := fn 2 1 (sSeq (sDo (eCallD f_check_wished (esC (eW 0) (esN)))) (sRet (eLc [1] (gN 1) (xL (eCall f_beginnings_in (esC (eW 0) (esN)))) (eK (.bl true)) (eF dList (eF dUw (eW 1))))))
/-- beginnings_of: 0 orders, 1 lot, raising -/
def fx_beginnings_of : List D → M D := fn 2 1 (sSeq (sDoX fx_check_wished (esC (eW 0) (esN))) (sRet (eLc [1] (gN 1) (xL (eCall f_beginnings_in (esC (eW 0) (esN)))) (eK (.bl true)) (eF dList (eF dUw (eW 1))))))
/-- can_be_built: 0 orders, raising -/
def fx_can_be_built : List D → M D := fn 1 1 (sSeq (sDoX fx_check_wished (esC (eW 0) (esN))) (fun _ => stuck))
/-- room_of_orders: 0 orders, 1 beginnings, 2 name, raising -/
def fx_room_of_orders : List D → M D := fn 3 1 (sSeq (sDoX fx_check_wished (esC (eW 0) (esN))) (fun _ => stuck))
/-- closed_orders: 0 orders, raising -/
def fx_closed_orders : List D → M D := fn 1 1 (sSeq (sDoX fx_check_wished (esC (eW 0) (esN))) (fun _ => stuck))
/-- lacking_orders: 0 orders, 1 order, raising -/
def fx_lacking_orders : List D → M D := fn 2 1 (sSeq (sDoX fx_check_wished (esC (eW 0) (esN))) (fun _ => stuck))
/-- is_forced: 0 orders, 1 value, 2 unions, 3 name, 4 size, raising -/
def fx_is_forced : List D → M D := fn 5 2 (sSeq (sDoX fx_check_wished (esC (eW 0) (esN))) (fun _ => stuck))
/-- pairs_kept: 0 orders, raising -/
def fx_pairs_kept : List D → M D := fn 1 1 (sSeq (sDoX fx_check_wished (esC (eW 0) (esN))) (fun _ => stuck))
/-- follows_pairs: 0 orders, raising -/
def fx_follows_pairs : List D → M D := fn 1 1 (sSeq (sDoX fx_check_wished (esC (eW 0) (esN))) (fun _ => stuck))
/-- _law_hash: 0 seed, 1 index, 2 mixed -/
def f_law_hash : List D → M D := fn 3 2 (sSeq (sAsg (gN 2) (eO dMod (eF dInt (eO dAdd (eO dAdd (eO dAdd (eO dMul (eV 0) (eK (.int 1140671))) (eO dMul (eO dMul (eK (.int 27644437)) (eV 1)) (eV 1))) (eO dMul (eK (.int 131)) (eV 1))) (eK (.int 19)))) (eK (.int 2147483629)))) (sSeq (sAsg (gN 2) (eO dMod (eF dInt (eO dAdd (eO dAdd (eO dMul (eV 2) (eV 2)) (eO dMul (eK (.int 62089)) (eV 1))) (eK (.int 32416187)))) (eK (.int 2147483587)))) (sRet (eO dMod (eF dInt (eO dMul (eV 2) (eK (.int 48271)))) (eK (.int 2147483647))))))
/-- _law_random: 0 generator, 1 bound, 2 drawn, 3 turn -/
def f_law_random : List D → M D := fn 4 2 (sSeq (sIf (eO dGt (eG 0 0) (eK (.int 0))) (sSeq (sAsg (gN 2) (eO dMod (eF dInt (eG 0 0)) (eV 1))) (sSeq (sG 0 0 (eO dFdiv (eG 0 0) (eV 1))) (sRet (eW 2)))) (sSkip)) (sSeq (sAsg (gN 2) (eK (.int 0))) (sSeq (sFor (gN 3) (xR (eO dAdd (eK (.int 1)) (eO dFdiv (eF dBits (eV 1)) (eK (.int 30))))) (sSeq (sG 0 2 (eO dAdd (eG 0 2) (eK (.int 1)))) (sAsg (gN 2) (eO dAdd (eO dMul (eV 2) (eK (.int 2147483587))) (eCall f_law_hash (esC (eG 0 1) (esC (eG 0 2) (esN)))))))) (sRet (eO dMod (eF dInt (eV 2)) (eV 1))))))
/-- _law_same: 0 found, 1 due, 2 one, 3 other, 4 name -/
def f_law_same : Nat → List D → M D
  | 0 => fun _ => stuck
  | n + 1 => fn 5 2 (sSeq (sIf (eF (fun d => dIsI2 d "list" "tuple") (eV 1)) (sSeq (sIf (eOr (eO dNe (eF (fun d => dIsI d "list") (eV 0)) (eF (fun d => dIsI d "list") (eV 1))) (eO dNe (eF (fun d => dIsI d "tuple") (eV 0)) (eF (fun d => dIsI d "tuple") (eV 1)))) (sRet (eK (.bl false))) (sSkip)) (sRet (eAnd (eO dEq (eF dLen (eV 0)) (eF dLen (eV 1))) (eF dAll (eLc [2, 3] (gT [gN 2, gN 3]) (xZ (eW 0) (eW 1)) (eK (.bl true)) (eCall (f_law_same n) (esC (eW 2) (esC (eW 3) (esN))))))))) (sSkip)) (sSeq (sIf (eF (fun d => dIsI d "dict") (eV 1)) (sSeq (sIf (eOr (eF dNot (eF (fun d => dIsI d "dict") (eV 0))) (eO dNe (eF dLen (eV 0)) (eF dLen (eV 1)))) (sRet (eK (.bl false))) (sSkip)) (sRet (eF dAll (eLc [4] (gN 4) (xL (eW 1)) (eK (.bl true)) (eAnd (eO dIn (eV 4) (eV 0)) (eCall (f_law_same n) (esC (eO dIx (eV 0) (eV 4)) (esC (eO dIx (eV 1) (eV 4)) (esN))))))))) (sSkip)) (sSeq (sIf (eF (fun d => dIsI d "str") (eV 1)) (sRet (eAnd (eF (fun d => dIsI d "str") (eV 0)) (eO dEq (eV 0) (eV 1)))) (sSkip)) (sSeq (sIf (eF dIsN (eV 1)) (sRet (eF dIsN (eV 0))) (sSkip)) (sRet (eAnd (eF (fun d => dIsI d "int") (eV 0)) (eAnd (eO dEq (eF (fun d => dIsI d "bool") (eV 0)) (eF (fun d => dIsI d "bool") (eV 1))) (eO dEq (eV 0) (eV 1)))))))))
/-- _law_shuffled: 0 generator, 1 things, 2 left, 3 found -/
def f_law_shuffled : List D → M D := fn 4 2 (sSeq (sParOO 2 3 (eF dList (eV 1)) (eLst (esN))) (sSeq (sWh 1000 (eO dNe (eV 2) (eLst (esN))) (sAppPop 3 2 (eCall f_law_random (esC (eW 0) (esC (eF dLen (eV 2)) (esN)))))) (sSeq (sFrz 3) (sRet (eW 3)))))
/-- _law_permuted: 0 items, 1 found, 2 turn, 3 longer, 4 order, 5 item -/
def f_law_permuted : List D → M D := fn 6 1 (sSeq (sAsg (gN 1) (eLst (esC (eLst (esN)) (esN)))) (sSeq (sFor (gN 2) (xR (eF dLen (eV 0))) (sSeq (sAsg (gN 3) (eLst (esN))) (sSeq (sFor (gN 4) (xL (eW 1)) (sAsg (gN 3) (eO dAdd (eV 3) (eLc [5] (gN 5) (xL (eW 0)) (eO dNotIn (eV 5) (eV 4)) (eO dAdd (eV 4) (eLst (esC (eW 5) (esN)))))))) (sAsg (gN 1) (eW 3))))) (sRet (eW 1))))
/-- _law_names: 0 generator, 1 most -/
def f_law_names : List D → M D := fn 2 2 (sRet (eF dSorted (eCut (eCall f_law_shuffled (esC (eW 0) (esC (eLst (esC (eK (.str "a")) (esC (eK (.str "box")) (esC (eK (.str "desk")) (esC (eK (.str "door")) (esC (eK (.str "k1")) (esC (eK (.str "k10")) (esC (eK (.str "safe")) (esC (eK (.str "z")) (esN)))))))))) (esN)))) (eNo) (eAt (eO dAdd (eK (.int 1)) (eCall f_law_random (esC (eW 0) (esC (eW 1) (esN)))))))))
/-- _law_wished: 0 generator, 1 names, 2 every -/
def f_law_wished : List D → M D := fn 3 2 (sSeq (sAsg (gN 2) (eCall f_law_permuted (esC (eW 1) (esN)))) (sRet (eF dSorted (eCut (eCall f_law_shuffled (esC (eW 0) (esC (eW 2) (esN)))) (eNo) (eAt (eO dAdd (eK (.int 1)) (eCall f_law_random (esC (eW 0) (esC (eO dMin2 (eF dLen (eV 2)) (eK (.int 6))) (esN))))))))))
/-- _law_begun: 0 orders, 1 found, 2 order, 3 size, 4 lot -/
def f_law_begun : List D → M D := fn 5 1 (sSeq (sAsg (gN 1) (eLst (esN))) (sSeq (sFor (gN 2) (xL (eW 0)) (sFor (gN 3) (xR (eO dAdd (eF dLen (eV 2)) (eK (.int 1)))) (sSeq (sAsg (gN 4) (eF dSorted (eCut (eV 2) (eNo) (eAt (eV 3))))) (sAsg (gN 1) (eO dAdd (eV 1) (eIf (eO dNotIn (eV 4) (eV 1)) (eLst (esC (eW 4) (esN))) (eLst (esN)))))))) (sRet (eLc [3, 4] (gT [gN 3, gN 4]) (xL (eF dSorted (eLc [4] (gN 4) (xL (eW 1)) (eK (.bl true)) (eTup (esC (eF dLen (eV 4)) (esC (eW 4) (esN))))))) (eK (.bl true)) (eW 4)))))
/-- _law_no_orders: 0 orders, 1 names -/
def f_law_no_orders : List D → M D := fn 2 1 (sSeq (sAsg (gN 1) (eO dIx (eV 0) (eK (.int 0)))) (sRet (eLst (esC (eK .non) (esC (eLst (esN)) (esC (eTup (esN)) (esC (eK (.dct [])) (esC (eK (.str "orders")) (esC (eF dTuple (eV 0)) (esC (eLst (esC (eLst (esN)) (esN))) (esC (eO dAdd (eV 0) (eCut (eV 0) (eAt (eF dNeg (eK (.int 1)))) (eNo))) (esC (eO dAdd (eV 0) (eLst (esC (eK .non) (esN)))) (esC (eO dAdd (eV 0) (eLst (esC (eO dAdd (eV 1) (eCut (eV 1) (eNo) (eAt (eK (.int 1))))) (esN)))) (esC (eO dAdd (eV 0) (eLst (esC (eO dAdd (eCut (eV 1) (eAt (eK (.int 1))) (eNo)) (eLst (esC (eK (.str "zz")) (esN)))) (esN)))) (esC (eLst (esC (eF dTuple (eV 1)) (esN))) (esC (eLst (esC (eO dAdd (eV 1) (eLst (esC (eK (.str "A")) (esN)))) (esN))) (esC (eLst (esC (eO dAdd (eV 1) (eLst (esC (eK (.int 7)) (esN)))) (esN))) (esC (eLst (esC (eO dAdd (eV 1) (eLst (esC (eLst (esC (eO dIx (eV 1) (eK (.int 0))) (esN))) (esN)))) (esN))) (esC (eLst (esC (eO dMul (eCut (eV 1) (eNo) (eAt (eK (.int 1)))) (eK (.int 2))) (esN))) (esC (eO dAdd (eV 0) (eLst (esC (eCut (eV 1) (eAt (eK (.int 1))) (eNo)) (esN)))) (esC (eLst (esC (eO dAdd (eF dList (eV 1)) (eLst (esC (eK (.str "zz")) (esN)))) (esC (eF dList (eV 1)) (esN)))) (esC (eW 1) (esN)))))))))))))))))))))))
/-- _law_are_wished: 0 value, 1 order, 2 name, 3 at -/
def f_law_are_wished : List D → M D := fn 4 1 (sSeq (sIf (eOr (eF dNot (eF (fun d => dIsI d "list") (eV 0))) (eOr (eO dEq (eV 0) (eLst (esN))) (eOr (eF dNot (eF (fun d => dIsI d "list") (eO dIx (eV 0) (eK (.int 0))))) (eO dEq (eO dIx (eV 0) (eK (.int 0))) (eLst (esN)))))) (sRet (eK (.bl false))) (sSkip)) (sSeq (sFor (gN 1) (xL (eW 0)) (sSeq (sIf (eOr (eF dNot (eF (fun d => dIsI d "list") (eV 1))) (eO dNe (eLc [2] (gN 2) (xL (eW 1)) (eOr (eF dNot (eF (fun d => dIsI d "str") (eV 2))) (eOr (eF dNot (eF dAlnum (eV 2))) (eOr (eO dNe (eF dLower (eV 2)) (eV 2)) (eOr (eO dGt (eF dLen (eV 2)) (eK (.int 8))) (eF dNot (eF dAlpha (eO dIxS (eV 2) (eK (.int 0))))))))) (eW 2)) (eLst (esN)))) (sRet (eK (.bl false))) (sSkip)) (sIf (eOr (eO dNe (eF dSorted (eV 1)) (eF dSorted (eO dIx (eV 0) (eK (.int 0))))) (eO dNe (eF dLenSet (eV 1)) (eF dLen (eV 1)))) (sRet (eK (.bl false))) (sSkip)))) (sRet (eO dEq (eLc [3] (gN 3) (xR2 (eK (.int 1)) (eF dLen (eV 0))) (eF dNot (eO dLt (eO dIx (eV 0) (eO dSub (eV 3) (eK (.int 1)))) (eO dIx (eV 0) (eV 3)))) (eW 3)) (eLst (esN))))))
def tab : Tab := tabOf [("beginnings_of", fx_beginnings_of), ("can_be_built", fx_can_be_built), ("room_of_orders", fx_room_of_orders), ("closed_orders", fx_closed_orders), ("lacking_orders", fx_lacking_orders), ("is_forced", fx_is_forced), ("pairs_kept", fx_pairs_kept), ("follows_pairs", fx_follows_pairs)]
/-- _law_caught: 0 call, 1 parts, 2 caught, 3 shown, 4 error, 5 words, 6 truths, 7 word, 8 one -/
def f_law_caught : List D → M D := fn 9 2 (sSeq (sPar 2 3 (eK .non) (eF dReprN (eV 1))) (sSeq (sTry errs 4 2 (sIf (eO dEq (eF dLen (eV 1)) (eK (.int 1))) (sCallX tab 0 (esC (eO dIx (eV 1) (eK (.int 0))) (esN))) (sIf (eO dEq (eF dLen (eV 1)) (eK (.int 2))) (sCallX tab 0 (esC (eO dIx (eV 1) (eK (.int 0))) (esC (eO dIx (eV 1) (eK (.int 1))) (esN)))) (sIf (eO dEq (eF dLen (eV 1)) (eK (.int 3))) (sCallX tab 0 (esC (eO dIx (eV 1) (eK (.int 0))) (esC (eO dIx (eV 1) (eK (.int 1))) (esC (eO dIx (eV 1) (eK (.int 2))) (esN))))) (sIf (eO dEq (eF dLen (eV 1)) (eK (.int 4))) (sCallX tab 0 (esC (eO dIx (eV 1) (eK (.int 0))) (esC (eO dIx (eV 1) (eK (.int 1))) (esC (eO dIx (eV 1) (eK (.int 2))) (esC (eO dIx (eV 1) (eK (.int 3))) (esN)))))) (sCallX tab 0 (esC (eO dIx (eV 1) (eK (.int 0))) (esC (eO dIx (eV 1) (eK (.int 1))) (esC (eO dIx (eV 1) (eK (.int 2))) (esC (eO dIx (eV 1) (eK (.int 3))) (esC (eO dIx (eV 1) (eK (.int 4))) (esN)))))))))))) (sSeq (sIf (eO dNe (eF dReprN (eV 1)) (eV 3)) (sRet (eLst (esC (eK (.str "changed")) (esN)))) (sSkip)) (sSeq (sPar 5 6 (eLst (esC (eK (.str "InvalidPlan")) (esN))) (eLst (esC (eF (dIsEx errs "InvalidPlan") (eW 2)) (esN)))) (sRet (eIf (eF dIsN (eV 2)) (eK .non) (eLst (esC (eLc [7, 8] (gT [gN 7, gN 8]) (xZ (eW 5) (eW 6)) (eV 8) (eW 7)) (esC (eF dReprN (eF (dValx errs) (eW 2))) (esN))))))))))
/-- _law_right: 0 generator, 1 orders, 2 kept, 3 due, 4 told, 5 lot, 6 bad, 7 right, 8 shown, 9 calls, 10 call, 11 args -/
def f_law_right : List D → M D := fn 12 1 (sSeq (sAsg (gN 1) (eCall f_law_wished (esC (eW 0) (esC (eCall f_law_names (esC (eW 0) (esC (eK (.int 4)) (esN)))) (esN))))) (sSeq (sPar 2 3 (eF dReprN (eV 1)) (eCall f_law_begun (esC (eW 1) (esN)))) (sSeq (sScope (sSeqS (sAsg (gN 4) (eLst (esC (eCall f_beginnings_of (esC (eW 1) (esN))) (esC (eCall (fun ys => f_beginnings_of (pick [0] ys)) (esC (eW 1) (esN))) (esN))))) (sSeqS (sIf (eOr (eF dNot (eF dUw (eCallD (f_law_same 4) (esC (eW 4) (esC (eLst (esC (eW 3) (esC (eW 3) (esN)))) (esN)))))) (eF dNot (eF dUw (eCallD (f_law_same 4) (esC (eLst (esC (eCallD f_are_wished_orders (esC (eW 1) (esN))) (esC (eCallDK f_are_wished_orders [0] (esC (eW 1) (esN))) (esN)))) (esC (eLst (esC (eK (.bl true)) (esC (eK (.bl true)) (esN)))) (esN))))))) (sRet (eK (.bl false))) (sSkip)) (sOps [.each 4 [0] 5] [.one 4 [0]])))) (sSeq (sFor (gN 6) (xL (eO dAdd (eCall f_law_no_orders (esC (eW 1) (esN))) (eLst (esC (eF dRev (eV 1)) (esC (eCut (eV 1) (eAt (eK (.int 1))) (eNo)) (esC (eCut (eV 1) (eNo) (eAt (eK (.int 1)))) (esN))))))) (sSeq (sAsg (gT [gN 7, gN 8]) (eTup (esC (eCall f_law_are_wished (esC (eW 6) (esN))) (esC (eF dReprN (eV 6)) (esN))))) (sSeq (sIf (eOr (eF dNot (eCall (f_law_same 4) (esC (eLst (esC (eCall f_are_wished_orders (esC (eW 6) (esN))) (esC (eCall (fun ys => f_are_wished_orders (pick [0] ys)) (esC (eW 6) (esN))) (esN)))) (esC (eLst (esC (eW 7) (esC (eW 7) (esN)))) (esN))))) (eO dNe (eF dReprN (eV 6)) (eV 8))) (sRet (eK (.bl false))) (sSkip)) (sSeq (sAsg (gN 9) (eLst (esC (eTup (esC (eK (.fn "beginnings_of")) (esC (eLst (esC (eW 6) (esN))) (esN)))) (esC (eTup (esC (eK (.fn "can_be_built")) (esC (eLst (esC (eW 6) (esN))) (esN)))) (esC (eTup (esC (eK (.fn "room_of_orders")) (esC (eLst (esC (eW 6) (esN))) (esN)))) (esC (eTup (esC (eK (.fn "closed_orders")) (esC (eLst (esC (eW 6) (esN))) (esN)))) (esC (eTup (esC (eK (.fn "lacking_orders")) (esC (eLst (esC (eW 6) (esN))) (esN)))) (esC (eTup (esC (eK (.fn "is_forced")) (esC (eLst (esC (eW 6) (esC (eK .non) (esN)))) (esN)))) (esC (eTup (esC (eK (.fn "pairs_kept")) (esC (eLst (esC (eW 6) (esN))) (esN)))) (esC (eTup (esC (eK (.fn "follows_pairs")) (esC (eLst (esC (eW 6) (esN))) (esN)))) (esN))))))))))) (sIf (eAnd (eF dNot (eV 7)) (eO dNe (eLc [10, 11] (gT [gN 10, gN 11]) (xL (eW 9)) (eO dNe (eCall f_law_caught (esC (eW 10) (esC (eW 11) (esN)))) (eLst (esC (eLst (esC (eK (.str "InvalidPlan")) (esN))) (esC (eW 8) (esN))))) (eK (.int 1))) (eLst (esN)))) (sRet (eK (.bl false))) (sSkip)))))) (sRet (eAnd (eCall (f_law_same 4) (esC (eCall f_beginnings_of (esC (eW 1) (esN))) (esC (eW 3) (esN)))) (eO dEq (eF dReprN (eV 1)) (eV 2))))))))
def eTurn : E := eOr (eF dNot (eCall f_law_right (esC (eW 2) (esN)))) (eF dNot (eCall f_law_right (esC (eW 2) (esN))))
/-- behind the loop -/
def sLaw : S := sRet (eK (.bl true))
end K81

/-! ## WK81 -/
set_option Elab.async false
set_option autoImplicit false
set_option linter.all false
set_option maxRecDepth 100000
set_option maxHeartbeats 4000000
namespace K81
open PySem PySem.Spec PyProof.Rows L2 DL
def topS (i : Nat) : Stmt := PySem.Challenge.pw_escapehall_k81_whole_wished_orders.main.body.getD i (.Pass ⟨0, 0, 0, 0⟩)
abbrev s_is_signs : Stmt := topS 7
abbrev s_is_name : Stmt := topS 8
abbrev s_ascends : Stmt := topS 9
abbrev s_is_names : Stmt := topS 10
abbrev s_are_wished_orders : Stmt := topS 12
abbrev s_check_wished : Stmt := topS 13
abbrev s_size_and_lot : Stmt := topS 14
abbrev s_beginnings_in : Stmt := topS 15
abbrev s_beginnings_of : Stmt := topS 16
abbrev s_unions_of : Stmt := topS 17
abbrev s_orders_through : Stmt := topS 18
abbrev s_closed_in : Stmt := topS 19
abbrev s_can_be_built : Stmt := topS 20
abbrev s_least_beginnings : Stmt := topS 22
abbrev s_has_part : Stmt := topS 23
abbrev s_room_of_orders : Stmt := topS 24
abbrev s_closed_orders : Stmt := topS 25
abbrev s_lacking_orders : Stmt := topS 26
abbrev s_is_forced : Stmt := topS 27
abbrev s_kept_in : Stmt := topS 29
abbrev s_pairs_kept : Stmt := topS 30
abbrev s_all_keeping : Stmt := topS 31
abbrev s_keeps_last : Stmt := topS 32
abbrev s_follows_pairs : Stmt := topS 33
abbrev s_law_hash : Stmt := topS 35
abbrev s_law_random : Stmt := topS 36
abbrev s_law_cell : Stmt := topS 37
abbrev s_law_generator : Stmt := topS 38
abbrev s_law_pick : Stmt := topS 39
abbrev s_law_same : Stmt := topS 40
abbrev s_law_shuffled : Stmt := topS 41
abbrev s_law_permuted : Stmt := topS 42
abbrev s_law_names : Stmt := topS 43
abbrev s_law_wished : Stmt := topS 44
abbrev s_law_begun : Stmt := topS 45
abbrev s_law_unions : Stmt := topS 46
abbrev s_law_closed : Stmt := topS 47
abbrev s_law_built : Stmt := topS 48
abbrev s_law_plays : Stmt := topS 49
abbrev s_law_no_orders : Stmt := topS 50
abbrev s_law_drawn_room : Stmt := topS 51
abbrev s_law_caught : Stmt := topS 52
abbrev s_law_are_wished : Stmt := topS 53
abbrev s_law_right : Stmt := topS 54
abbrev s_law : Stmt := topS 55
theorem kw_beginnings_of_0_orders : KwOk "beginnings_of" s_beginnings_of ["orders"] ["orders"] 0 [0] := ⟨fun _ _ _ _ _ _ us ws h1 h2 => match us, ws, h1, h2 with | [], [_], _, _ => rfl, rfl, by decide⟩
theorem kw_are_wished_orders_0_value : KwOk "are_wished_orders" s_are_wished_orders ["value"] ["value"] 0 [0] := ⟨fun _ _ _ _ _ _ us ws h1 h2 => match us, ws, h1, h2 with | [], [_], _, _ => rfl, rfl, by decide⟩
section
variable {P : Program} {w : World} {K : PySem.W.Frag} {mg : Str → Option Value} {base : Heap}
theorem sc_is_signs : FnScope ["value", "signs", "sign"] ["value", "signs"] (defScope s_is_signs) := ⟨rfl, rfl, rfl, by decide +kernel, rfl, by decide +kernel, by decide +kernel⟩
theorem sc_is_name : FnScope ["value"] ["value"] (defScope s_is_name) := ⟨rfl, rfl, rfl, by decide +kernel, rfl, by decide +kernel, by decide +kernel⟩
theorem sc_ascends : FnScope ["items", "at"] ["items"] (defScope s_ascends) := ⟨rfl, rfl, rfl, by decide +kernel, rfl, by decide +kernel, by decide +kernel⟩
theorem sc_is_names : FnScope ["value", "item"] ["value"] (defScope s_is_names) := ⟨rfl, rfl, rfl, by decide +kernel, rfl, by decide +kernel, by decide +kernel⟩
theorem sc_are_wished_orders : FnScope ["value", "names", "order", "name"] ["value"] (defScope s_are_wished_orders) := ⟨rfl, rfl, rfl, by decide +kernel, rfl, by decide +kernel, by decide +kernel⟩
theorem sc_check_wished : FnScope ["orders"] ["orders"] (defScope s_check_wished) := ⟨rfl, rfl, rfl, by decide +kernel, rfl, by decide +kernel, by decide +kernel⟩
theorem sc_size_and_lot : FnScope ["lot"] ["lot"] (defScope s_size_and_lot) := ⟨rfl, rfl, rfl, by decide +kernel, rfl, by decide +kernel, by decide +kernel⟩
theorem sc_beginnings_in : FnScope ["orders", "found", "order", "size"] ["orders"] (defScope s_beginnings_in) := ⟨rfl, rfl, rfl, by decide +kernel, rfl, by decide +kernel, by decide +kernel⟩
theorem sc_beginnings_of : FnScope ["orders", "lot"] ["orders"] (defScope s_beginnings_of) := ⟨rfl, rfl, rfl, by decide +kernel, rfl, by decide +kernel, by decide +kernel⟩
theorem sc_can_be_built : FnScope ["orders"] ["orders"] (defScope s_can_be_built) := ⟨rfl, rfl, rfl, by decide +kernel, rfl, by decide +kernel, by decide +kernel⟩
theorem sc_room_of_orders : FnScope ["orders", "beginnings", "name"] ["orders"] (defScope s_room_of_orders) := ⟨rfl, rfl, rfl, by decide +kernel, rfl, by decide +kernel, by decide +kernel⟩
theorem sc_closed_orders : FnScope ["orders"] ["orders"] (defScope s_closed_orders) := ⟨rfl, rfl, rfl, by decide +kernel, rfl, by decide +kernel, by decide +kernel⟩
theorem sc_lacking_orders : FnScope ["orders", "order"] ["orders"] (defScope s_lacking_orders) := ⟨rfl, rfl, rfl, by decide +kernel, rfl, by decide +kernel, by decide +kernel⟩
theorem sc_is_forced : FnScope ["orders", "value", "unions", "name", "size"] ["orders", "value"] (defScope s_is_forced) := ⟨rfl, rfl, rfl, by decide +kernel, rfl, by decide +kernel, by decide +kernel⟩
theorem sc_pairs_kept : FnScope ["orders"] ["orders"] (defScope s_pairs_kept) := ⟨rfl, rfl, rfl, by decide +kernel, rfl, by decide +kernel, by decide +kernel⟩
theorem sc_follows_pairs : FnScope ["orders"] ["orders"] (defScope s_follows_pairs) := ⟨rfl, rfl, rfl, by decide +kernel, rfl, by decide +kernel, by decide +kernel⟩
theorem sc_law_hash : FnScope ["seed", "index", "mixed"] ["seed", "index"] (defScope s_law_hash) := ⟨rfl, rfl, rfl, by decide +kernel, rfl, by decide +kernel, by decide +kernel⟩
theorem sc_law_random : FnScope ["generator", "bound", "drawn", "turn"] ["generator", "bound"] (defScope s_law_random) := ⟨rfl, rfl, rfl, by decide +kernel, rfl, by decide +kernel, by decide +kernel⟩
theorem sc_law_cell : FnScope ["script", "index"] ["script", "index"] (defScope s_law_cell) := ⟨rfl, rfl, rfl, by decide +kernel, rfl, by decide +kernel, by decide +kernel⟩
theorem sc_law_generator : FnScope ["script", "index", "seed"] ["script", "index"] (defScope s_law_generator) := ⟨rfl, rfl, rfl, by decide +kernel, rfl, by decide +kernel, by decide +kernel⟩
theorem sc_law_same : FnScope ["found", "due", "one", "other", "name"] ["found", "due"] (defScope s_law_same) := ⟨rfl, rfl, rfl, by decide +kernel, rfl, by decide +kernel, by decide +kernel⟩
theorem sc_law_shuffled : FnScope ["generator", "things", "left", "found"] ["generator", "things"] (defScope s_law_shuffled) := ⟨rfl, rfl, rfl, by decide +kernel, rfl, by decide +kernel, by decide +kernel⟩
theorem sc_law_permuted : FnScope ["items", "found", "turn", "longer", "order", "item"] ["items"] (defScope s_law_permuted) := ⟨rfl, rfl, rfl, by decide +kernel, rfl, by decide +kernel, by decide +kernel⟩
theorem sc_law_names : FnScope ["generator", "most"] ["generator", "most"] (defScope s_law_names) := ⟨rfl, rfl, rfl, by decide +kernel, rfl, by decide +kernel, by decide +kernel⟩
theorem sc_law_wished : FnScope ["generator", "names", "every"] ["generator", "names"] (defScope s_law_wished) := ⟨rfl, rfl, rfl, by decide +kernel, rfl, by decide +kernel, by decide +kernel⟩
theorem sc_law_begun : FnScope ["orders", "found", "order", "size", "lot"] ["orders"] (defScope s_law_begun) := ⟨rfl, rfl, rfl, by decide +kernel, rfl, by decide +kernel, by decide +kernel⟩
theorem sc_law_no_orders : FnScope ["orders", "names"] ["orders"] (defScope s_law_no_orders) := ⟨rfl, rfl, rfl, by decide +kernel, rfl, by decide +kernel, by decide +kernel⟩
theorem sc_law_caught : FnScope ["call", "parts", "caught", "shown", "error", "words", "truths", "word", "one"] ["call", "parts"] (defScope s_law_caught) := ⟨rfl, rfl, rfl, by decide +kernel, rfl, by decide +kernel, by decide +kernel⟩
theorem sc_law_are_wished : FnScope ["value", "order", "name", "at"] ["value"] (defScope s_law_are_wished) := ⟨rfl, rfl, rfl, by decide +kernel, rfl, by decide +kernel, by decide +kernel⟩
theorem sc_law_right : FnScope ["generator", "orders", "kept", "due", "told", "lot", "bad", "right", "shown", "calls", "call", "args"] ["generator"] (defScope s_law_right) := ⟨rfl, rfl, rfl, by decide +kernel, rfl, by decide +kernel, by decide +kernel⟩
theorem sc_law : FnScope ["script", "index", "generator"] ["script"] (defScope s_law) := ⟨rfl, rfl, rfl, by decide +kernel, rfl, by decide +kernel, by decide +kernel⟩
theorem w_is_signs (B : BltX mg)  {f : Addr} {fd : FuncData} (F : Fun K "is_signs" "is_signs" s_is_signs f fd) : FnG P w K mg base 1 f fd ["value", "signs"] f_is_signs :=
  have sc := sc_is_signs
  fnG_of F sc (hN := by decide) fun cdv A outer sh H ga bo hr hg =>
    (ds_one (ds_ret (d_and (PE.rd (d_isi (t := "str") (by decide) B.isi (by kernel_rfl) B.str_ (by kernel_rfl) (d_rv (pv 0)))) (d_one (d_cmp (eq_d (hu64 hr)) (PE.rd (d_lc rfl sc.nd (blkOk_by (own := [("sign", 2)]) (by kernel_rfl)) (PI.b (di_str (d_rv (pv 0)))) (fun _ _ _ _ _ => (dg_name (pg_name (i := 2) sc.nd rfl (by first | exact .inl rfl | exact .inr rfl)))) (fun _ _ _ _ _ => (dts_one (dt_cmp (notInX_d (hu65 hr)) (d_rv (pv 2)) (d_rv (pv 1))))) (fun _ _ _ _ _ => (d_v (pv 2))))) (PE.rd (d_lst das_nil)))))))
theorem w_is_name (B : BltX mg) (C_is_signs : Cal P w K mg base 1 "is_signs" s_is_signs ["value", "signs"] f_is_signs) (G_SMALL : ∃ t, mg "SMALL" = some (.str "abcdefghijklmnopqrstuvwxyz" t)) (G_MOST_NAME : ∃ t, mg "MOST_NAME" = some (.int 8 t)) (G_FIGURES : ∃ t, mg "FIGURES" = some (.str "0123456789" t)) {f : Addr} {fd : FuncData} (F : Fun K "is_name" "is_name" s_is_name f fd) : FnG P w K mg base 2 f fd ["value"] f_is_name :=
  have sc := sc_is_name
  fnG_of F sc (hN := by decide) fun cdv A outer sh H ga bo hr hg =>
    (ds_one (ds_ret (d_and (PE.rd (dc C_is_signs hr hg (das_cons (d_v (pv 0)) (das_cons (d_op add_d (PE.rd (d_gcs G_SMALL)) (PE.rd (d_gcs G_FIGURES))) das_nil)))) (d_and (PE.rd (d_chain (lt_d (hu64 hr)) (le_d (hu64 hr)) (PE.rd d_int) (PE.rd (d_b1 len_c B.len_ (by kernel_rfl) (d_rv (pv 0)))) (PE.rd (d_gci G_MOST_NAME)))) (d_one (d_cmp (inX_d (hu65 hr)) (PE.rd (d_ixs (d_rv (pv 0)) (PE.rd d_int))) (PE.rd (d_gcs G_SMALL))))))))
theorem w_ascends (B : BltX mg)  {f : Addr} {fd : FuncData} (F : Fun K "ascends" "ascends" s_ascends f fd) : FnG P w K mg base 1 f fd ["items"] f_ascends :=
  have sc := sc_ascends
  fnG_of F sc (hN := by decide) fun cdv A outer sh H ga bo hr hg =>
    (ds_one (ds_ret (d_cmp (eq_d (hu64 hr)) (PE.rd (d_lc rfl sc.nd (blkOk_by (own := [("at", 1)]) (by kernel_rfl)) (PI.b (di_r2 B.range_ (PE.rd d_int) (PE.rd (d_b1 len_c B.len_ (by kernel_rfl) (d_rv (pv 0)))))) (fun _ _ _ _ _ => (dg_name (pg_name (i := 1) sc.nd rfl (by first | exact .inl rfl | exact .inr rfl)))) (fun _ _ _ _ _ => (dts_one (dt_cmp (ge_d (hu64 hr)) (PE.rd (d_ix (d_rv (pv 0)) (PE.rd (d_op sub_d (d_rv (pv 1)) (PE.rd d_int))))) (PE.rd (d_ix (d_rv (pv 0)) (d_rv (pv 1))))))) (fun _ _ _ _ _ => (d_v (pv 1))))) (PE.rd (d_lst das_nil)))))
theorem w_is_names (B : BltX mg) (C_is_name : Cal P w K mg base 2 "is_name" s_is_name ["value"] f_is_name) (C_ascends : Cal P w K mg base 1 "ascends" s_ascends ["items"] f_ascends) {f : Addr} {fd : FuncData} (F : Fun K "is_names" "is_names" s_is_names f fd) : FnG P w K mg base 3 f fd ["value"] f_is_names :=
  have sc := sc_is_names
  fnG_of F sc (hN := by decide) fun cdv A outer sh H ga bo hr hg =>
    (ds_cons (ds_if (PW.pt (dw_or (dt_not (d_test (PE.rd (d_isi (t := "list") (by decide) B.isi (by kernel_rfl) B.list_ (by kernel_rfl) (d_rv (pv 0)))))) (dw_one_or (dt_cmp (ne_d (hu64 hr)) (PE.rd (d_lc rfl sc.nd (blkOk_by (own := [("item", 1)]) (by kernel_rfl)) (PI.b (di_lst (d_v (pv 0)))) (fun _ _ _ _ _ => (dg_name (pg_name (i := 1) sc.nd rfl (by first | exact .inl rfl | exact .inr rfl)))) (fun _ _ _ _ _ => (dts_one (dt_not (d_test (PE.rd (dc C_is_name hr hg (das_cons (d_v (pv 1)) das_nil))))))) (fun _ _ _ _ _ => (d_v (pv 1))))) (PE.rd (d_lst das_nil)))))) (ds_one (ds_ret d_bl)) ds_nil) (ds_one (ds_ret (dc C_ascends hr hg (das_cons (d_v (pv 0)) das_nil)))))
theorem w_are_wished_orders (B : BltX mg) (C_ascends : Cal P w K mg base 1 "ascends" s_ascends ["items"] f_ascends) (C_is_names : Cal P w K mg base 3 "is_names" s_is_names ["value"] f_is_names) {f : Addr} {fd : FuncData} (F : Fun K "are_wished_orders" "are_wished_orders" s_are_wished_orders f fd) : FnG P w K mg base 4 f fd ["value"] f_are_wished_orders :=
  have sc := sc_are_wished_orders
  fnG_of F sc (hN := by decide) fun cdv A outer sh H ga bo hr hg =>
    (ds_cons (ds_if (PW.pt (dw_or (dt_not (d_test (PE.rd (d_isi (t := "list") (by decide) B.isi (by kernel_rfl) B.list_ (by kernel_rfl) (d_rv (pv 0)))))) (dw_or (dt_cmp (eq_d (hu64 hr)) (d_rv (pv 0)) (PE.rd (d_lst das_nil))) (dw_or (dt_not (d_test (PE.rd (d_isi (t := "list") (by decide) B.isi (by kernel_rfl) B.list_ (by kernel_rfl) (PE.rd (d_ix (d_rv (pv 0)) (PE.rd d_int))))))) (dw_one_or (dt_cmp (eq_d (hu64 hr)) (PE.rd (d_ix (d_rv (pv 0)) (PE.rd d_int))) (PE.rd (d_lst das_nil)))))))) (ds_one (ds_ret d_bl)) ds_nil) (ds_cons (ds_if (dt_not (d_test (PE.rd (d_b1 (all_c rfl) B.all_ (by kernel_rfl) (PE.rd (d_lc rfl sc.nd (blkOk_by (own := [("order", 2)]) (by kernel_rfl)) (PI.b (di_lst (d_v (pv 0)))) (fun _ _ _ _ _ => (dg_name (pg_name (i := 2) sc.nd rfl (by first | exact .inl rfl | exact .inr rfl)))) (fun _ _ _ _ _ => dts_nil) (fun _ _ _ _ _ => (d_and (PE.rd (d_isi (t := "list") (by decide) B.isi (by kernel_rfl) B.list_ (by kernel_rfl) (d_rv (pv 2)))) (d_one (d_b1 (all_c rfl) B.all_ (by kernel_rfl) (PE.rd (d_lc rfl sc.nd (blkOk_by (own := [("name", 3)]) (by kernel_rfl)) (PI.b (di_lst (d_v (pv 2)))) (fun _ _ _ _ _ => (dg_name (pg_name (i := 3) sc.nd rfl (by first | exact .inl rfl | exact .inr rfl)))) (fun _ _ _ _ _ => dts_nil) (fun _ _ _ _ _ => (d_isi (t := "str") (by decide) B.isi (by kernel_rfl) B.str_ (by kernel_rfl) (d_rv (pv 3)))))))))))))))) (ds_one (ds_ret d_bl)) ds_nil) (ds_cons (ds_asg (d_b1 (sorted_c (hu65 hr)) B.sorted_ (by kernel_rfl) (PE.rd (d_ix (d_rv (pv 0)) (PE.rd d_int)))) (dg_name (pg_name (i := 1) sc.nd rfl (by first | exact .inl rfl | exact .inr rfl)))) (ds_one (ds_ret (d_and (PE.rd (dc C_is_names hr hg (das_cons (d_v (pv 1)) das_nil))) (d_and (PE.rd (d_b1 (all_c rfl) B.all_ (by kernel_rfl) (PE.rd (d_lc rfl sc.nd (blkOk_by (own := [("order", 2)]) (by kernel_rfl)) (PI.b (di_lst (d_v (pv 0)))) (fun _ _ _ _ _ => (dg_name (pg_name (i := 2) sc.nd rfl (by first | exact .inl rfl | exact .inr rfl)))) (fun _ _ _ _ _ => dts_nil) (fun _ _ _ _ _ => (d_cmp (eq_d (hu64 hr)) (PE.rd (d_b1 (sorted_c (hu65 hr)) B.sorted_ (by kernel_rfl) (d_rv (pv 2)))) (d_rv (pv 1)))))))) (d_one (dc C_ascends hr hg (das_cons (d_v (pv 0)) das_nil))))))))))
theorem w_check_wished (B : BltX mg) (C_are_wished_orders : Cal P w K mg base 4 "are_wished_orders" s_are_wished_orders ["value"] f_are_wished_orders) {f : Addr} {fd : FuncData} (F : Fun K "check_wished" "check_wished" s_check_wished f fd) : FnG P w K mg base 5 f fd ["orders"] f_check_wished :=
  have sc := sc_check_wished
  fnG_of F sc (hN := by decide) fun cdv A outer sh H ga bo hr hg =>
    (ds_one (ds_if (dt_not (d_test (PE.rd (dc C_are_wished_orders hr hg (das_cons (d_v (pv 0)) das_nil))))) dss_no ds_nil))
theorem wx_check_wished (B : BltX mg) (C_are_wished_orders : Cal P w K mg base 4 "are_wished_orders" s_are_wished_orders ["value"] f_are_wished_orders) {A_InvalidPlan : Addr} (E_InvalidPlan : ErrC P K mg "InvalidPlan" A_InvalidPlan) {f : Addr} {fd : FuncData} (F : Fun K "check_wished" "check_wished" s_check_wished f fd) : FnB P w K mg base 5 f fd ["orders"] fx_check_wished :=
  have sc := sc_check_wished
  fnB_of F sc (hN := by decide) fun cdv A outer sh H ga bo Ex hr hg tk =>
    (dsB_one (dB_if (dt_not (d_test (PE.rd (dc C_are_wished_orders hr hg (das_cons (d_v (pv 0)) das_nil))))) (dsB_one (dB_raise E_InvalidPlan hr tk (d_v (pv 0)))) (dsB_of ds_nil)))
theorem w_size_and_lot (B : BltX mg)  {f : Addr} {fd : FuncData} (F : Fun K "size_and_lot" "size_and_lot" s_size_and_lot f fd) : FnG P w K mg base 1 f fd ["lot"] f_size_and_lot :=
  have sc := sc_size_and_lot
  fnG_of F sc (hN := by decide) fun cdv A outer sh H ga bo hr hg =>
    (ds_one (ds_ret (d_tup (das_cons (d_b1 len_c B.len_ (by kernel_rfl) (d_rv (pv 0))) (das_cons (d_v (pv 0)) das_nil)))))
theorem w_beginnings_in (B : BltX mg) (C_size_and_lot : Cal P w K mg base 1 "size_and_lot" s_size_and_lot ["lot"] f_size_and_lot) (G_size_and_lot : ∃ a, mg "size_and_lot" = some (.ref a)) {f : Addr} {fd : FuncData} (F : Fun K "beginnings_in" "beginnings_in" s_beginnings_in f fd) : FnG P w K mg base 4 f fd ["orders"] f_beginnings_in :=
  have sc := sc_beginnings_in
  fnG_of F sc (hN := by decide) fun cdv A outer sh H ga bo hr hg =>
    (ds_cons (ds_ds2 [3] (i := 1) (hu0 hr) rfl sc.nd rfl rfl (swD_true rfl rfl rfl (by decide +kernel)) (blkOk_by (own := [("order", 2), ("size", 3)]) (by kernel_rfl)) (PI.b (di_lst (d_v (pv 0)))) (fun _ _ _ _ _ => (dg_name (pg_name (i := 2) sc.nd rfl (by first | exact .inl rfl | exact .inr rfl)))) (fun _ _ _ _ _ => dts_nil) (fun _ _ _ _ _ => (di_r1 B.range_ (PE.rd (d_op add_d (d_uw (d_b1 (c1_i len_c) B.len_ (by kernel_rfl) (d_uw (d_v (pv 2))))) (PE.rd d_int))))) (fun _ _ _ _ _ => (dg_name (pg_name (i := 3) sc.nd rfl (by first | exact .inl rfl | exact .inr rfl)))) (fun _ _ _ _ _ => dts_nil) (fun _ _ _ _ _ => (d_t1 tuple_c B.tuple_ (by kernel_rfl) (d_uw (d_b1 (sorted_c (hu65 hr)) B.sorted_ (by kernel_rfl) (d_uw (d_cut (d_uw (d_v (pv 2))) do_none (do_some (d_uw (d_v (pv 3))))))))))) (ds_one (ds_ret (d_sortKey C_size_and_lot (hr.mono (by decide)) hg B.sorted_ (d_uw (d_v (pv 1))) (dk_cons (d_fn G_size_and_lot) dk_nil)))))
theorem w_beginnings_of (B : BltX mg) (C_check_wished : Cal P w K mg base 5 "check_wished" s_check_wished ["orders"] f_check_wished) (C_beginnings_in : Cal P w K mg base 4 "beginnings_in" s_beginnings_in ["orders"] f_beginnings_in) {f : Addr} {fd : FuncData} (F : Fun K "beginnings_of" "beginnings_of" s_beginnings_of f fd) : FnG P w K mg base 6 f fd ["orders"] f_beginnings_of :=
  have sc := sc_beginnings_of
  fnG_of F sc (hN := by decide) fun cdv A outer sh H ga bo hr hg =>
    (ds_cons (ds_do (PE.rd (dcD C_check_wished hr hg (das_cons (d_v (pv 0)) das_nil)))) (ds_one (ds_ret (d_lc rfl sc.nd (blkOk_by (own := [("lot", 1)]) (by kernel_rfl)) (PI.b (di_lst (dc C_beginnings_in hr hg (das_cons (d_v (pv 0)) das_nil)))) (fun _ _ _ _ _ => (dg_name (pg_name (i := 1) sc.nd rfl (by first | exact .inl rfl | exact .inr rfl)))) (fun _ _ _ _ _ => dts_nil) (fun _ _ _ _ _ => (d_t1 list_c B.list_ (by kernel_rfl) (d_uw (d_v (pv 1)))))))))
theorem wx_beginnings_of (B : BltX mg) (C_beginnings_in : Cal P w K mg base 4 "beginnings_in" s_beginnings_in ["orders"] f_beginnings_in) (CB_check_wished : CalB P w K mg base 5 "check_wished" s_check_wished ["orders"] fx_check_wished) {f : Addr} {fd : FuncData} (F : Fun K "beginnings_of" "beginnings_of" s_beginnings_of f fd) : FnB P w K mg base 6 f fd ["orders"] fx_beginnings_of :=
  have sc := sc_beginnings_of
  fnB_of F sc (hN := by decide) fun cdv A outer sh H ga bo Ex hr hg tk =>
    (dsB_cons (dB_do CB_check_wished hr hg tk (das_cons (d_v (pv 0)) das_nil)) (dsB_of (ds_one (ds_ret (d_lc rfl sc.nd (blkOk_by (own := [("lot", 1)]) (by kernel_rfl)) (PI.b (di_lst (dc C_beginnings_in hr hg (das_cons (d_v (pv 0)) das_nil)))) (fun _ _ _ _ _ => (dg_name (pg_name (i := 1) sc.nd rfl (by first | exact .inl rfl | exact .inr rfl)))) (fun _ _ _ _ _ => dts_nil) (fun _ _ _ _ _ => (d_t1 list_c B.list_ (by kernel_rfl) (d_uw (d_v (pv 1))))))))))
theorem wx_can_be_built (B : BltX mg) (CB_check_wished : CalB P w K mg base 5 "check_wished" s_check_wished ["orders"] fx_check_wished) {f : Addr} {fd : FuncData} (F : Fun K "can_be_built" "can_be_built" s_can_be_built f fd) : FnB P w K mg base 6 f fd ["orders"] fx_can_be_built :=
  have sc := sc_can_be_built
  fnB_of F sc (hN := by decide) fun cdv A outer sh H ga bo Ex hr hg tk =>
    (dsB_cons (dB_do CB_check_wished hr hg tk (das_cons (d_v (pv 0)) das_nil)) (dsB_of dss_no))
theorem wx_room_of_orders (B : BltX mg) (CB_check_wished : CalB P w K mg base 5 "check_wished" s_check_wished ["orders"] fx_check_wished) {f : Addr} {fd : FuncData} (F : Fun K "room_of_orders" "room_of_orders" s_room_of_orders f fd) : FnB P w K mg base 6 f fd ["orders"] fx_room_of_orders :=
  have sc := sc_room_of_orders
  fnB_of F sc (hN := by decide) fun cdv A outer sh H ga bo Ex hr hg tk =>
    (dsB_cons (dB_do CB_check_wished hr hg tk (das_cons (d_v (pv 0)) das_nil)) (dsB_of dss_no))
theorem wx_closed_orders (B : BltX mg) (CB_check_wished : CalB P w K mg base 5 "check_wished" s_check_wished ["orders"] fx_check_wished) {f : Addr} {fd : FuncData} (F : Fun K "closed_orders" "closed_orders" s_closed_orders f fd) : FnB P w K mg base 6 f fd ["orders"] fx_closed_orders :=
  have sc := sc_closed_orders
  fnB_of F sc (hN := by decide) fun cdv A outer sh H ga bo Ex hr hg tk =>
    (dsB_cons (dB_do CB_check_wished hr hg tk (das_cons (d_v (pv 0)) das_nil)) (dsB_of dss_no))
theorem wx_lacking_orders (B : BltX mg) (CB_check_wished : CalB P w K mg base 5 "check_wished" s_check_wished ["orders"] fx_check_wished) {f : Addr} {fd : FuncData} (F : Fun K "lacking_orders" "lacking_orders" s_lacking_orders f fd) : FnB P w K mg base 6 f fd ["orders"] fx_lacking_orders :=
  have sc := sc_lacking_orders
  fnB_of F sc (hN := by decide) fun cdv A outer sh H ga bo Ex hr hg tk =>
    (dsB_cons (dB_do CB_check_wished hr hg tk (das_cons (d_v (pv 0)) das_nil)) (dsB_of dss_no))
theorem wx_is_forced (B : BltX mg) (CB_check_wished : CalB P w K mg base 5 "check_wished" s_check_wished ["orders"] fx_check_wished) {f : Addr} {fd : FuncData} (F : Fun K "is_forced" "is_forced" s_is_forced f fd) : FnB P w K mg base 6 f fd ["orders", "value"] fx_is_forced :=
  have sc := sc_is_forced
  fnB_of F sc (hN := by decide) fun cdv A outer sh H ga bo Ex hr hg tk =>
    (dsB_cons (dB_do CB_check_wished hr hg tk (das_cons (d_v (pv 0)) das_nil)) (dsB_of dss_no))
theorem wx_pairs_kept (B : BltX mg) (CB_check_wished : CalB P w K mg base 5 "check_wished" s_check_wished ["orders"] fx_check_wished) {f : Addr} {fd : FuncData} (F : Fun K "pairs_kept" "pairs_kept" s_pairs_kept f fd) : FnB P w K mg base 6 f fd ["orders"] fx_pairs_kept :=
  have sc := sc_pairs_kept
  fnB_of F sc (hN := by decide) fun cdv A outer sh H ga bo Ex hr hg tk =>
    (dsB_cons (dB_do CB_check_wished hr hg tk (das_cons (d_v (pv 0)) das_nil)) (dsB_of dss_no))
theorem wx_follows_pairs (B : BltX mg) (CB_check_wished : CalB P w K mg base 5 "check_wished" s_check_wished ["orders"] fx_check_wished) {f : Addr} {fd : FuncData} (F : Fun K "follows_pairs" "follows_pairs" s_follows_pairs f fd) : FnB P w K mg base 6 f fd ["orders"] fx_follows_pairs :=
  have sc := sc_follows_pairs
  fnB_of F sc (hN := by decide) fun cdv A outer sh H ga bo Ex hr hg tk =>
    (dsB_cons (dB_do CB_check_wished hr hg tk (das_cons (d_v (pv 0)) das_nil)) (dsB_of dss_no))
theorem w_law_hash (B : BltX mg)  {f : Addr} {fd : FuncData} (F : Fun K "_law_hash" "_law_hash" s_law_hash f fd) : FnG P w K mg base 1 f fd ["seed", "index"] f_law_hash :=
  have sc := sc_law_hash
  fnG_of F sc (hN := by decide) fun cdv A outer sh H ga bo hr hg =>
    (ds_cons (ds_asg (d_op mod_d (PE.rd (d_t1 int_c B.int_ (by kernel_rfl) (PE.rd (d_op add_d (PE.rd (d_op add_d (PE.rd (d_op add_d (PE.rd (d_op mul_d (d_rv (pv 0)) (PE.rd d_int))) (PE.rd (d_op mul_d (PE.rd (d_op mul_d (PE.rd d_int) (d_rv (pv 1)))) (d_rv (pv 1)))))) (PE.rd (d_op mul_d (PE.rd d_int) (d_rv (pv 1)))))) (PE.rd d_int))))) (PE.rd d_int)) (dg_name (pg_name (i := 2) sc.nd rfl (by first | exact .inl rfl | exact .inr rfl)))) (ds_cons (ds_asg (d_op mod_d (PE.rd (d_t1 int_c B.int_ (by kernel_rfl) (PE.rd (d_op add_d (PE.rd (d_op add_d (PE.rd (d_op mul_d (d_rv (pv 2)) (d_rv (pv 2)))) (PE.rd (d_op mul_d (PE.rd d_int) (d_rv (pv 1)))))) (PE.rd d_int))))) (PE.rd d_int)) (dg_name (pg_name (i := 2) sc.nd rfl (by first | exact .inl rfl | exact .inr rfl)))) (ds_one (ds_ret (d_op mod_d (PE.rd (d_t1 int_c B.int_ (by kernel_rfl) (PE.rd (d_op mul_d (d_rv (pv 2)) (PE.rd d_int))))) (PE.rd d_int))))))
theorem w_law_random (B : BltX mg) (C__law_hash : Cal P w K mg base 1 "_law_hash" s_law_hash ["seed", "index"] f_law_hash) {f : Addr} {fd : FuncData} (F : Fun K "_law_random" "_law_random" s_law_random f fd) : FnG P w K mg base 2 f fd ["generator", "bound"] f_law_random :=
  have sc := sc_law_random
  fnG_of F sc (hN := by decide) fun cdv A outer sh H ga bo hr hg =>
    (ds_cons (ds_if (dt_cmp (gt_d (hu64 hr)) (PE.rd (d_gen (i := 0) (k := 0) (pv 0))) (PE.rd d_int)) (ds_cons (ds_asg (d_op mod_d (PE.rd (d_t1 int_c B.int_ (by kernel_rfl) (PE.rd (d_gen (i := 0) (k := 0) (pv 0))))) (d_rv (pv 1))) (dg_name (pg_name (i := 2) sc.nd rfl (by first | exact .inl rfl | exact .inr rfl)))) (ds_cons (ds_gen (i := 0) (k := 0) (pv 0) (d_op fdiv_d (PE.rd (d_gen (i := 0) (k := 0) (pv 0))) (d_rv (pv 1)))) (ds_one (ds_ret (d_v (pv 2)))))) ds_nil) (ds_cons (ds_asg d_int (dg_name (pg_name (i := 2) sc.nd rfl (by first | exact .inl rfl | exact .inr rfl)))) (ds_cons (ds_for PassesOwn.never rfl (di_r1 B.range_ (PE.rd (d_op add_d (PE.rd d_int) (PE.rd (d_op fdiv_d (PE.rd (d_bits (d_rv (pv 1)))) (PE.rd d_int)))))) (dg_name (pg_name (i := 3) sc.nd rfl (by first | exact .inl rfl | exact .inr rfl))) (ds_cons (ds_gen (i := 0) (k := 2) (pv 0) (d_op add_d (PE.rd (d_gen (i := 0) (k := 2) (pv 0))) (PE.rd d_int))) (ds_one (ds_asg (d_op add_d (PE.rd (d_op mul_d (d_rv (pv 2)) (PE.rd d_int))) (PE.rd (dc C__law_hash hr hg (das_cons (d_gen (i := 0) (k := 1) (pv 0)) (das_cons (d_gen (i := 0) (k := 2) (pv 0)) das_nil))))) (dg_name (pg_name (i := 2) sc.nd rfl (by first | exact .inl rfl | exact .inr rfl))))))) (ds_one (ds_ret (d_op mod_d (PE.rd (d_t1 int_c B.int_ (by kernel_rfl) (d_rv (pv 2)))) (d_rv (pv 1))))))))
theorem w_law_same (B : BltX mg) (a : At K mg "_law_same" s_law_same ["found", "due"]) : ∀ n, Cal P w K mg base n "_law_same" s_law_same ["found", "due"] (f_law_same n)
  | 0 => a.cal fun f fd F => FnG.stuck
  | n + 1 =>
    have sc := sc_law_same
    have C__law_same := w_law_same B a n
    a.cal fun f fd F => fnG_of F sc (hN := by decide) fun cdv A outer sh H ga bo hr hg =>
    (ds_cons (ds_if (d_test (PE.rd (d_isi2 (t := "list") (u := "tuple") (by decide) (by decide) B.isi (by kernel_rfl) B.list_ (by kernel_rfl) B.tuple_ (by kernel_rfl) (d_rv (pv 1))))) (ds_cons (ds_if (PW.pt (dw_or (dt_cmp (ne_d (hu64 hr)) (PE.rd (d_isi (t := "list") (by decide) B.isi (by kernel_rfl) B.list_ (by kernel_rfl) (d_rv (pv 0)))) (PE.rd (d_isi (t := "list") (by decide) B.isi (by kernel_rfl) B.list_ (by kernel_rfl) (d_rv (pv 1))))) (dw_one_or (dt_cmp (ne_d (hu64 hr)) (PE.rd (d_isi (t := "tuple") (by decide) B.isi (by kernel_rfl) B.tuple_ (by kernel_rfl) (d_rv (pv 0)))) (PE.rd (d_isi (t := "tuple") (by decide) B.isi (by kernel_rfl) B.tuple_ (by kernel_rfl) (d_rv (pv 1)))))))) (ds_one (ds_ret d_bl)) ds_nil) (ds_one (ds_ret (d_and (PE.rd (d_cmp (eq_d (hu64 hr)) (PE.rd (d_b1 len_c B.len_ (by kernel_rfl) (d_rv (pv 0)))) (PE.rd (d_b1 len_c B.len_ (by kernel_rfl) (d_rv (pv 1)))))) (d_one (d_b1 (all_c rfl) B.all_ (by kernel_rfl) (PE.rd (d_lc rfl sc.nd (blkOk_by (own := [("one", 2), ("other", 3)]) (by kernel_rfl)) (PI.b (di_zip B.zip_ (d_v (pv 0)) (d_v (pv 1)))) (fun _ _ _ _ _ => (dg_tup rfl (dgs_cons (dg_name (pg_name (i := 2) sc.nd rfl (by first | exact .inl rfl | exact .inr rfl))) (dgs_cons (dg_name (pg_name (i := 3) sc.nd rfl (by first | exact .inl rfl | exact .inr rfl))) dgs_nil)))) (fun _ _ _ _ _ => dts_nil) (fun _ _ _ _ _ => (dc C__law_same hr hg (das_cons (d_v (pv 2)) (das_cons (d_v (pv 3)) das_nil)) (Nat.le_refl _))))))))))) ds_nil) (ds_cons (ds_if (d_test (PE.rd (d_isi (t := "dict") (by decide) B.isi (by kernel_rfl) B.dict_ (by kernel_rfl) (d_rv (pv 1))))) (ds_cons (ds_if (PW.pt (dw_or (dt_not (d_test (PE.rd (d_isi (t := "dict") (by decide) B.isi (by kernel_rfl) B.dict_ (by kernel_rfl) (d_rv (pv 0)))))) (dw_one_or (dt_cmp (ne_d (hu64 hr)) (PE.rd (d_b1 len_c B.len_ (by kernel_rfl) (d_rv (pv 0)))) (PE.rd (d_b1 len_c B.len_ (by kernel_rfl) (d_rv (pv 1)))))))) (ds_one (ds_ret d_bl)) ds_nil) (ds_one (ds_ret (d_b1 (all_c rfl) B.all_ (by kernel_rfl) (PE.rd (d_lc rfl sc.nd (blkOk_by (own := [("name", 4)]) (by kernel_rfl)) (PI.b (di_lst (d_v (pv 1)))) (fun _ _ _ _ _ => (dg_name (pg_name (i := 4) sc.nd rfl (by first | exact .inl rfl | exact .inr rfl)))) (fun _ _ _ _ _ => dts_nil) (fun _ _ _ _ _ => (d_and (PE.rd (d_cmp (in_d (hu65 hr)) (d_rv (pv 4)) (d_rv (pv 0)))) (d_one (dc C__law_same hr hg (das_cons (d_ix (d_rv (pv 0)) (d_rv (pv 4))) (das_cons (d_ix (d_rv (pv 1)) (d_rv (pv 4))) das_nil)) (Nat.le_refl _))))))))))) ds_nil) (ds_cons (ds_if (d_test (PE.rd (d_isi (t := "str") (by decide) B.isi (by kernel_rfl) B.str_ (by kernel_rfl) (d_rv (pv 1))))) (ds_one (ds_ret (d_and (PE.rd (d_isi (t := "str") (by decide) B.isi (by kernel_rfl) B.str_ (by kernel_rfl) (d_rv (pv 0)))) (d_one (d_cmp (eq_d (hu64 hr)) (d_rv (pv 0)) (d_rv (pv 1))))))) ds_nil) (ds_cons (ds_if (dt_isN (d_rv (pv 1))) (ds_one (ds_ret (d_isN (d_rv (pv 0))))) ds_nil) (ds_one (ds_ret (d_and (PE.rd (d_isi (t := "int") (by decide) B.isi (by kernel_rfl) B.int_ (by kernel_rfl) (d_rv (pv 0)))) (d_and (PE.rd (d_cmp (eq_d (hu64 hr)) (PE.rd (d_isi (t := "bool") (by decide) B.isi (by kernel_rfl) B.bool_ (by kernel_rfl) (d_rv (pv 0)))) (PE.rd (d_isi (t := "bool") (by decide) B.isi (by kernel_rfl) B.bool_ (by kernel_rfl) (d_rv (pv 1)))))) (d_one (d_cmp (eq_d (hu64 hr)) (d_rv (pv 0)) (d_rv (pv 1))))))))))))
theorem w_law_shuffled (B : BltX mg) (C__law_random : Cal P w K mg base 2 "_law_random" s_law_random ["generator", "bound"] f_law_random) {f : Addr} {fd : FuncData} (F : Fun K "_law_shuffled" "_law_shuffled" s_law_shuffled f fd) : FnG P w K mg base 3 f fd ["generator", "things"] f_law_shuffled :=
  have sc := sc_law_shuffled
  fnG_of F sc (hN := by decide) fun cdv A outer sh H ga bo hr hg =>
    (ds_cons (ds_parOO (by decide) (ps_par (i := 2) (j := 3) rfl sc.nd rfl rfl (by decide) rfl rfl (pa_cons (dn_list B.list_ (by kernel_rfl) (d_rv (pv 1))) (pa_cons (dn_lst das_nil) pa_nil)) rfl)) (ds_cons (ds_while 1000 PassesOwn.never (dt_cmp (ne_d (hu64 hr)) (d_rv (pv 2)) (PE.rd (d_lst das_nil))) (ds_one (ds_apop (pv 3) (pv 2) (dc C__law_random hr hg (das_cons (d_v (pv 0)) (das_cons (d_b1 len_c B.len_ (by kernel_rfl) (d_rv (pv 2))) das_nil)))))) (dss_frz (ds_one (ds_ret (d_v (pv 3)))))))
theorem w_law_permuted (B : BltX mg)  {f : Addr} {fd : FuncData} (F : Fun K "_law_permuted" "_law_permuted" s_law_permuted f fd) : FnG P w K mg base 1 f fd ["items"] f_law_permuted :=
  have sc := sc_law_permuted
  fnG_of F sc (hN := by decide) fun cdv A outer sh H ga bo hr hg =>
    (ds_cons (ds_asg (d_lst (das_cons (d_lst das_nil) das_nil)) (dg_name (pg_name (i := 1) sc.nd rfl (by first | exact .inl rfl | exact .inr rfl)))) (ds_cons (ds_for PassesOwn.never rfl (di_r1 B.range_ (PE.rd (d_b1 len_c B.len_ (by kernel_rfl) (d_rv (pv 0))))) (dg_name (pg_name (i := 2) sc.nd rfl (by first | exact .inl rfl | exact .inr rfl))) (ds_cons (ds_asg (d_lst das_nil) (dg_name (pg_name (i := 3) sc.nd rfl (by first | exact .inl rfl | exact .inr rfl)))) (ds_cons (ds_for PassesOwn.never rfl (di_lst (d_v (pv 1))) (dg_name (pg_name (i := 4) sc.nd rfl (by first | exact .inl rfl | exact .inr rfl))) (ds_one (ds_asg (d_op add_d (d_rv (pv 3)) (PE.rd (d_lc rfl sc.nd (blkOk_by (own := [("item", 5)]) (by kernel_rfl)) (PI.b (di_lst (d_v (pv 0)))) (fun _ _ _ _ _ => (dg_name (pg_name (i := 5) sc.nd rfl (by first | exact .inl rfl | exact .inr rfl)))) (fun _ _ _ _ _ => (dts_one (dt_cmp (notIn_d (hu65 hr)) (d_rv (pv 5)) (d_rv (pv 4))))) (fun _ _ _ _ _ => (d_op add_d (d_rv (pv 4)) (PE.rd (d_lst (das_cons (d_v (pv 5)) das_nil)))))))) (dg_name (pg_name (i := 3) sc.nd rfl (by first | exact .inl rfl | exact .inr rfl)))))) (ds_one (ds_asg (d_v (pv 3)) (dg_name (pg_name (i := 1) sc.nd rfl (by first | exact .inl rfl | exact .inr rfl)))))))) (ds_one (ds_ret (d_v (pv 1))))))
theorem w_law_names (B : BltX mg) (C__law_shuffled : Cal P w K mg base 3 "_law_shuffled" s_law_shuffled ["generator", "things"] f_law_shuffled) (C__law_random : Cal P w K mg base 2 "_law_random" s_law_random ["generator", "bound"] f_law_random) {f : Addr} {fd : FuncData} (F : Fun K "_law_names" "_law_names" s_law_names f fd) : FnG P w K mg base 4 f fd ["generator", "most"] f_law_names :=
  have sc := sc_law_names
  fnG_of F sc (hN := by decide) fun cdv A outer sh H ga bo hr hg =>
    (ds_one (ds_ret (d_b1 (sorted_c (hu65 hr)) B.sorted_ (by kernel_rfl) (PE.rd (d_cut (PE.rd (dc C__law_shuffled hr hg (das_cons (d_v (pv 0)) (das_cons (d_lst (das_cons d_str (das_cons d_str (das_cons d_str (das_cons d_str (das_cons d_str (das_cons d_str (das_cons d_str (das_cons d_str das_nil))))))))) das_nil)))) do_none (do_some (PE.rd (d_op add_d (PE.rd d_int) (PE.rd (dc C__law_random hr hg (das_cons (d_v (pv 0)) (das_cons (d_v (pv 1)) das_nil))))))))))))
theorem w_law_wished (B : BltX mg) (C__law_permuted : Cal P w K mg base 1 "_law_permuted" s_law_permuted ["items"] f_law_permuted) (C__law_shuffled : Cal P w K mg base 3 "_law_shuffled" s_law_shuffled ["generator", "things"] f_law_shuffled) (C__law_random : Cal P w K mg base 2 "_law_random" s_law_random ["generator", "bound"] f_law_random) {f : Addr} {fd : FuncData} (F : Fun K "_law_wished" "_law_wished" s_law_wished f fd) : FnG P w K mg base 4 f fd ["generator", "names"] f_law_wished :=
  have sc := sc_law_wished
  fnG_of F sc (hN := by decide) fun cdv A outer sh H ga bo hr hg =>
    (ds_cons (ds_asg (dc C__law_permuted hr hg (das_cons (d_v (pv 1)) das_nil)) (dg_name (pg_name (i := 2) sc.nd rfl (by first | exact .inl rfl | exact .inr rfl)))) (ds_one (ds_ret (d_b1 (sorted_c (hu65 hr)) B.sorted_ (by kernel_rfl) (PE.rd (d_cut (PE.rd (dc C__law_shuffled hr hg (das_cons (d_v (pv 0)) (das_cons (d_v (pv 2)) das_nil)))) do_none (do_some (PE.rd (d_op add_d (PE.rd d_int) (PE.rd (dc C__law_random hr hg (das_cons (d_v (pv 0)) (das_cons (d_b2 (min2_c rfl) B.min_ (by kernel_rfl) (PE.rd (d_b1 len_c B.len_ (by kernel_rfl) (d_rv (pv 2)))) (PE.rd d_int)) das_nil)))))))))))))
theorem w_law_begun (B : BltX mg)  {f : Addr} {fd : FuncData} (F : Fun K "_law_begun" "_law_begun" s_law_begun f fd) : FnG P w K mg base 1 f fd ["orders"] f_law_begun :=
  have sc := sc_law_begun
  fnG_of F sc (hN := by decide) fun cdv A outer sh H ga bo hr hg =>
    (ds_cons (ds_asg (d_lst das_nil) (dg_name (pg_name (i := 1) sc.nd rfl (by first | exact .inl rfl | exact .inr rfl)))) (ds_cons (ds_for PassesOwn.never rfl (di_lst (d_v (pv 0))) (dg_name (pg_name (i := 2) sc.nd rfl (by first | exact .inl rfl | exact .inr rfl))) (ds_one (ds_for PassesOwn.never rfl (di_r1 B.range_ (PE.rd (d_op add_d (PE.rd (d_b1 len_c B.len_ (by kernel_rfl) (d_rv (pv 2)))) (PE.rd d_int)))) (dg_name (pg_name (i := 3) sc.nd rfl (by first | exact .inl rfl | exact .inr rfl))) (ds_cons (ds_asg (d_b1 (sorted_c (hu65 hr)) B.sorted_ (by kernel_rfl) (PE.rd (d_cut (d_rv (pv 2)) do_none (do_some (d_rv (pv 3)))))) (dg_name (pg_name (i := 4) sc.nd rfl (by first | exact .inl rfl | exact .inr rfl)))) (ds_one (ds_asg (d_op add_d (d_rv (pv 1)) (PE.rd (d_if (dt_cmp (notIn_d (hu65 hr)) (d_rv (pv 4)) (d_rv (pv 1))) (d_lst (das_cons (d_v (pv 4)) das_nil)) (d_lst das_nil)))) (dg_name (pg_name (i := 1) sc.nd rfl (by first | exact .inl rfl | exact .inr rfl))))))))) (ds_one (ds_ret (d_lc rfl sc.nd (blkOk_by (own := [("size", 3), ("lot", 4)]) (by kernel_rfl)) (PI.b (di_lst (d_b1 (sorted_c (hu65 hr)) B.sorted_ (by kernel_rfl) (PE.rd (d_lc rfl sc.nd (blkOk_by (own := [("lot", 4)]) (by kernel_rfl)) (PI.b (di_lst (d_v (pv 1)))) (fun _ _ _ _ _ => (dg_name (pg_name (i := 4) sc.nd rfl (by first | exact .inl rfl | exact .inr rfl)))) (fun _ _ _ _ _ => dts_nil) (fun _ _ _ _ _ => (d_tup (das_cons (d_b1 len_c B.len_ (by kernel_rfl) (d_rv (pv 4))) (das_cons (d_v (pv 4)) das_nil))))))))) (fun _ _ _ _ _ => (dg_tup rfl (dgs_cons (dg_name (pg_name (i := 3) sc.nd rfl (by first | exact .inl rfl | exact .inr rfl))) (dgs_cons (dg_name (pg_name (i := 4) sc.nd rfl (by first | exact .inl rfl | exact .inr rfl))) dgs_nil)))) (fun _ _ _ _ _ => dts_nil) (fun _ _ _ _ _ => (d_v (pv 4))))))))
theorem w_law_no_orders (B : BltX mg)  {f : Addr} {fd : FuncData} (F : Fun K "_law_no_orders" "_law_no_orders" s_law_no_orders f fd) : FnG P w K mg base 1 f fd ["orders"] f_law_no_orders :=
  have sc := sc_law_no_orders
  fnG_of F sc (hN := by decide) fun cdv A outer sh H ga bo hr hg =>
    (ds_cons (ds_asg (d_ix (d_rv (pv 0)) (PE.rd d_int)) (dg_name (pg_name (i := 1) sc.nd rfl (by first | exact .inl rfl | exact .inr rfl)))) (ds_one (ds_ret (d_lst (das_cons d_non (das_cons (d_lst das_nil) (das_cons (d_tup das_nil) (das_cons d_dct0 (das_cons d_str (das_cons (d_t1 tuple_c B.tuple_ (by kernel_rfl) (d_rv (pv 0))) (das_cons (d_lst (das_cons (d_lst das_nil) das_nil)) (das_cons (d_op add_d (d_rv (pv 0)) (PE.rd (d_cut (d_rv (pv 0)) (do_some (PE.rd (d_neg (PE.rd d_int)))) do_none))) (das_cons (d_op add_d (d_rv (pv 0)) (PE.rd (d_lst (das_cons d_non das_nil)))) (das_cons (d_op add_d (d_rv (pv 0)) (PE.rd (d_lst (das_cons (d_op add_d (d_rv (pv 1)) (PE.rd (d_cut (d_rv (pv 1)) do_none (do_some (PE.rd d_int))))) das_nil)))) (das_cons (d_op add_d (d_rv (pv 0)) (PE.rd (d_lst (das_cons (d_op add_d (PE.rd (d_cut (d_rv (pv 1)) (do_some (PE.rd d_int)) do_none)) (PE.rd (d_lst (das_cons d_str das_nil)))) das_nil)))) (das_cons (d_lst (das_cons (d_t1 tuple_c B.tuple_ (by kernel_rfl) (d_rv (pv 1))) das_nil)) (das_cons (d_lst (das_cons (d_op add_d (d_rv (pv 1)) (PE.rd (d_lst (das_cons d_str das_nil)))) das_nil)) (das_cons (d_lst (das_cons (d_op add_d (d_rv (pv 1)) (PE.rd (d_lst (das_cons d_int das_nil)))) das_nil)) (das_cons (d_lst (das_cons (d_op add_d (d_rv (pv 1)) (PE.rd (d_lst (das_cons (d_lst (das_cons (d_ix (d_rv (pv 1)) (PE.rd d_int)) das_nil)) das_nil)))) das_nil)) (das_cons (d_lst (das_cons (d_op mul_d (PE.rd (d_cut (d_rv (pv 1)) do_none (do_some (PE.rd d_int)))) (PE.rd d_int)) das_nil)) (das_cons (d_op add_d (d_rv (pv 0)) (PE.rd (d_lst (das_cons (d_cut (d_rv (pv 1)) (do_some (PE.rd d_int)) do_none) das_nil)))) (das_cons (d_lst (das_cons (d_op add_d (PE.rd (d_t1 list_c B.list_ (by kernel_rfl) (d_rv (pv 1)))) (PE.rd (d_lst (das_cons d_str das_nil)))) (das_cons (d_t1 list_c B.list_ (by kernel_rfl) (d_rv (pv 1))) das_nil))) (das_cons (d_v (pv 1)) das_nil)))))))))))))))))))))))
theorem w_law_are_wished (B : BltX mg)  {f : Addr} {fd : FuncData} (F : Fun K "_law_are_wished" "_law_are_wished" s_law_are_wished f fd) : FnG P w K mg base 1 f fd ["value"] f_law_are_wished :=
  have sc := sc_law_are_wished
  fnG_of F sc (hN := by decide) fun cdv A outer sh H ga bo hr hg =>
    (ds_cons (ds_if (PW.pt (dw_or (dt_not (d_test (PE.rd (d_isi (t := "list") (by decide) B.isi (by kernel_rfl) B.list_ (by kernel_rfl) (d_rv (pv 0)))))) (dw_or (dt_cmp (eq_d (hu64 hr)) (d_rv (pv 0)) (PE.rd (d_lst das_nil))) (dw_or (dt_not (d_test (PE.rd (d_isi (t := "list") (by decide) B.isi (by kernel_rfl) B.list_ (by kernel_rfl) (PE.rd (d_ix (d_rv (pv 0)) (PE.rd d_int))))))) (dw_one_or (dt_cmp (eq_d (hu64 hr)) (PE.rd (d_ix (d_rv (pv 0)) (PE.rd d_int))) (PE.rd (d_lst das_nil)))))))) (ds_one (ds_ret d_bl)) ds_nil) (ds_cons (ds_for PassesOwn.never rfl (di_lst (d_v (pv 0))) (dg_name (pg_name (i := 1) sc.nd rfl (by first | exact .inl rfl | exact .inr rfl))) (ds_cons (ds_if (PW.pt (dw_or (dt_not (d_test (PE.rd (d_isi (t := "list") (by decide) B.isi (by kernel_rfl) B.list_ (by kernel_rfl) (d_rv (pv 1)))))) (dw_one_or (dt_cmp (ne_d (hu64 hr)) (PE.rd (d_lc rfl sc.nd (blkOk_by (own := [("name", 2)]) (by kernel_rfl)) (PI.b (di_lst (d_v (pv 1)))) (fun _ _ _ _ _ => (dg_name (pg_name (i := 2) sc.nd rfl (by first | exact .inl rfl | exact .inr rfl)))) (fun _ _ _ _ _ => (dts_one (PW.pt (dw_or (dt_not (d_test (PE.rd (d_isi (t := "str") (by decide) B.isi (by kernel_rfl) B.str_ (by kernel_rfl) (d_rv (pv 2)))))) (dw_or (dt_not (d_test (PE.rd (d_alnum (d_rv (pv 2)))))) (dw_or (dt_cmp (ne_d (hu64 hr)) (PE.rd (d_lower (d_rv (pv 2)))) (d_rv (pv 2))) (dw_or (dt_cmp (gt_d (hu64 hr)) (PE.rd (d_b1 len_c B.len_ (by kernel_rfl) (d_rv (pv 2)))) (PE.rd d_int)) (dw_one_or (dt_not (d_test (PE.rd (d_alpha (PE.rd (d_ixs (d_rv (pv 2)) (PE.rd d_int))))))))))))))) (fun _ _ _ _ _ => (d_v (pv 2))))) (PE.rd (d_lst das_nil)))))) (ds_one (ds_ret d_bl)) ds_nil) (ds_one (ds_if (PW.pt (dw_or (dt_cmp (ne_d (hu64 hr)) (PE.rd (d_b1 (sorted_c (hu65 hr)) B.sorted_ (by kernel_rfl) (d_rv (pv 1)))) (PE.rd (d_b1 (sorted_c (hu65 hr)) B.sorted_ (by kernel_rfl) (PE.rd (d_ix (d_rv (pv 0)) (PE.rd d_int)))))) (dw_one_or (dt_cmp (ne_d (hu64 hr)) (PE.rd (d_lenset B.len_ B.set_ (d_rv (pv 1)))) (PE.rd (d_b1 len_c B.len_ (by kernel_rfl) (d_rv (pv 1)))))))) (ds_one (ds_ret d_bl)) ds_nil)))) (ds_one (ds_ret (d_cmp (eq_d (hu64 hr)) (PE.rd (d_lc rfl sc.nd (blkOk_by (own := [("at", 3)]) (by kernel_rfl)) (PI.b (di_r2 B.range_ (PE.rd d_int) (PE.rd (d_b1 len_c B.len_ (by kernel_rfl) (d_rv (pv 0)))))) (fun _ _ _ _ _ => (dg_name (pg_name (i := 3) sc.nd rfl (by first | exact .inl rfl | exact .inr rfl)))) (fun _ _ _ _ _ => (dts_one (dt_not (dt_cmp (lt_d (hu64 hr)) (PE.rd (d_ix (d_rv (pv 0)) (PE.rd (d_op sub_d (d_rv (pv 3)) (PE.rd d_int))))) (PE.rd (d_ix (d_rv (pv 0)) (d_rv (pv 3)))))))) (fun _ _ _ _ _ => (d_v (pv 3))))) (PE.rd (d_lst das_nil)))))))
theorem w_law_caught (B : BltX mg)  (TB : TabB P w K mg base 6 tab) {cE : Value} (hgE : mg "EscapeError" = some cE) (hEm : ∀ z ∈ errs, ∀ C, mg z = some (.ref C) → PySem.W.exmOne K (.ref C) cE = some true) (hEr : ∀ x, ∀ C, mg x = some (.ref C) → x ∈ errs → ErrIs K mg x C) (ET_InvalidPlan : ErrT K mg errs "InvalidPlan") {f : Addr} {fd : FuncData} (F : Fun K "_law_caught" "_law_caught" s_law_caught f fd) : FnG P w K mg base 7 f fd ["call", "parts"] f_law_caught :=
  have sc := sc_law_caught
  fnG_of F sc (hN := by decide) fun cdv A outer sh H ga bo hr hg =>
    (ds_cons (ds_par (by decide) (ps_par (i := 2) (j := 3) rfl sc.nd rfl rfl (by decide) rfl rfl (pa_cons d_non (pa_cons (d_b1 (reprN_c hg (hu65 hr)) B.repr_ (by kernel_rfl) (d_rv (pv 1))) pa_nil)) rfl)) (ds_cons (ds_try (i := 4) (j := 2) rfl rfl rfl sc.nd rfl rfl rfl rfl ⟨rfl, by decide, .inl hgE⟩ hEm (fun W pn xe tk => (dC_one (dC_if (dt_cmp (eq_d (hu64 hr)) (PE.rd (d_b1 len_c B.len_ (by kernel_rfl) (d_rv (pv 1)))) (PE.rd d_int)) (dC_one (dC_call TB hr hg tk rfl (by first | exact .inl rfl | exact .inr (.inl rfl)) (das_cons (d_ix (d_rv (pv 1)) (PE.rd d_int)) das_nil))) (dC_one (dC_if (dt_cmp (eq_d (hu64 hr)) (PE.rd (d_b1 len_c B.len_ (by kernel_rfl) (d_rv (pv 1)))) (PE.rd d_int)) (dC_one (dC_call TB hr hg tk rfl (by first | exact .inl rfl | exact .inr (.inl rfl)) (das_cons (d_ix (d_rv (pv 1)) (PE.rd d_int)) (das_cons (d_ix (d_rv (pv 1)) (PE.rd d_int)) das_nil)))) (dC_one (dC_if (dt_cmp (eq_d (hu64 hr)) (PE.rd (d_b1 len_c B.len_ (by kernel_rfl) (d_rv (pv 1)))) (PE.rd d_int)) (dC_one (dC_call TB hr hg tk rfl (by first | exact .inl rfl | exact .inr (.inl rfl)) (das_cons (d_ix (d_rv (pv 1)) (PE.rd d_int)) (das_cons (d_ix (d_rv (pv 1)) (PE.rd d_int)) (das_cons (d_ix (d_rv (pv 1)) (PE.rd d_int)) das_nil))))) (dC_one (dC_if (dt_cmp (eq_d (hu64 hr)) (PE.rd (d_b1 len_c B.len_ (by kernel_rfl) (d_rv (pv 1)))) (PE.rd d_int)) (dC_one (dC_call TB hr hg tk rfl (by first | exact .inl rfl | exact .inr (.inl rfl)) (das_cons (d_ix (d_rv (pv 1)) (PE.rd d_int)) (das_cons (d_ix (d_rv (pv 1)) (PE.rd d_int)) (das_cons (d_ix (d_rv (pv 1)) (PE.rd d_int)) (das_cons (d_ix (d_rv (pv 1)) (PE.rd d_int)) das_nil)))))) (dC_one (dC_call TB hr hg tk rfl (by first | exact .inl rfl | exact .inr (.inl rfl)) (das_cons (d_ix (d_rv (pv 1)) (PE.rd d_int)) (das_cons (d_ix (d_rv (pv 1)) (PE.rd d_int)) (das_cons (d_ix (d_rv (pv 1)) (PE.rd d_int)) (das_cons (d_ix (d_rv (pv 1)) (PE.rd d_int)) (das_cons (d_ix (d_rv (pv 1)) (PE.rd d_int)) das_nil))))))))))))))))) (ds_cons (ds_if (dt_cmp (ne_d (hu64 hr)) (PE.rd (d_b1 (reprN_c hg (hu65 hr)) B.repr_ (by kernel_rfl) (d_rv (pv 1)))) (d_rv (pv 3))) (ds_one (ds_ret (d_lst (das_cons d_str das_nil)))) ds_nil) (ds_cons (ds_par (by decide) (ps_par (i := 5) (j := 6) rfl sc.nd rfl rfl (by decide) rfl rfl (pa_cons (d_lst (das_cons d_str das_nil)) (pa_cons (d_lst (das_cons (d_isE ET_InvalidPlan B.isi (d_v (pv 2))) das_nil)) pa_nil)) rfl)) (ds_one (ds_ret (d_if (dt_isN (d_rv (pv 2))) d_non (d_lst (das_cons (d_lc rfl sc.nd (blkOk_by (own := [("word", 7), ("one", 8)]) (by kernel_rfl)) (PI.b (di_zip B.zip_ (d_v (pv 5)) (d_v (pv 6)))) (fun _ _ _ _ _ => (dg_tup rfl (dgs_cons (dg_name (pg_name (i := 7) sc.nd rfl (by first | exact .inl rfl | exact .inr rfl))) (dgs_cons (dg_name (pg_name (i := 8) sc.nd rfl (by first | exact .inl rfl | exact .inr rfl))) dgs_nil)))) (fun _ _ _ _ _ => (dts_one (d_test (d_rv (pv 8))))) (fun _ _ _ _ _ => (d_v (pv 7)))) (das_cons (d_b1 (reprN_c hg (hu65 hr)) B.repr_ (by kernel_rfl) (PE.rd (d_valx hEr (d_v (pv 2))))) das_nil))))))))))
theorem w_law_right (B : BltX mg) (C__law_wished : Cal P w K mg base 4 "_law_wished" s_law_wished ["generator", "names"] f_law_wished) (C__law_names : Cal P w K mg base 4 "_law_names" s_law_names ["generator", "most"] f_law_names) (C__law_begun : Cal P w K mg base 1 "_law_begun" s_law_begun ["orders"] f_law_begun) (C_beginnings_of : Cal P w K mg base 6 "beginnings_of" s_beginnings_of ["orders"] f_beginnings_of) (C__law_same : Cal P w K mg base 4 "_law_same" s_law_same ["found", "due"] (f_law_same 4)) (C_are_wished_orders : Cal P w K mg base 4 "are_wished_orders" s_are_wished_orders ["value"] f_are_wished_orders) (C__law_no_orders : Cal P w K mg base 1 "_law_no_orders" s_law_no_orders ["orders"] f_law_no_orders) (C__law_are_wished : Cal P w K mg base 1 "_law_are_wished" s_law_are_wished ["value"] f_law_are_wished) (C__law_caught : Cal P w K mg base 7 "_law_caught" s_law_caught ["call", "parts"] f_law_caught) (G_follows_pairs : ∃ a, mg "follows_pairs" = some (.ref a)) (G_pairs_kept : ∃ a, mg "pairs_kept" = some (.ref a)) (G_is_forced : ∃ a, mg "is_forced" = some (.ref a)) (G_lacking_orders : ∃ a, mg "lacking_orders" = some (.ref a)) (G_closed_orders : ∃ a, mg "closed_orders" = some (.ref a)) (G_room_of_orders : ∃ a, mg "room_of_orders" = some (.ref a)) (G_can_be_built : ∃ a, mg "can_be_built" = some (.ref a)) (G_beginnings_of : ∃ a, mg "beginnings_of" = some (.ref a)) {f : Addr} {fd : FuncData} (F : Fun K "_law_right" "_law_right" s_law_right f fd) : FnG P w K mg base 8 f fd ["generator"] f_law_right :=
  have sc := sc_law_right
  fnG_of F sc (hN := by decide) fun cdv A outer sh H ga bo hr hg =>
    (ds_cons (ds_asg (dc C__law_wished hr hg (das_cons (d_v (pv 0)) (das_cons (dc C__law_names hr hg (das_cons (d_v (pv 0)) (das_cons d_int das_nil))) das_nil))) (dg_name (pg_name (i := 1) sc.nd rfl (by first | exact .inl rfl | exact .inr rfl)))) (ds_cons (ds_par (by decide) (ps_par (i := 2) (j := 3) rfl sc.nd rfl rfl (by decide) rfl rfl (pa_cons (d_b1 (reprN_c hg (hu65 hr)) B.repr_ (by kernel_rfl) (d_rv (pv 1))) (pa_cons (dc C__law_begun hr hg (das_cons (d_v (pv 1)) das_nil)) pa_nil)) rfl)) (dss_split 4 (dss_scope (dSS_cons (fun ga bo => (ds_asg (d_lst (das_cons (dc C_beginnings_of hr hg (das_cons (d_v (pv 1)) das_nil)) (das_cons (dcK0 C_beginnings_of hr hg (kw_beginnings_of_0_orders) (dk_cons (d_v (pv 1)) dk_nil) (esN_cons esN_nil)) das_nil))) (dg_name (pg_name (i := 4) sc.nd rfl (by first | exact .inl rfl | exact .inr rfl))))) (dSS_cons (fun ga bo => (ds_if (PW.pt (dw_or (dt_not (d_test (d_uw (dcD C__law_same hr hg (das_cons (d_v (pv 4)) (das_cons (d_lst (das_cons (d_v (pv 3)) (das_cons (d_v (pv 3)) das_nil))) das_nil)))))) (dw_one_or (dt_not (d_test (d_uw (dcD C__law_same hr hg (das_cons (d_lst (das_cons (dcD C_are_wished_orders hr hg (das_cons (d_v (pv 1)) das_nil)) (das_cons (dcDK0 C_are_wished_orders hr hg (kw_are_wished_orders_0_value) (dk_cons (d_v (pv 1)) dk_nil) (esN_cons esN_nil)) das_nil))) (das_cons (d_lst (das_cons d_bl (das_cons d_bl das_nil))) das_nil))))))))) (ds_one (ds_ret d_bl)) ds_nil)) (dSS_ops (o1 := [.each 4 [0] 5]) (o2 := [.one 4 [0]]) (pops_each (ps_each (j := 5) (pa_ix (k := 0) (pa_nm (pv 4))) sc.nd rfl (by first | exact .inl rfl | exact .inr rfl) (ps_oddP (pa_nm (pv 5)))) (pops_one (ps_oddP (pa_ix (k := 0) (pa_nm (pv 4)))) pops_nil)))))) (ds_cons (ds_for PassesOwn.never rfl (di_lst (d_op add_d (PE.rd (dc C__law_no_orders hr hg (das_cons (d_v (pv 1)) das_nil))) (PE.rd (d_lst (das_cons (d_rev (d_rv (pv 1))) (das_cons (d_cut (d_rv (pv 1)) (do_some (PE.rd d_int)) do_none) (das_cons (d_cut (d_rv (pv 1)) do_none (do_some (PE.rd d_int))) das_nil))))))) (dg_name (pg_name (i := 6) sc.nd rfl (by first | exact .inl rfl | exact .inr rfl))) (ds_cons (ds_asg (d_tup (das_cons (dc C__law_are_wished hr hg (das_cons (d_v (pv 6)) das_nil)) (das_cons (d_b1 (reprN_c hg (hu65 hr)) B.repr_ (by kernel_rfl) (d_rv (pv 6))) das_nil))) (dg_tup rfl (dgs_cons (dg_name (pg_name (i := 7) sc.nd rfl (by first | exact .inl rfl | exact .inr rfl))) (dgs_cons (dg_name (pg_name (i := 8) sc.nd rfl (by first | exact .inl rfl | exact .inr rfl))) dgs_nil)))) (ds_cons (ds_if (PW.pt (dw_or (dt_not (d_test (PE.rd (dc C__law_same hr hg (das_cons (d_lst (das_cons (dc C_are_wished_orders hr hg (das_cons (d_v (pv 6)) das_nil)) (das_cons (dcK0 C_are_wished_orders hr hg (kw_are_wished_orders_0_value) (dk_cons (d_v (pv 6)) dk_nil) (esN_cons esN_nil)) das_nil))) (das_cons (d_lst (das_cons (d_v (pv 7)) (das_cons (d_v (pv 7)) das_nil))) das_nil)))))) (dw_one_or (dt_cmp (ne_d (hu64 hr)) (PE.rd (d_b1 (reprN_c hg (hu65 hr)) B.repr_ (by kernel_rfl) (d_rv (pv 6)))) (d_rv (pv 8)))))) (ds_one (ds_ret d_bl)) ds_nil) (ds_cons (ds_asg (d_lst (das_cons (d_tup (das_cons (d_fn G_beginnings_of) (das_cons (d_lst (das_cons (d_v (pv 6)) das_nil)) das_nil))) (das_cons (d_tup (das_cons (d_fn G_can_be_built) (das_cons (d_lst (das_cons (d_v (pv 6)) das_nil)) das_nil))) (das_cons (d_tup (das_cons (d_fn G_room_of_orders) (das_cons (d_lst (das_cons (d_v (pv 6)) das_nil)) das_nil))) (das_cons (d_tup (das_cons (d_fn G_closed_orders) (das_cons (d_lst (das_cons (d_v (pv 6)) das_nil)) das_nil))) (das_cons (d_tup (das_cons (d_fn G_lacking_orders) (das_cons (d_lst (das_cons (d_v (pv 6)) das_nil)) das_nil))) (das_cons (d_tup (das_cons (d_fn G_is_forced) (das_cons (d_lst (das_cons (d_v (pv 6)) (das_cons d_non das_nil))) das_nil))) (das_cons (d_tup (das_cons (d_fn G_pairs_kept) (das_cons (d_lst (das_cons (d_v (pv 6)) das_nil)) das_nil))) (das_cons (d_tup (das_cons (d_fn G_follows_pairs) (das_cons (d_lst (das_cons (d_v (pv 6)) das_nil)) das_nil))) das_nil))))))))) (dg_name (pg_name (i := 9) sc.nd rfl (by first | exact .inl rfl | exact .inr rfl)))) (ds_one (ds_if (PW.pt (dw_and (dt_not (d_test (d_rv (pv 7)))) (dw_one_and (dt_cmp (ne_d (hu64 hr)) (PE.rd (d_lc rfl sc.nd (blkOk_by (own := [("call", 10), ("args", 11)]) (by kernel_rfl)) (PI.b (di_lst (d_v (pv 9)))) (fun _ _ _ _ _ => (dg_tup rfl (dgs_cons (dg_name (pg_name (i := 10) sc.nd rfl (by first | exact .inl rfl | exact .inr rfl))) (dgs_cons (dg_name (pg_name (i := 11) sc.nd rfl (by first | exact .inl rfl | exact .inr rfl))) dgs_nil)))) (fun _ _ _ _ _ => (dts_one (dt_cmp (ne_d (hu64 hr)) (PE.rd (dc C__law_caught hr hg (das_cons (d_v (pv 10)) (das_cons (d_v (pv 11)) das_nil)))) (PE.rd (d_lst (das_cons (d_lst (das_cons d_str das_nil)) (das_cons (d_v (pv 8)) das_nil))))))) (fun _ _ _ _ _ => d_int))) (PE.rd (d_lst das_nil)))))) (ds_one (ds_ret d_bl)) ds_nil)))))) (ds_one (ds_ret (d_and (PE.rd (dc C__law_same hr hg (das_cons (dc C_beginnings_of hr hg (das_cons (d_v (pv 1)) das_nil)) (das_cons (d_v (pv 3)) das_nil)))) (d_one (d_cmp (eq_d (hu64 hr)) (PE.rd (d_b1 (reprN_c hg (hu65 hr)) B.repr_ (by kernel_rfl) (d_rv (pv 1)))) (d_rv (pv 2)))))))))))
end
end K81

/-! ## HK81 -/
set_option Elab.async false
set_option autoImplicit false
set_option linter.all false
set_option maxRecDepth 100000
set_option maxHeartbeats 4000000
namespace K81
open PySem PySem.Spec PyProof.Rows L2 DL
section
variable {P : Program} {w : World} {K : PySem.W.Frag} {mg : Str → Option Value} {base : Heap}
/-- a number of the script -/
def cellOf (ns : List Int) (i : Nat) : Int := match ns[i]? with
  | some x => x
  | none => (ns.take 1).sum % 1000003
def spCell (K : PySem.W.Frag) : List V → Hp → VK → Prop := fun vs H Q => ∃ (a : Addr) (ns : List Int) (i : Nat), vs = [.ref a, .int i] ∧ SqL K H a (ns.map V.int) ∧ i < 1000 ∧ ∀ H', Same H H' → Q (.int (cellOf ns i)) H'
theorem q_law_cell (B : BltX mg) {f : Addr} {fd : FuncData} (F : Fun K "_law_cell" "_law_cell" s_law_cell f fd) : FnQ P w K mg base 1 f fd ["script", "index"] (spCell K) :=
  fnQ_of F sc_law_cell fun cdv A outer sh H vs Q hr hg hl ⟨a, ns, i, e, hS, hi, q⟩ => by
    subst e
    refine ⟨_, pss_cons (ps_if (pt_cmpR op_lt (pv 1) (pe_callB call_len_seq (by rfl) B.len_ (by kernel_rfl) (pa_cons (pv 0) pa_nil)) rfl) (pss_one (ps_ret (pe_ix ix_list (pv 0) (pv 1) (fun _ _ => rfl)))) pss_nil)
      (pss_one (ps_ret (pe_op op_mod (pe_callB (cr_sum rfl) (by rfl) B.sum_ (by kernel_rfl) (pa_cons (pe_slice sl_list (pv 0) po_none (po_some pe_int)) pa_nil)) pe_int))), ?_⟩
    refine ⟨.int i, rfl, .ref a, rfl, a, ns.map V.int, rfl, .inl hS, i, (ns.map V.int).length, rfl, rfl, _, rfl, ?_⟩
    by_cases h : i < ns.length
    · rw [decide_eq_true (show (i : Int) < ((ns.map V.int).length : Nat) by rw [List.length_map]; omega)]
      refine iteT ⟨.ref a, rfl, .int i, rfl, a, _, i, .int ns[i], rfl, rfl, hS, atI_nat (by rw [List.getElem?_map, List.getElem?_eq_getElem h]; rfl), ?_⟩
      have q' := q H (.refl H)
      unfold cellOf at q'
      rw [List.getElem?_eq_getElem h] at q'
      exact q'
    · rw [decide_eq_false (show ¬ (i : Int) < ((ns.map V.int).length : Nat) by rw [List.length_map]; omega)]
      refine iteF ⟨.ref a, rfl, 1, rfl, a, _, rfl, hS, fun p hp => ?_⟩
      have ec : cutV (ns.map V.int) none (some 1) = (ns.take 1).map V.int := by
        rw [cut_eq]
        unfold cut cutEnd
        rw [List.map_take]
        cases ns <;> simp
      refine ⟨p, ns.take 1, rfl, SqL.of (by rw [upd_same, ec]), _, _, rfl, rfl, (show (0 : Int) < 1000003 by decide), ?_⟩
      have q' := q (upd H p (.lst (cutV (ns.map V.int) none (some 1)))) fun b o e => by rw [upd_ne (ne_of_none e hp)]; exact e
      unfold cellOf at q'
      rw [List.getElem?_eq_none (by omega)] at q'
      exact q'
/-! ### the generator's list -/
def big18 : Int := 10 ^ 18
def gen0 (x : Int) : Int := (if x - 10 ^ 18 < 0 then 0 else x - 10 ^ 18) % (10 ^ 60) ^ 10
def genOf (ns : List Int) (i : Nat) : List Int := [gen0 (cellOf ns i), cellOf ns i % 2147483647, 1000 * (i : Int)]
def spGen (K : PySem.W.Frag) : List V → Hp → VK → Prop := fun vs H Q => ∃ (a : Addr) (ns : List Int) (i : Nat), vs = [.ref a, .int i] ∧ SqL K H a (ns.map V.int) ∧ i < 1000 ∧ ∀ p H', Same H H' → H p = none → H' p = some (.lst ((genOf ns i).map V.int)) → Q (.ref p) H'
def genE : Es := esC (eO dMod (eF dInt (eO dMax2 (eO dSub (eV 2) (eO dPow (eK (.int 10)) (eK (.int 18)))) (eK (.int 0)))) (eO dPow (eO dPow (eK (.int 10)) (eK (.int 60))) (eK (.int 10)))) (esC (eO dMod (eF dInt (eV 2)) (eK (.int 2147483647))) (esC (eO dMul (eK (.int 1000)) (eV 1)) esN))
theorem q_law_generator (B : BltX mg) (C : ∃ f fd, mg "_law_cell" = some (.ref f) ∧ Fun K "_law_cell" "_law_cell" s_law_cell f fd ∧ Binds K fd ["script", "index"] [] ∧ FnQ P w K mg base 1 f fd ["script", "index"] (spCell K)) {f : Addr} {fd : FuncData} (F : Fun K "_law_generator" "_law_generator" s_law_generator f fd) : FnQ P w K mg base 2 f fd ["script", "index"] (spGen K) :=
  fnQ_of F sc_law_generator fun cdv A outer sh H vs Q hr hg hl ⟨a, ns, i, e, hS, hi, q⟩ => by
    subst e
    obtain ⟨fc, fdc, c1, c2, c3, c4⟩ := C
    have sc := sc_law_generator
    refine ⟨_, pss_cons (ps_set (i := 2) sc.nd rfl (by first | exact .inl rfl | exact .inr rfl) (pe_callQ c4 hr hg c1 c2.kp c3 (pa_cons (pv 0) (pa_cons (pv 1) pa_nil))))
      (pss_one (ps_ret (dn_lst (c := ⟨K, mg, none, fun _ => none, P, w⟩) (fs := genE) (das_cons (d_op mod_d (.rd (d_t1 int_c B.int_ (by kernel_rfl) (.rd (d_b2 (max2_c rfl) B.max_ (by kernel_rfl) (.rd (d_op sub_d (d_rv (pv 2)) (.rd (d_op pow_d (.rd d_int) (.rd d_int))))) (.rd d_int))))) (.rd (d_op pow_d (.rd (d_op pow_d (.rd d_int) (.rd d_int))) (.rd d_int))))
        (das_cons (d_op mod_d (.rd (d_t1 int_c B.int_ (by kernel_rfl) (d_rv (pv 2)))) (.rd d_int)) (das_cons (d_op mul_d (.rd d_int) (d_rv (pv 1))) das_nil)))))), ?_⟩
    refine ⟨.ref a, rfl, .int i, rfl, rfl, a, ns, i, rfl, hS, hi, fun H1 s1 => ?_⟩
    refine ⟨H1, fun _ => none, [.no, .val (.int i), .val (.int (cellOf ns i))], [], (genOf ns i).map D.int, [], ⟨fun b o e => (by cases e), ⟨fun b e => (by cases e), fun b o e => (by cases e), fun b e => (by cases e)⟩, rfl, fun j d h => ?_, fun j xs h => ?_, fun j k xs ys ne h1 h2 => ?_, fun b o e => (by cases e)⟩, ?_, fun p vs F' H' st e1 e2 e3 r => ?_⟩
    · match j, h with
      | 0, h => cases h
      | 1, h => cases h; exact ⟨.int i, rfl, .int _⟩
      | 2, h => cases h; exact ⟨_, rfl, .int _⟩
    · match j, h with
      | 0, h => cases h
      | 1, h => cases h
      | 2, h => cases h
    · match j, h1 with
      | 0, h => cases h
      | 1, h => cases h
      | 2, h => cases h
    · have p1 : dPow (.int 10) (.int 18) = pure (.int (10 ^ 18)) := rfl
      have p2 : dPow (.int 10) (.int 60) = pure (.int (10 ^ 60)) := rfl
      have p3 : dPow (.int (10 ^ 60)) (.int 10) = pure (.int ((10 ^ 60) ^ 10)) := rfl
      have m1 : dMul (.int 1000) (.int i) = pure (.int (1000 * i)) := by
        show (if big 1000 + big i < 1000000 then _ else _) = _
        unfold big
        rw [if_pos]
        have h2 : (i : Int).natAbs.log2 ≤ i := Nat.log2_le_self i
        have h3 : (1000 : Int).natAbs.log2 = 9 := by decide
        omega
      refine ok_bind.mpr ⟨_, _, (?_ : Ok (genE _) [] ((genOf ns i).map D.int) []), ok_pure.mpr ⟨rfl, rfl⟩⟩
      have ee : genE [.no, .val (.int i), .val (.int (cellOf ns i))] = pure ((genOf ns i).map D.int) := by
        simp only [genE, esC, esN, eO, eF, eV, eK, pure_bind, p1, p2, p3, m1, dSub, dMax2, dInt, List.getElem?_cons_succ, List.getElem?_cons_zero, dMod]
        rfl
      rw [ee]
      exact ok_pure.mpr ⟨rfl, rfl⟩
    · rw [RepAll.ofInts r] at e1
      exact q p H' (s1.trans fun b o e => st.ext b o (fun z => (by cases z)) e) (by
        cases e : H p with
        | none => rfl
        | some u => rw [s1 p u e] at e3; cases e3) e1
end
end K81

/-! ## LK81 -/
set_option Elab.async false
set_option autoImplicit false
set_option linter.all false
set_option maxRecDepth 100000
set_option maxHeartbeats 4000000
namespace K81
open PySem PySem.Spec PyProof.Rows L2 DL
section
variable {P : Program} {w : World} {K : PySem.W.Frag} {mg : Str → Option Value} {base : Heap}
def spLaw (K : PySem.W.Frag) : List V → Hp → VK → Prop := fun vs H Q => ∃ (a : Addr) (ns : List Int), vs = [.ref a] ∧ SqL K H a (ns.map V.int) ∧ ∀ H', Q (.bl true) H'
theorem q_law (B : BltX mg) (C__law_right : Cal P w K mg base 8 "_law_right" s_law_right ["generator"] f_law_right)
    (C : ∃ f fd, mg "_law_generator" = some (.ref f) ∧ Fun K "_law_generator" "_law_generator" s_law_generator f fd ∧ Binds K fd ["script", "index"] [] ∧ FnQ P w K mg base 2 f fd ["script", "index"] (spGen K))
    (right : ∀ (ns : List Int) (i : Nat), i < 3 → ∃ g2, Ok (eTurn (lawSl 3)) (genOf ns i) (.bl false) g2) (far : ∃ g2, Ok (sLaw (List.replicate 3 .no)) [] (.rt (.bl true)) g2)
    {f : Addr} {fd : FuncData} (F : Fun K "law" "law" s_law f fd) : FnQ P w K mg base 9 f fd ["script"] (spLaw K) :=
  fnQ_of F sc_law fun cdv A outer sh H vs Q hr hg hl ⟨a, ns, e, hS, q⟩ => by
    subst e
    obtain ⟨fc, fdc, c1, c2, c3, c4⟩ := C
    have sc := sc_law
    refine ⟨_, pss_cons (ps_for PassesOwn.never rfl (pi_range1 (by rfl) B.range_ (pa_cons pe_int pa_nil)) (pg_name (i := 1) sc.nd rfl (by first | exact .inl rfl | exact .inr rfl))
      (pss_cons (ps_set (i := 2) sc.nd rfl (by first | exact .inl rfl | exact .inr rfl) (pe_callQ (c4.mono (by decide : 2 ≤ 8)) hr hg c1 c2.kp c3 (pa_cons (pv 0) (pa_cons (pv 1) pa_nil))))
        (pss_one (ps_if (ptx (f := eTurn) fun ga bo => (PW.pt (dw_or (dt_not (d_test (PE.rd (dc C__law_right hr hg (das_cons (d_v (pv 2)) das_nil))))) (dw_one_or (dt_not (d_test (PE.rd (dc C__law_right hr hg (das_cons (d_v (pv 2)) das_nil))))))))) pss_never pss_nil))))
      ((fun (ga : Option Addr) (bo : Hp) => ((ds_one (ds_ret d_bl)) : PSs _ _ (tS ⟨K, mg, ga, bo, P, w⟩ _))) none (fun _ => none)), ?_⟩
    refine ⟨3, rfl, by decide, by decide, ?_⟩
    refine ⟨fun i m σ H' => m = 3 - i ∧ i ≤ 3 ∧ σ.length = 3 ∧ σ[0]? = some (some (.ref a)) ∧ SqL K H' a (ns.map V.int), ⟨3, rfl, by decide, rfl, rfl, hS⟩, fun i m σ H1 h => ?_⟩
    obtain ⟨rfl, hi, hlen, h0, hS1⟩ := h
    by_cases hlt : i < 3
    · refine .inr ⟨hlt, fun σ' H' => σ'.length = 3 ∧ σ'[0]? = some (some (.ref a)) ∧ SqL K H' a (ns.map V.int), fun σ' H' hN => ⟨3 - (i + 1), by omega, rfl, hlt, hN⟩, fun x H2 hy => ?_⟩
      obtain ⟨rfl, rfl⟩ := hy
      have e0 : (σ.set 1 (some (V.int (0 + (i : Nat)))))[0]? = some (some (.ref a)) := by rw [List.getElem?_set_ne (by decide)]; exact h0
      have e1 : (σ.set 1 (some (V.int (0 + (i : Nat)))))[1]? = some (some (.int i)) := by rw [List.getElem?_set_self (by omega), Int.zero_add]
      refine ⟨.ref a, e0, .int i, e1, rfl, a, ns, i, rfl, hS1, by omega, fun p H3 s3 hp hp3 => ?_⟩
      obtain ⟨g2, o2⟩ := right ns i hlt
      refine ⟨some p, fun _ => none, H3, fun _ => none, lawSl 3, genOf ns i, false, g2, law_wd (by decide) (by simp [hlen]) (by rw [List.getElem?_set_self (by simp [hlen])]) hp3, o2, fun F' H' st => iteF ?_⟩
      exact ⟨by simp [hlen], by rw [List.getElem?_set_ne (by decide)]; exact e0, sq_stay hS1 hp s3 st⟩
    · have e : i = 3 := by omega
      subst e
      refine .inl ⟨Nat.le_refl _, ?_⟩
      obtain ⟨g2, far⟩ := far
      refine ⟨fun _ => none, H1, fun _ => none, List.replicate 3 .no, [], _, g2, law_wd0 hlen, .refl (fun b o e => (by cases e)) ⟨fun b e => (by cases e), fun b o e => (by cases e), fun b e => (by cases e)⟩, far, fun v F' H' st r => ?_⟩
      cases r
      exact q H'
end
end K81

/-! ## MAK81 -/
set_option autoImplicit false
set_option linter.all false
set_option maxRecDepth 100000
set_option maxHeartbeats 2000000
namespace K81
open PySem DL
local macro_rules | `(tactic| wtm_at "evt") => `(tactic| first | rfl | assumption | (simp only [*]; done) | (simp [*, isTy]; done) | (simp; done) | decide | omega)
local macro_rules | `(tactic| wtm_at "evb") => `(tactic| first | omega | (simp only [List.length_map, List.length_append, List.length_cons, List.length_nil, List.length_zip, List.length_zipIdx, List.length_range, List.length_reverse]; omega) | (simp; omega) | decide)
local macro_rules | `(tactic| wtm_at "evc") => `(tactic| ((with_reducible show _ = _); assumption))
local macro_rules | `(tactic| wtm_at "ev1") => `(tactic| first
  | with_reducible exact ev_k
  | ((with_reducible apply  ev_w); exact rfl)
  | ((with_reducible apply  ev_v); exact rfl)
  | ((with_reducible apply  ev_vo); exact rfl)
  | with_reducible exact es_nil
  | with_reducible exact ev_no
  | with_reducible exact ev_skip
  | with_reducible exact seqK_rt
  | with_reducible apply  es_cons
  | with_reducible apply  f_eq
  | with_reducible apply  o_eq
  | with_reducible apply  ev_lst
  | with_reducible apply  tup_eq
  | with_reducible apply  ev_and
  | with_reducible apply  ev_or
  | with_reducible apply  ev_ife
  | with_reducible apply  call_eq
  | with_reducible apply  ev_callK
  | with_reducible apply  ev_callD
  | with_reducible apply  ev_callDK
  | with_reducible apply  hI_eq
  | with_reducible apply  hU_eq
  | with_reducible apply  ev_cutN
  | with_reducible apply  ev_at
  | with_reducible apply  ev_lcA
  | with_reducible apply  ev_lc
  | with_reducible apply  sx_l
  | with_reducible apply  sx_vw
  | with_reducible apply  sx_enum
  | with_reducible apply  sx_zip
  | with_reducible apply  sx_zipS
  | with_reducible apply  sx_r
  | with_reducible apply  sx_r2
  | with_reducible apply  ev_seq
  | with_reducible apply  seqK_nx
  | with_reducible apply  ev_if
  | with_reducible apply  ev_ret
  | with_reducible apply  ev_do
  | with_reducible apply  ev_asg
  | with_reducible apply  ev_par
  | with_reducible apply  ev_thr
  | with_reducible apply  ev_dox_thr
  | ((with_reducible apply  ifK_t); (wtm_at "evt"))
  | ((with_reducible apply  ifK_f); (wtm_at "evt"))
  | exact eqB_int _ _ | exact neB_int _ _ | exact eqB_bl _ _ | exact neB_bl _ _ | exact eqB_str _ _ | exact neB_str _ _
  | exact lt_ev _ _ | exact le_ev _ _ | exact gt_ev _ _ | exact ge_ev _ _ | exact not_ev _ | exact addI_ev _ _ | exact subI_ev _ _
  | ((with_reducible show Row _ _ _); first | exact row_code _ | exact row_codes _ | exact row_map _ _ | exact row_bcode _ | exact row_bcodes _ | exact row_id _)
  | ((with_reducible show _ = List.map _ _); first | exact map_mapR _ _ | exact map_idR _)
  | ((with_reducible show dIsI _ _ = _); exact rfl) | ((with_reducible show dIsI2 _ _ _ = _); exact rfl) | ((with_reducible show dIsN _ = _); exact rfl) | ((with_reducible show dNotN _ = _); exact rfl)
  | ((with_reducible show dUw _ = _); first | exact uw_bcodes _ | exact uw_bcode _ | exact rfl)
  | exact hU_len _
  | ((with_reducible show D.imm _ = _); exact rfl)
  | exact allB_ev _ _ | exact anyB_ev _ _ | exact sumI_ev _ _ | exact sumC_ev _
  | exact len_ev _ | exact lenT_ev _ | exact cut_ev _ _ _ | exact list_ev _ | exact tuple_ev _ | exact rev_ev _
  | apply  addL_ev
  | wtm_at "evc"
  | ((with_reducible show _ = some _); exact rfl)
  | ((with_reducible show _ ≤ _); wtm_at "evb")
  | ((with_reducible show _ < _); wtm_at "evb")
  | ((with_reducible show (_ : Nat) = _); wtm_at "evb")
  | ((with_reducible show ∀ _, _ ∈ _ → _); intro _ _)
  | ((with_reducible show (_ : Bool) = _ → _); intro _))
local macro_rules | `(tactic| wtm_at "ev") => `(tactic| repeat' (wtm_at "ev1"))
theorem digit_small {x : Int} (h : 0 ≤ x ∧ x < 10) : smallI x := small_of (by omega)
theorem place_nat {n i : Nat} (h : i < n) : place n (i : Int) = some i := by
  unfold place
  rw [if_pos (by omega), if_pos (by omega)]
  simp
theorem ix_lst {xs : List D} {i : Nat} {d : D} (h : xs[i]? = some d) : dIx (.lst xs) (.int i) = pure d := by
  obtain ⟨hi, _⟩ := List.getElem?_eq_some_iff.mp h
  show (match (place xs.length i).bind fun j => xs[j]? with | some v => pure v | none => stuck) = _
  rw [place_nat hi]
  show (match xs[i]? with | some v => pure v | none => stuck) = _
  rw [h]
theorem len_lst (xs : List D) : dLen (.lst xs) = pure (.int xs.length) := rfl
theorem zip2_map {α β : Type} (f : α → D) (g : β → D) : ∀ (xs : List α) (ys : List β), zip2 (xs.map f) (ys.map g) = (xs.zip ys).map fun p => .tup [f p.1, g p.2]
  | [], _ => rfl
  | _ :: _, [] => rfl
  | x :: xs, y :: ys => by
    show .tup [f x, g y] :: zip2 (xs.map f) (ys.map g) = _
    rw [zip2_map f g xs ys]
    rfl
theorem ne_nil {xs : List D} (h : ∀ d ∈ xs, d.cl 59 = true) : dNe (.lst xs) (.lst []) = pure (.bl (!decide (xs = []))) := by
  show liftB ((if (D.lst xs).cl 60 && (D.lst []).cl 60 then some (PyData.eqv (.list (pys xs)) (.list (pys []))) else none).map (!·)) = _
  rw [if_pos]
  · have e : PyData.eqv (.list (pys xs)) (.list (pys [])) = decide (xs = []) := by
      simp only [PyData.eqv]
      cases xs <;> simp [pys, PyData.eqvAll]
    rw [e]
    rfl
  · rw [Bool.and_eq_true]
    exact ⟨List.all_eq_true.mpr h, rfl⟩
theorem cut_map {α β : Type} (f : α → β) (xs : List α) (lo hi : Option Int) : cut (xs.map f) lo hi = (cut xs lo hi).map f := by
  unfold cut
  rw [List.length_map, List.map_take, List.map_drop]
theorem cut_mem {α : Type} {xs : List α} {lo hi : Option Int} {x : α} (h : x ∈ cut xs lo hi) : x ∈ xs := List.mem_of_mem_drop (List.mem_of_mem_take h)
theorem cut_len {α : Type} (xs : List α) (lo hi : Option Int) : (cut xs lo hi).length ≤ xs.length := by
  unfold cut
  rw [List.length_take, List.length_drop]
  omega
theorem cut_eq {a : E} {l h : Dlt → M (Option Int)} {δ : Dlt} {x d : D} {lo hi : Option Int} (h1 : a δ = pure x) (h2 : l δ = pure lo) (h3 : h δ = pure hi) (h4 : dCut x lo hi = pure d) : eCut a l h δ = pure d := by
  unfold eCut
  rw [h1, pure_bind, h2, pure_bind, h3, pure_bind, h4]
theorem at_eq {a : E} {δ : Dlt} {i : Int} (h : a δ = pure (.int i)) : eAt a δ = pure (some i) := by
  unfold eAt
  rw [h, pure_bind]
theorem hash_eq {s i : Int} (hs : 0 ≤ s) (hs2 : s < 2147483647) (hi : 0 ≤ i) (hi2 : i ≤ 2000000) : ∃ h, f_law_hash [.int s, .int i] = pure (.int h) ∧ 0 ≤ h ∧ h < 2147483647 := by
  have m1a : 0 ≤ (s * 1140671 + 27644437 * i * i + 131 * i + 19) % 2147483629 := Int.emod_nonneg _ (by decide)
  have m1b : (s * 1140671 + 27644437 * i * i + 131 * i + 19) % 2147483629 < 2147483629 := Int.emod_lt_of_pos _ (by decide)
  refine ⟨((((s * 1140671 + 27644437 * i * i + 131 * i + 19) % 2147483629 * ((s * 1140671 + 27644437 * i * i + 131 * i + 19) % 2147483629) + 62089 * i + 32416187) % 2147483587) * 48271) % 2147483647, ?_, Int.emod_nonneg _ (by decide), Int.emod_lt_of_pos _ (by decide)⟩
  generalize hm : (s * 1140671 + 27644437 * i * i + 131 * i + 19) % 2147483629 = m at m1a m1b
  have m2a : 0 ≤ (m * m + 62089 * i + 32416187) % 2147483587 := Int.emod_nonneg _ (by decide)
  have m2b : (m * m + 62089 * i + 32416187) % 2147483587 < 2147483587 := Int.emod_lt_of_pos _ (by decide)
  generalize hn : (m * m + 62089 * i + 32416187) % 2147483587 = n at m2a m2b
  refine fn_rt rfl ?_
  rw [seq_nx (asg_nx (δ' := [.val (.int s), .val (.int i), .val (.int m)]) (d := .int m) ?_ rfl), seq_nx (asg_nx (δ' := [.val (.int s), .val (.int i), .val (.int n)]) (d := .int n) ?_ rfl)]
  · exact ret_rt (o_eq (f_eq (o_eq rfl rfl (mul_small (by omega) (by omega))) rfl) rfl (mod_eq (by decide)))
  · rw [← hn]
    exact o_eq (f_eq (o_eq (o_eq (o_eq rfl rfl (mul_small (by omega) (by omega))) (o_eq rfl rfl (mul_small (by omega) (by omega))) rfl) rfl rfl) rfl) rfl (mod_eq (by decide))
  · rw [← hm]
    exact o_eq (f_eq (o_eq (o_eq (o_eq (o_eq rfl rfl (mul_small (by omega) (by omega))) (o_eq (o_eq rfl rfl (mul_small (by omega) (by omega))) rfl (mul_small (by omega) (by omega))) rfl) (o_eq rfl rfl (mul_small (by omega) (by omega))) rfl) rfl rfl) rfl) rfl (mod_eq (by decide))
theorem random_yl {b : Int} (h1 : 1 ≤ b) (h2 : b ≤ 1000) : Yl 1 (f_law_random [.gen, .int b]) fun d => ∃ r : Nat, d = .int r ∧ (r : Int) < b := by
  rintro k g ⟨x, s, c, rfl, hs1, hs2, hc1, hc2⟩ hk
  have bits : (Builtin.Int.intBits b : Int) / 30 = 0 := by
    have := PyProof.Rows.intBits_le (a := b) (k := 10) (by omega)
    omega
  have emb : ∀ y : Int, 0 ≤ y % b → y % b < b → ∃ r : Nat, D.int (y % b) = .int r ∧ (r : Int) < b := fun y q1 q2 => ⟨(y % b).toNat, by rw [Int.toNat_of_nonneg q1], by rw [Int.toNat_of_nonneg q1]; exact q2⟩
  by_cases hx : 0 < x
  · refine ⟨.int (x % b), [x / b, s, c], ?_, emb x (Int.emod_nonneg _ (by omega)) (Int.emod_lt_of_pos _ (by omega)), _, _, _, rfl, hs1, hs2, hc1, by omega⟩
    have g0 : Ok (eG 0 0 [.val .gen, .val (.int b), .no, .no]) [x, s, c] (.int x) [x, s, c] := rfl
    have g0' : Ok (eG 0 0 [.val .gen, .val (.int b), .val (.int (x % b)), .no]) [x, s, c] (.int x) [x, s, c] := rfl
    refine ok_bind.mpr ⟨.rt (.int (x % b)), _, ok_bind.mpr ⟨.rt (.int (x % b)), [x / b, s, c], ?_, ok_pure.mpr ⟨rfl, rfl⟩⟩, ok_pure.mpr ⟨rfl, rfl⟩⟩
    refine ok_bind.mpr ⟨.bl true, [x, s, c], ok_bind.mpr ⟨_, _, g0, ok_bind.mpr ⟨.int 0, _, ok_pure.mpr ⟨rfl, rfl⟩, ok_pure.mpr ⟨by rw [decide_eq_true hx], rfl⟩⟩⟩, ?_⟩
    refine ok_bind.mpr ⟨.nx [.val .gen, .val (.int b), .val (.int (x % b)), .no], [x, s, c], ok_bind.mpr ⟨.int (x % b), [x, s, c], ok_bind.mpr ⟨.int x, [x, s, c], ok_bind.mpr ⟨_, _, g0, ok_pure.mpr ⟨rfl, rfl⟩⟩, ok_bind.mpr ⟨.int b, [x, s, c], ok_pure.mpr ⟨rfl, rfl⟩, ?_⟩⟩, ok_bind.mpr ⟨_, _, ok_pure.mpr ⟨rfl, rfl⟩, ok_pure.mpr ⟨rfl, rfl⟩⟩⟩, ?_⟩
    · rw [mod_eq (by omega)]; exact ok_pure.mpr ⟨rfl, rfl⟩
    refine ok_bind.mpr ⟨.nx [.val .gen, .val (.int b), .val (.int (x % b)), .no], [x / b, s, c], ok_bind.mpr ⟨.int (x / b), [x, s, c], ok_bind.mpr ⟨_, _, g0', ok_bind.mpr ⟨.int b, [x, s, c], ok_pure.mpr ⟨rfl, rfl⟩, ?_⟩⟩, ok_bind.mpr ⟨(), [x / b, s, c], rfl, ok_pure.mpr ⟨rfl, rfl⟩⟩⟩, ok_pure.mpr ⟨rfl, rfl⟩⟩
    rw [fdiv_eq (by omega) (by omega)]; exact ok_pure.mpr ⟨rfl, rfl⟩
  · obtain ⟨h, eh, hh1, hh2⟩ := hash_eq (s := s) (i := c + 1) hs1 hs2 (by omega) (by omega)
    refine ⟨.int (h % b), [x, s, c + 1], ?_, emb h (Int.emod_nonneg _ (by omega)) (Int.emod_lt_of_pos _ (by omega)), _, _, _, rfl, hs1, hs2, by omega, by omega⟩
    have g0 : Ok (eG 0 0 [.val .gen, .val (.int b), .no, .no]) [x, s, c] (.int x) [x, s, c] := rfl
    refine ok_bind.mpr ⟨.rt (.int (h % b)), _, ok_bind.mpr ⟨.nx [.val .gen, .val (.int b), .no, .no], [x, s, c], ok_bind.mpr ⟨.bl false, [x, s, c], ok_bind.mpr ⟨_, _, g0, ok_bind.mpr ⟨.int 0, _, ok_pure.mpr ⟨rfl, rfl⟩, ok_pure.mpr ⟨by rw [decide_eq_false hx], rfl⟩⟩⟩, ok_pure.mpr ⟨rfl, rfl⟩⟩, ?_⟩, ok_pure.mpr ⟨rfl, rfl⟩⟩
    refine ok_bind.mpr ⟨.nx [.val .gen, .val (.int b), .val (.int 0), .no], [x, s, c], rfl, ?_⟩
    refine ok_bind.mpr ⟨.nx [.val .gen, .val (.int b), .val (.int h), .val (.int 0)], [x, s, c + 1], ok_bind.mpr ⟨[.int 0], [x, s, c], ?_, ?_⟩, ?_⟩
    · have e : xR (eO dAdd (eK (.int 1)) (eO dFdiv (eF dBits (eV 1)) (eK (.int 30)))) [.val .gen, .val (.int b), .val (.int 0), .no] = pure [.int 0] := by
        unfold xR
        rw [o_eq (x := .int 1) (y := .int 0) (d := .int 1) rfl (o_eq (x := .int (Builtin.Int.intBits b : Nat)) (y := .int 30) (f_eq (x := .int b) rfl rfl) rfl (by rw [fdiv_eq (by decide) (by decide), bits])) rfl, pure_bind]
        rfl
      rw [e]; exact ok_pure.mpr ⟨rfl, rfl⟩
    · have gs : Ok (eG 0 1 [.val .gen, .val (.int b), .val (.int 0), .val (.int 0)]) [x, s, c + 1] (.int s) [x, s, c + 1] := rfl
      have gc : Ok (eG 0 2 [.val .gen, .val (.int b), .val (.int 0), .val (.int 0)]) [x, s, c + 1] (.int (c + 1)) [x, s, c + 1] := rfl
      have gc0 : Ok (eG 0 2 [.val .gen, .val (.int b), .val (.int 0), .val (.int 0)]) [x, s, c] (.int c) [x, s, c] := rfl
      refine ok_bind.mpr ⟨[.val .gen, .val (.int b), .val (.int 0), .val (.int 0)], [x, s, c], rfl, ok_bind.mpr ⟨.nx [.val .gen, .val (.int b), .val (.int h), .val (.int 0)], [x, s, c + 1], ok_bind.mpr ⟨.nx [.val .gen, .val (.int b), .val (.int 0), .val (.int 0)], [x, s, c + 1], ok_bind.mpr ⟨.int (c + 1), [x, s, c], ok_bind.mpr ⟨_, _, gc0, ok_bind.mpr ⟨.int 1, _, ok_pure.mpr ⟨rfl, rfl⟩, ok_pure.mpr ⟨rfl, rfl⟩⟩⟩, rfl⟩, ?_⟩, ok_pure.mpr ⟨rfl, rfl⟩⟩⟩
      refine ok_bind.mpr ⟨.int h, [x, s, c + 1], ok_bind.mpr ⟨.int 0, [x, s, c + 1], ok_bind.mpr ⟨.int 0, [x, s, c + 1], ok_pure.mpr ⟨rfl, rfl⟩, ok_bind.mpr ⟨.int 2147483587, [x, s, c + 1], ok_pure.mpr ⟨rfl, rfl⟩, ?_⟩⟩, ok_bind.mpr ⟨.int h, [x, s, c + 1], ok_bind.mpr ⟨[.int s, .int (c + 1)], [x, s, c + 1], ok_bind.mpr ⟨_, _, gs, ok_bind.mpr ⟨[.int (c + 1)], _, ok_bind.mpr ⟨_, _, gc, ok_bind.mpr ⟨[], _, ok_pure.mpr ⟨rfl, rfl⟩, ok_pure.mpr ⟨rfl, rfl⟩⟩⟩, ok_pure.mpr ⟨rfl, rfl⟩⟩⟩, ?_⟩, ok_pure.mpr ⟨by rw [Int.zero_add], rfl⟩⟩⟩, ok_bind.mpr ⟨_, _, ok_pure.mpr ⟨rfl, rfl⟩, ok_pure.mpr ⟨rfl, rfl⟩⟩⟩
      · rw [mul_small (by decide) (by decide)]; exact ok_pure.mpr ⟨by simp, rfl⟩
      · rw [eh]; exact ok_pure.mpr ⟨rfl, rfl⟩
    · have e : sRet (eO dMod (eF dInt (eV 2)) (eV 1)) [.val .gen, .val (.int b), .val (.int h), .val (.int 0)] = pure (.rt (.int (h % b))) := ret_rt (o_eq (f_eq (x := .int h) rfl rfl) rfl (mod_eq (by omega)))
      show Ok (sRet (eO dMod (eF dInt (eV 2)) (eV 1)) [.val .gen, .val (.int b), .val (.int h), .val (.int 0)]) _ _ _
      rw [e]; exact ok_pure.mpr ⟨rfl, rfl⟩
theorem dNe_nil {xs : List D} (h : ∀ d ∈ xs, d.cl 59 = true) : dNe (.lst xs) (.lst []) = pure (.bl (!decide (xs = []))) := ne_nil h
theorem erase_perm {α : Type} : ∀ (l : List α) (m : Nat) (h : m < l.length), (l[m] :: l.eraseIdx m).Perm l
  | [], _, h => by simp at h
  | x :: l, 0, _ => .refl _
  | x :: l, m + 1, h => by
    have hm : m < l.length := by simpa using h
    have ih := erase_perm l m hm
    show (l[m] :: x :: l.eraseIdx m).Perm (x :: l)
    exact (List.Perm.swap x l[m] _).trans (ih.cons x)
theorem shuffle_loop (things : D) : ∀ (fuel : Nat) (left found : List D), left.length < fuel → left.length + found.length ≤ 1000 → (∀ d ∈ left, d.cl 59 = true) →
    Yl left.length (whGo (eO dNe (eV 2) (eLst (esN))) (sAppPop 3 2 (eCall f_law_random (esC (eW 0) (esC (eF dLen (eV 2)) (esN))))) fuel [.val .gen, .val things, .own left, .own found])
      fun r => ∃ ys, r = .nx [.val .gen, .val things, .own [], .own ys] ∧ ys.Perm (found ++ left)
  | 0, _, _, h, _, _ => by omega
  | fuel + 1, [], found, _, _, _ => by
    have e : whGo (eO dNe (eV 2) (eLst (esN))) (sAppPop 3 2 (eCall f_law_random (esC (eW 0) (esC (eF dLen (eV 2)) (esN))))) (fuel + 1) [.val .gen, .val things, .own [], .own found] = pure (.nx [.val .gen, .val things, .own [], .own found]) := by
      show (eO dNe (eV 2) (eLst esN) _ >>= _) = _
      rw [o_eq (x := .lst []) (y := .lst []) rfl (lst_eq es_nil (by simp)) (dNe_nil (xs := []) (by simp)), pure_bind]
      rfl
    exact yl_eq e ⟨found, rfl, by simp⟩
  | fuel + 1, x :: left, found, hf, hl, hc => by
    rw [List.length_cons] at hf hl
    have e1 : eO dNe (eV 2) (eLst (esN)) [.val .gen, .val things, .own (x :: left), .own found] = pure (.bl true) := o_eq (x := .lst (x :: left)) (y := .lst []) rfl (lst_eq es_nil (by simp)) (by rw [dNe_nil hc]; rfl)
    have pop : Yl 1 (sAppPop 3 2 (eCall f_law_random (esC (eW 0) (esC (eF dLen (eV 2)) (esN)))) [.val .gen, .val things, .own (x :: left), .own found]) fun r => ∃ (m : Nat) (y : D), m < (x :: left).length ∧ (x :: left)[m]? = some y ∧ r = .nx [.val .gen, .val things, .own ((x :: left).eraseIdx m), .own (found ++ [y])] := by
      have q := yl_call (n := 0) (j := 1) (f := f_law_random) (es := esC (eW 0) (esC (eF dLen (eV 2)) (esN))) (δ := [.val .gen, .val things, .own (x :: left), .own found]) (P := fun ds => ds = [.gen, .int ((x :: left).length : Nat)]) (Q := fun d => ∃ r : Nat, d = .int r ∧ (r : Int) < ((x :: left).length : Nat)) (yl_eq rfl rfl) (fun ds e => by
        subst e
        exact random_yl (by rw [List.length_cons]; omega) (by rw [List.length_cons]; omega))
      refine (yl_bind (j := 0) q fun d ⟨m, ed, hm⟩ => ?_).mono (by omega) fun _ z => z
      subst ed
      have hm2 : m < (x :: left).length := by omega
      have e2 : (x :: left)[m]? = some (x :: left)[m] := List.getElem?_eq_getElem hm2
      refine yl_eq ?_ ⟨m, (x :: left)[m], hm2, e2, rfl⟩
      simp only [List.getElem?_cons_succ, List.getElem?_cons_zero, place_nat hm2, e2]
      have ll : (x :: left).length ≤ 1001 := by rw [List.length_cons]; omega
      rw [if_pos ⟨lim_ok (by omega), by omega, by omega, by decide⟩]
      rfl
    have q : Yl (1 + left.length) (sAppPop 3 2 (eCall f_law_random (esC (eW 0) (esC (eF dLen (eV 2)) (esN)))) [.val .gen, .val things, .own (x :: left), .own found] >>= fun r => match r with
      | .nx δ' => whGo (eO dNe (eV 2) (eLst (esN))) (sAppPop 3 2 (eCall f_law_random (esC (eW 0) (esC (eF dLen (eV 2)) (esN))))) fuel δ'
      | .ct δ' => whGo (eO dNe (eV 2) (eLst (esN))) (sAppPop 3 2 (eCall f_law_random (esC (eW 0) (esC (eF dLen (eV 2)) (esN))))) fuel δ'
      | .bk δ' => pure (.nx δ')
      | .rt d => pure (.rt d)) fun r => ∃ ys, r = .nx [.val .gen, .val things, .own [], .own ys] ∧ ys.Perm (found ++ x :: left) := yl_bind pop fun r ⟨m, y, hm, e2, er⟩ => by
        subst er
        obtain ⟨hm', e3⟩ := List.getElem?_eq_some_iff.mp e2
        have le : ((x :: left).eraseIdx m).length = left.length := by
          rw [List.length_eraseIdx_of_lt hm]
          simp
        have hp : (y :: (x :: left).eraseIdx m).Perm (x :: left) := by
          rw [← e3]
          exact erase_perm _ m hm'
        have ih := shuffle_loop things fuel ((x :: left).eraseIdx m) (found ++ [y]) (by rw [le]; omega) (by rw [le]; simp; omega) (fun d hd => hc d (List.mem_of_mem_eraseIdx hd))
        rw [le] at ih
        refine ih.mono (Nat.le_refl _) fun r ⟨ys, e, p⟩ => ⟨ys, e, p.trans ?_⟩
        rw [List.append_assoc]
        exact List.Perm.append_left found hp
    refine Yl.mono (n := 1 + left.length) ?_ (by rw [List.length_cons]; omega) fun _ z => z
    show Yl _ (eO dNe (eV 2) (eLst esN) _ >>= _) _
    rw [e1, pure_bind]
    exact q
theorem shuffled_yl {xs : List D} (hl : xs.length ≤ 900) (hc : ∀ d ∈ xs, d.cl 59 = true) : Yl xs.length (f_law_shuffled [.gen, .lst xs]) fun d => ∃ ys, d = .lst ys ∧ ys.Perm xs := by
  refine yl_fn rfl ?_
  have e0 : sParOO 2 3 (eF dList (eV 1)) (eLst (esN)) (startD 4 [.gen, .lst xs]) = pure (.nx [.val .gen, .val (.lst xs), .own xs, .own []]) := by
    unfold sParOO
    rw [f_eq (h := dList) (x := .lst xs) (d := .lst xs) rfl rfl, pure_bind]
    show (eLst esN _ >>= _) = _
    rw [lst_eq es_nil (by simp), pure_bind]
    rfl
  refine yl_seq0 e0 ?_
  refine (yl_seq (j := 0) (P := fun δ => ∃ ys, δ = [.val .gen, .val (.lst xs), .own [], .own ys] ∧ ys.Perm xs) ((shuffle_loop (.lst xs) 1000 xs [] (by omega) (by simp; omega) hc).mono (Nat.le_refl _) fun r ⟨ys, e, p⟩ => ⟨_, e, ys, rfl, by simpa using p⟩) fun δ ⟨ys, e, p⟩ => ?_).mono (by omega) fun _ z => z
  subst e
  exact yl_eq (a := .rt (.lst ys)) rfl ⟨_, rfl, ys, rfl, p⟩
theorem cut_take {α : Type} (xs : List α) (n : Nat) : cut xs none (some (n : Int)) = xs.take n := by
  unfold cut cutEnd
  simp only [List.drop_zero, Nat.sub_zero]
  rw [if_neg (by omega), Int.toNat_natCast]
  by_cases h : n ≤ xs.length
  · rw [Nat.min_eq_left h]
  · rw [Nat.min_eq_right (by omega), List.take_of_length_le (Nat.le_refl _), List.take_of_length_le (by omega)]
theorem same_int (k : Nat) (i : Int) : f_law_same (k + 1) [.int i, .int i] = pure (.bl true) := by
  unfold f_law_same
  apply ev_to
  · wtm_at "ev"
  · rfl
  · simp [isTy]
theorem same_bl (k : Nat) (i : Bool) : f_law_same (k + 1) [.bl i, .bl i] = pure (.bl true) := by cases i <;> rfl
theorem same_non (k : Nat) : f_law_same (k + 1) [.non, .non] = pure (.bl true) := rfl
theorem same_lst {k : Nat} {xs : List D} (h : ∀ d ∈ xs, f_law_same k [d, d] = pure (.bl true)) (hl : xs.length ≤ 1000000) : f_law_same (k + 1) [.lst xs, .lst xs] = pure (.bl true) := by
  have h' : ∀ p ∈ xs.zip xs, f_law_same k [p.1, p.2] = pure (.bl true) := fun p hp => by
    have e : p.1 = p.2 := by
      obtain ⟨i, hi, rfl⟩ := List.getElem_of_mem hp
      simp
    rw [← e]
    exact h _ (List.of_mem_zip hp).1
  unfold f_law_same
  apply ev_to
  · wtm_at "ev"
    · exact h' _ (by assumption)
    · wtm_at "ev"
  · rfl
  · simp
def sTail : S := sSeq (sPar 5 6 (eLst (esC (eK (.str "InvalidPlan")) (esN))) (eLst (esC (eF (dIsEx errs "InvalidPlan") (eW 2)) (esN)))) (sRet (eIf (eF dIsN (eV 2)) (eK .non) (eLst (esC (eLc [7, 8] (gT [gN 7, gN 8]) (xZ (eW 5) (eW 6)) (eV 8) (eW 7)) (esC (eF dReprN (eF (dValx errs) (eW 2))) (esN))))))
theorem caught_eq {z x : Str} {Fs : List D → M D} {args : List D} {e : D} {n m : Nat} (hz : tab z = some Fs) (ha : args.length = 1 ∨ args.length = 2 ∨ args.length = 3) (hf : Fs args = pure (.thr x e)) (hx : x = "InvalidPlan")
    (hp : Txt 60 n (.lst args)) (hn : n ≤ 16777216) (he : Txt 60 m e) (hm : m ≤ 16777216) : f_law_caught [.fn z, .lst args] = pure (.lst [.lst [.str x], .str e.py.shown]) := by
  have rp := reprN_ev hp hn
  have re := reprN_ev he hm
  generalize hs : (D.lst args).py.shown = s at rp
  have hxe : errs.contains x = true := by subst hx; decide +kernel
  have s1 : sPar 2 3 (eK .non) (eF dReprN (eV 1)) (startD 9 [.fn z, .lst args]) = pure (.nx [.val (.fn z), .val (.lst args), .val .non, .val (.str s), .no, .no, .no, .no, .no]) := ev_par ev_k (f_eq (ev_v rfl) rp)
  have hc : ∀ fs : Es, fs [.val (.fn z), .val (.lst args), .val .non, .val (.str s), .no, .no, .no, .no, .no] = pure args → sCallX tab 0 fs [.val (.fn z), .val (.lst args), .val .non, .val (.str s), .no, .no, .no, .no, .no] = pure (.rt (.thr x e)) := fun fs h => by
    unfold sCallX
    rw [h, pure_bind]
    show (match tab z with | some Fs => Fs args >>= fun d => if d.isThr then pure (Fl.rt d) else pure (.nx _) | none => stuck) = _
    rw [hz]
    show (Fs args >>= fun d => if d.isThr then pure (Fl.rt d) else pure (.nx _)) = _
    rw [hf, pure_bind]
    rfl
  have len : ∀ k : Nat, eO dEq (eF dLen (eV 1)) (eK (.int k)) [.val (.fn z), .val (.lst args), .val .non, .val (.str s), .no, .no, .no, .no, .no] = pure (.bl (decide (args.length = k))) := fun k => by
    refine (o_eq (f_eq (ev_v rfl) (len_ev _)) ev_k (eqB_int _ _)).trans ?_
    congr 2
    exact decide_eq_decide.mpr (by omega)
  have len1 : eO dEq (eF dLen (eV 1)) (eK (.int 1)) [.val (.fn z), .val (.lst args), .val .non, .val (.str s), .no, .no, .no, .no, .no] = pure (.bl (decide (args.length = 1))) := len 1
  have len2 : eO dEq (eF dLen (eV 1)) (eK (.int 2)) [.val (.fn z), .val (.lst args), .val .non, .val (.str s), .no, .no, .no, .no, .no] = pure (.bl (decide (args.length = 2))) := len 2
  have len3 : eO dEq (eF dLen (eV 1)) (eK (.int 3)) [.val (.fn z), .val (.lst args), .val .non, .val (.str s), .no, .no, .no, .no, .no] = pure (.bl (decide (args.length = 3))) := len 3
  have tail : sSeq (sIf (eO dNe (eF dReprN (eV 1)) (eV 3)) (sRet (eLst (esC (eK (.str "changed")) (esN)))) (sSkip)) sTail
      [.val (.fn z), .val (.lst args), .val (.exc x e), .val (.str s), .no, .no, .no, .no, .no] = pure (.rt (.lst [.lst [.str x], .str e.py.shown])) := by
    rw [seq_nx (δ' := [.val (.fn z), .val (.lst args), .val (.exc x e), .val (.str s), .no, .no, .no, .no, .no])]
    · have ev : ∀ t1 : Bool, dIsEx errs "InvalidPlan" (.exc x e) = pure (.bl t1) → eLc [7, 8] (gT [gN 7, gN 8]) (xZ (eW 5) (eW 6)) (eV 8) (eW 7) [.val (.fn z), .val (.lst args), .val (.exc x e), .val (.str s), .no, .val (.lst [.str "InvalidPlan"]), .val (.lst [.bl t1]), .no, .no] = pure (.lst [.str x]) → sTail [.val (.fn z), .val (.lst args), .val (.exc x e), .val (.str s), .no, .no, .no, .no, .no] = pure (.rt (.lst [.lst [.str x], .str e.py.shown])) := fun t1 q1 q0 => by
        unfold sTail
        rw [seq_nx (δ' := [.val (.fn z), .val (.lst args), .val (.exc x e), .val (.str s), .no, .val (.lst [.str "InvalidPlan"]), .val (.lst [.bl t1]), .no, .no])]
        · refine ev_ret ?_
          rw [ife_f (f_eq (x := .exc x e) (ev_v rfl) (show dIsN (.exc x e) = pure (.bl false) from rfl))]
          refine ev_lst (es_cons q0 (es_cons (f_eq (f_eq (ev_w rfl) ?_) re) es_nil)) (by simp)
          show (if errs.contains x then pure e else stuck) = _
          rw [if_pos hxe]
        · exact ev_par (ev_lst (es_cons ev_k es_nil) (by simp)) (ev_lst (es_cons (f_eq (ev_w rfl) q1) es_nil) (by simp))
      subst hx
      exact ev true rfl rfl
    · rw [if_f]
      · rfl
      · refine (o_eq (f_eq (ev_v rfl) rp) (ev_v rfl) (neB_str _ _)).trans ?_
        rw [decide_eq_true rfl]
        rfl
  unfold f_law_caught
  refine ev_to (d := .lst [.lst [.str x], .str e.py.shown]) ?_ rfl rfl
  rw [seq_nx s1, seq_nx (δ' := [.val (.fn z), .val (.lst args), .val (.exc x e), .val (.str s), .no, .no, .no, .no, .no])]
  · exact tail
  · have fin : ∀ b : S, b [.val (.fn z), .val (.lst args), .val .non, .val (.str s), .no, .no, .no, .no, .no] = pure (.rt (.thr x e)) → sTry errs 4 2 b [.val (.fn z), .val (.lst args), .val .non, .val (.str s), .no, .no, .no, .no, .no] = pure (.nx [.val (.fn z), .val (.lst args), .val (.exc x e), .val (.str s), .no, .no, .no, .no, .no]) := fun b h => by
      unfold sTry
      rw [h, pure_bind]
      show (if errs.contains x then _ else _) = _
      rw [if_pos hxe]
      rfl
    refine fin _ ?_
    match args, ha with
    | [a], _ =>
      rw [if_t len1]
      exact hc _ rfl
    | [a, b], _ =>
      rw [if_f len1, if_t len2]
      exact hc _ rfl
    | [a, b, c], _ =>
      rw [if_f len1, if_f len2, if_t len3]
      exact hc _ rfl
    | [], h => simp at h
    | _ :: _ :: _ :: _ :: _, h => simp at h
theorem txt_args {ds : List D} (h : ∀ d ∈ ds, Txt 50 100000 d) (hl : ds.length ≤ 3) : Txt 60 1000000 (.lst ds) := (txt_lst h).deep (by omega) (by decide)
theorem eqv_told (x s : Str) : PyData.eqv (D.lst [.lst [.str x], .str s]).py (D.lst [.lst [.str x], .str s]).py = true := by
  simp [D.py, pys, PyData.eqv, PyData.eqvAll]
theorem ne_told {x s : Str} (hx : PyData.strOk x = true) (hs : PyData.strOk s = true) : dNe (.lst [.lst [.str x], .str s]) (.lst [.lst [.str x], .str s]) = pure (.bl false) := by
  have c : (D.lst [.lst [.str x], .str s]).cl 60 = true := by
    show ([D.lst [.str x], .str s].all (D.cl 59)) = true
    simp [D.cl, hx, hs]
  show liftB ((if (D.lst [.lst [.str x], .str s]).cl 60 && (D.lst [.lst [.str x], .str s]).cl 60 then some (PyData.eqv (D.lst [.lst [.str x], .str s]).py (D.lst [.lst [.str x], .str s]).py) else none).map (!·)) = _
  rw [c, eqv_told]
  rfl
theorem told_ok {z x : Str} {Fs : List D → M D} {args : List D} {e : D} {fa fb : E} {δ : Dlt} {f3 : E} (hz : tab z = some Fs) (ha : args.length = 1 ∨ args.length = 2 ∨ args.length = 3) (hf : Fs args = pure (.thr x e)) (hx : x = "InvalidPlan")
    (hp : ∀ d ∈ args, Txt 50 100000 d) (he : Txt 50 100000 e) (h1 : fa δ = pure (.fn z)) (h2 : fb δ = pure (.lst args)) (h3 : f3 δ = pure (.str e.py.shown)) (w : E) (hw : w = eK (.str x)) :
    eO dNe (eCall f_law_caught (esC fa (esC fb (esN)))) (eLst (esC (eLst (esC w (esN))) (esC f3 (esN)))) δ = pure (.bl false) := by
  have hx' : PyData.strOk x = true := by subst hx; decide +kernel
  subst hw
  exact o_eq (call_eq (es_cons h1 (es_cons h2 es_nil)) (caught_eq hz ha hf hx (txt_args hp (by omega)) (by decide) (he.deep (Nat.le_refl _) (by decide)) (by decide))) (lst_eq (xs := [.lst [.str x], .str e.py.shown]) (es_cons (lst_eq (xs := [.str x]) (es_cons ev_k es_nil) (by simp)) (es_cons h3 es_nil)) (by simp)) (ne_told hx' he.ok)
theorem lc_none {vs : List Nat} {g : G} {src : Es} {tt te : E} {δ : Dlt} {ds : List D} {γ : D → Dlt} (hs : src δ = pure ds) (h1 : ∀ x ∈ ds, g x (wipeD δ vs) = some (γ x)) (h2 : ∀ x ∈ ds, tt (γ x) = pure (.bl false)) (hl : ds.length ≤ 1000000) : eLc vs g src tt te δ = pure (.lst []) := by
  have := eLc_map (vs := vs) (g := g) (src := src) (tt := tt) (te := te) (δ := δ) (emb := fun d : D => d) (γ := γ) (p := fun _ => false) (f := fun d => d) (xs := ds) (by rw [hs, List.map_id']) h1 h2 (fun _ _ z => by cases z) hl
  rw [this]
  have e : ds.filter (fun _ => false) = [] := by simp
  rw [e]
  rfl
end K81

/-! ## QBK81 -/
set_option autoImplicit false
set_option linter.all false
set_option maxRecDepth 100000
set_option maxHeartbeats 2000000
namespace K81
open PySem DL
local macro_rules | `(tactic| wtm_at "evt") => `(tactic| first | rfl | assumption | (simp only [*]; done) | (simp [*, isTy]; done) | (simp; done) | decide | omega)
local macro_rules | `(tactic| wtm_at "evb") => `(tactic| first | omega | (simp only [List.length_map, List.length_append, List.length_cons, List.length_nil, List.length_zip, List.length_zipIdx, List.length_range, List.length_reverse]; omega) | (simp; omega) | decide)
local macro_rules | `(tactic| wtm_at "evc") => `(tactic| ((with_reducible show _ = _); assumption))
local macro_rules | `(tactic| wtm_at "ev1") => `(tactic| first
  | with_reducible exact ev_k
  | ((with_reducible apply  ev_w); exact rfl)
  | ((with_reducible apply  ev_v); exact rfl)
  | ((with_reducible apply  ev_vo); exact rfl)
  | with_reducible exact es_nil
  | with_reducible exact ev_no
  | with_reducible exact ev_skip
  | with_reducible exact seqK_rt
  | with_reducible apply  es_cons
  | with_reducible apply  f_eq
  | with_reducible apply  o_eq
  | with_reducible apply  ev_lst
  | with_reducible apply  tup_eq
  | with_reducible apply  ev_and
  | with_reducible apply  ev_or
  | with_reducible apply  ev_ife
  | with_reducible apply  call_eq
  | with_reducible apply  ev_callK
  | with_reducible apply  ev_callD
  | with_reducible apply  ev_callDK
  | with_reducible apply  hI_eq
  | with_reducible apply  hU_eq
  | with_reducible apply  ev_cutN
  | with_reducible apply  ev_at
  | with_reducible apply  ev_lcA
  | with_reducible apply  ev_lc
  | with_reducible apply  sx_l
  | with_reducible apply  sx_vw
  | with_reducible apply  sx_enum
  | with_reducible apply  sx_zip
  | with_reducible apply  sx_zipS
  | with_reducible apply  sx_r
  | with_reducible apply  sx_r2
  | with_reducible apply  ev_seq
  | with_reducible apply  seqK_nx
  | with_reducible apply  ev_if
  | with_reducible apply  ev_ret
  | with_reducible apply  ev_do
  | with_reducible apply  ev_asg
  | with_reducible apply  ev_par
  | with_reducible apply  ev_thr
  | with_reducible apply  ev_dox_thr
  | ((with_reducible apply  ifK_t); (wtm_at "evt"))
  | ((with_reducible apply  ifK_f); (wtm_at "evt"))
  | exact eqB_int _ _ | exact neB_int _ _ | exact eqB_bl _ _ | exact neB_bl _ _ | exact eqB_str _ _ | exact neB_str _ _
  | exact lt_ev _ _ | exact le_ev _ _ | exact gt_ev _ _ | exact ge_ev _ _ | exact not_ev _ | exact addI_ev _ _ | exact subI_ev _ _
  | ((with_reducible show Row _ _ _); first | exact row_code _ | exact row_codes _ | exact row_map _ _ | exact row_bcode _ | exact row_bcodes _ | exact row_id _)
  | ((with_reducible show _ = List.map _ _); first | exact map_mapR _ _ | exact map_idR _)
  | ((with_reducible show dIsI _ _ = _); exact rfl) | ((with_reducible show dIsI2 _ _ _ = _); exact rfl) | ((with_reducible show dIsN _ = _); exact rfl) | ((with_reducible show dNotN _ = _); exact rfl)
  | ((with_reducible show dUw _ = _); first | exact uw_bcodes _ | exact uw_bcode _ | exact rfl)
  | exact hU_len _
  | ((with_reducible show D.imm _ = _); exact rfl)
  | exact allB_ev _ _ | exact anyB_ev _ _ | exact sumI_ev _ _ | exact sumC_ev _
  | exact len_ev _ | exact lenT_ev _ | exact cut_ev _ _ _ | exact list_ev _ | exact tuple_ev _ | exact rev_ev _
  | apply  addL_ev
  | wtm_at "evc"
  | ((with_reducible show _ = some _); exact rfl)
  | ((with_reducible show _ ≤ _); wtm_at "evb")
  | ((with_reducible show _ < _); wtm_at "evb")
  | ((with_reducible show (_ : Nat) = _); wtm_at "evb")
  | ((with_reducible show ∀ _, _ ∈ _ → _); intro _ _)
  | ((with_reducible show (_ : Bool) = _ → _); intro _))
local macro_rules | `(tactic| wtm_at "ev") => `(tactic| repeat' (wtm_at "ev1"))
/-! ### ten names, by their places in the order -/
def NMS : List Str := ["A", "a", "box", "desk", "door", "k1", "k10", "safe", "z", "zz"]
def nm (i : Int) : Str := NMS.getD i.toNat ""
def tD (c : List Int) : D := .lst (c.map fun i => .str (nm i))
def tsD (cs : List (List Int)) : D := .lst (cs.map tD)
def Nd (c : List Int) : Prop := ∀ i ∈ c, 0 ≤ i ∧ i < 10
def Nds (cs : List (List Int)) : Prop := ∀ c ∈ cs, Nd c
theorem fin10 {i : Int} (h : 0 ≤ i ∧ i < 10) : ∃ k : Fin 10, i = (k.val : Int) := ⟨⟨i.toNat, by omega⟩, by simp; omega⟩
theorem nm_ok_all : ∀ k : Fin 10, (PyData.strOk (nm k.val) && PyData.strOk (reprText (nm k.val)) && decide ((reprText (nm k.val)).length ≤ 10)) = true := by decide +kernel
theorem nm_ok {i : Int} (h : 0 ≤ i ∧ i < 10) : PyData.strOk (nm i) = true := by
  obtain ⟨k, rfl⟩ := fin10 h
  have := nm_ok_all k
  rw [Bool.and_eq_true, Bool.and_eq_true] at this
  exact this.1.1
theorem nm_lt_all : ∀ a b : Fin 10, PyProof.Rows.itemOrd.blt (.inr (nm a.val).cps.toList) (.inr (nm b.val).cps.toList) = decide ((a.val : Int) < b.val) := by decide +kernel
theorem nm_lt {a b : Int} (ha : 0 ≤ a ∧ a < 10) (hb : 0 ≤ b ∧ b < 10) : PyProof.Rows.itemOrd.blt (.inr (nm a).cps.toList) (.inr (nm b).cps.toList) = decide (a < b) := by
  obtain ⟨j, rfl⟩ := fin10 ha
  obtain ⟨k, rfl⟩ := fin10 hb
  exact nm_lt_all j k
theorem nm_inj {a b : Int} (ha : 0 ≤ a ∧ a < 10) (hb : 0 ≤ b ∧ b < 10) : nm a = nm b ↔ a = b := by
  constructor
  · intro h
    have h1 := nm_lt ha hb
    have h2 := nm_lt hb ha
    have h3 := nm_lt hb hb
    rw [h] at h1 h2
    rw [h3] at h1 h2
    simp at h1 h2
    omega
  · rintro rfl
    rfl
theorem cl_name {n : Nat} {i : Int} (h : 0 ≤ i ∧ i < 10) : (D.str (nm i)).cl n = true := by cases n <;> exact nm_ok h
theorem cl_tD {n : Nat} {c : List Int} (h : Nd c) : (tD c).cl (n + 1) = true := by
  show (c.map _).all (D.cl n) = true
  rw [List.all_map, List.all_eq_true]
  exact fun i hi => cl_name (h i hi)
theorem cl_tsD {n : Nat} {cs : List (List Int)} (h : Nds cs) : (tsD cs).cl (n + 2) = true := by
  show (cs.map tD).all (D.cl (n + 1)) = true
  rw [List.all_map, List.all_eq_true]
  exact fun c hc => cl_tD (h c hc)
theorem eqv_name {i j : Int} (hi : 0 ≤ i ∧ i < 10) (hj : 0 ≤ j ∧ j < 10) : PyData.eqv (D.str (nm i)).py (D.str (nm j)).py = decide (i = j) := by
  show (nm i == nm j) = _
  by_cases h : i = j
  · subst h; simp
  · have : nm i ≠ nm j := fun e => h ((nm_inj hi hj).mp e)
    simp [h, this]
theorem eqv_tD : ∀ {a b : List Int}, Nd a → Nd b → PyData.eqvAll (pys (a.map fun i => .str (nm i))) (pys (b.map fun i => .str (nm i))) = decide (a = b)
  | [], [], _, _ => by simp [pys, PyData.eqvAll]
  | [], _ :: _, _, _ => by simp [pys, PyData.eqvAll]
  | _ :: _, [], _, _ => by simp [pys, PyData.eqvAll]
  | x :: a, y :: b, ha, hb => by
    have ih := eqv_tD (a := a) (b := b) (fun i hi => ha i (List.mem_cons_of_mem _ hi)) (fun i hi => hb i (List.mem_cons_of_mem _ hi))
    simp only [List.map_cons, pys, PyData.eqvAll, ih, eqv_name (ha x List.mem_cons_self) (hb y List.mem_cons_self)]
    by_cases h1 : x = y <;> by_cases h2 : a = b <;> simp [h1, h2]
theorem eqv_tD' {a b : List Int} (ha : Nd a) (hb : Nd b) : PyData.eqv (tD a).py (tD b).py = decide (a = b) := by
  show PyData.eqv (.list _) (.list _) = _
  simp only [PyData.eqv]
  exact eqv_tD ha hb
theorem eqv_tsD : ∀ {a b : List (List Int)}, Nds a → Nds b → PyData.eqvAll (pys (a.map tD)) (pys (b.map tD)) = decide (a = b)
  | [], [], _, _ => by simp [pys, PyData.eqvAll]
  | [], _ :: _, _, _ => by simp [pys, PyData.eqvAll]
  | _ :: _, [], _, _ => by simp [pys, PyData.eqvAll]
  | x :: a, y :: b, ha, hb => by
    have ih := eqv_tsD (a := a) (b := b) (fun i hi => ha i (List.mem_cons_of_mem _ hi)) (fun i hi => hb i (List.mem_cons_of_mem _ hi))
    simp only [List.map_cons, pys, PyData.eqvAll, ih, eqv_tD' (ha x List.mem_cons_self) (hb y List.mem_cons_self)]
    by_cases h1 : x = y <;> by_cases h2 : a = b <;> simp [h1, h2]
theorem eqB_tD {a b : List Int} (ha : Nd a) (hb : Nd b) : dEq (tD a) (tD b) = pure (.bl (decide (a = b))) := by
  show liftB (if (tD a).cl 60 && (tD b).cl 60 then some (PyData.eqv (tD a).py (tD b).py) else none) = _
  rw [cl_tD (n := 59) ha, cl_tD (n := 59) hb, eqv_tD' ha hb]
  rfl
theorem neB_tD {a b : List Int} (ha : Nd a) (hb : Nd b) : dNe (tD a) (tD b) = pure (.bl (!decide (a = b))) := by
  show liftB ((if (tD a).cl 60 && (tD b).cl 60 then some (PyData.eqv (tD a).py (tD b).py) else none).map (!·)) = _
  rw [cl_tD (n := 59) ha, cl_tD (n := 59) hb, eqv_tD' ha hb]
  rfl
/-! order -/
theorem lt_toksN : ∀ {a b : List Int}, Nd a → Nd b → PyProof.Rows.lexLt PyProof.Rows.itemOrd (PySem.W.keyToksAll (pys (a.map fun i => .str (nm i)))) (PySem.W.keyToksAll (pys (b.map fun i => .str (nm i)))) = ltC a b
  | [], [], _, _ => by simp only [List.map_nil, pys, PySem.W.keyToksAll]; exact PyProof.Rows.lex_irrefl _
  | [], y :: b, _, _ => by
    simp only [List.map_nil, List.map_cons, pys, PySem.W.keyToksAll]
    rw [PyProof.Rows.lex_cons]
    rfl
  | x :: a, [], _, _ => by
    simp only [List.map_nil, List.map_cons, pys, PySem.W.keyToksAll]
    rw [PyProof.Rows.lex_cons]
    rfl
  | x :: a, y :: b, ha, hb => by
    have ih := lt_toksN (a := a) (b := b) (fun i hi => ha i (List.mem_cons_of_mem _ hi)) (fun i hi => hb i (List.mem_cons_of_mem _ hi))
    have hx := ha x List.mem_cons_self
    have hy := hb y List.mem_cons_self
    simp only [List.map_cons, pys, PySem.W.keyToksAll, D.py, PySem.W.keyToks, List.cons_append, List.nil_append]
    rw [PyProof.Rows.lex_self, PyProof.Rows.lex_cons, ih, nm_lt hx hy, nm_lt hy hx]
    rfl
theorem lt_tD {a b : List Int} (ha : Nd a) (hb : Nd b) : PySem.W.dataLt (tD a).py (tD b).py = ltC a b := lt_toksN ha hb
theorem lt_name {a b : Int} (ha : 0 ≤ a ∧ a < 10) (hb : 0 ≤ b ∧ b < 10) : PySem.W.dataLt (D.str (nm a)).py (D.str (nm b)).py = decide (a < b) := by
  show PyProof.Rows.lexLt PyProof.Rows.itemOrd [.inr _] [.inr _] = _
  rw [PyProof.Rows.lex_cons, nm_lt ha hb, nm_lt hb ha]
  show (decide (a < b) || (!decide (b < a) && false)) = _
  simp
theorem alike_tD : ∀ a b : List Int, PySem.W.alikeAll (pys (a.map fun i => .str (nm i))) (pys (b.map fun i => .str (nm i))) = true
  | [], _ => by simp [pys, PySem.W.alikeAll]
  | _ :: _, [] => by simp [pys, PySem.W.alikeAll]
  | x :: a, y :: b => by
    simp only [List.map_cons, pys, PySem.W.alikeAll, alike_tD a b, D.py, PySem.W.alike]
    rfl
theorem cmpB_tD {a b : List Int} (ha : Nd a) (hb : Nd b) : cmpB (tD a) (tD b) = true := by
  show ((tD a).cl 60 && (tD b).cl 60 && PySem.W.alikeAll _ _ && true) = true
  rw [cl_tD (n := 59) ha, cl_tD (n := 59) hb, alike_tD]
  rfl
theorem ltB_tD {a b : List Int} (ha : Nd a) (hb : Nd b) : dLt (tD a) (tD b) = pure (.bl (ltC a b)) := by
  show (if cmpB (tD a) (tD b) then pure (D.bl (PySem.W.dataLt (tD a).py (tD b).py)) else stuck) = _
  rw [if_pos (cmpB_tD ha hb), lt_tD ha hb]
theorem geB_tD {a b : List Int} (ha : Nd a) (hb : Nd b) : dGe (tD a) (tD b) = pure (.bl (!ltC a b)) := by
  show (if cmpB (tD a) (tD b) then pure (D.bl (!PySem.W.dataLt (tD a).py (tD b).py)) else stuck) = _
  rw [if_pos (cmpB_tD ha hb), lt_tD ha hb]
theorem geB_name {a b : Int} (ha : 0 ≤ a ∧ a < 10) (hb : 0 ≤ b ∧ b < 10) : dGe (.str (nm a)) (.str (nm b)) = pure (.bl (!decide (a < b))) := by
  have hc : cmpB (.str (nm a)) (.str (nm b)) = true := by
    show ((D.str (nm a)).cl 60 && (D.str (nm b)).cl 60 && true && true) = true
    rw [cl_name ha, cl_name hb]
    rfl
  show (if cmpB (.str (nm a)) (.str (nm b)) then pure (D.bl (!PySem.W.dataLt (D.str (nm a)).py (D.str (nm b)).py)) else stuck) = _
  rw [if_pos hc, lt_name ha hb]
/-! sorted -/
theorem sorted_tsD {cs : List (List Int)} (h : Nds cs) : dSorted (tsD cs) = pure (tsD (sortC cs)) := by
  show (if sortableB (cs.map tD) then pure (D.lst ((cs.map tD).mergeSort leD)) else stuck) = _
  have hs : sortableB (cs.map tD) = true := by
    unfold sortableB
    rw [Bool.and_eq_true, Bool.and_eq_true, Bool.or_eq_true]
    refine ⟨⟨?_, ?_⟩, .inr ?_⟩
    · rw [List.all_map, List.all_eq_true]
      exact fun c hc => cl_tD (n := 59) (h c hc)
    · rw [List.all_map, List.all_eq_true]
      intro a _
      show ((cs.map tD).all _) = true
      rw [List.all_map, List.all_eq_true]
      exact fun b _ => alike_tD a b
    · rw [List.all_map, List.all_eq_true]
      exact fun _ _ => rfl
  rw [if_pos hs]
  have e : (sortC cs).map tD = (cs.map tD).mergeSort leD := List.map_mergeSort fun a ha b hb => by
    show (!ltC b a) = !(PySem.W.dataLt (tD b).py (tD a).py)
    rw [lt_tD (h b hb) (h a ha)]
  rw [← e]
  rfl
theorem sorted_tD {c : List Int} (h : Nd c) : dSorted (tD c) = pure (tD (sortI c)) := by
  show (if sortableB (c.map fun i => D.str (nm i)) then pure (D.lst ((c.map fun i => D.str (nm i)).mergeSort leD)) else stuck) = _
  have hs : sortableB (c.map fun i => D.str (nm i)) = true := by
    unfold sortableB
    rw [Bool.and_eq_true, Bool.and_eq_true, Bool.or_eq_true]
    refine ⟨⟨?_, ?_⟩, .inr ?_⟩
    · rw [List.all_map, List.all_eq_true]
      exact fun i hi => cl_name (h i hi)
    · rw [List.all_map, List.all_eq_true]
      intro a _
      show ((c.map _).all _) = true
      rw [List.all_map, List.all_eq_true]
      exact fun b _ => rfl
    · rw [List.all_map, List.all_eq_true]
      exact fun _ _ => rfl
  rw [if_pos hs]
  have e : (sortI c).map (fun i => D.str (nm i)) = (c.map fun i => D.str (nm i)).mergeSort leD := List.map_mergeSort fun a ha b hb => by
    show decide (a ≤ b) = !(PySem.W.dataLt (D.str (nm b)).py (D.str (nm a)).py)
    rw [lt_name (h b hb) (h a ha)]
    by_cases q : a ≤ b
    · have : ¬ b < a := by omega
      simp [q, this]
    · have : b < a := by omega
      simp [q, this]
  rw [← e]
  rfl
theorem Nd.sort {c : List Int} (h : Nd c) : Nd (sortI c) := fun i hi => h i ((sortI_perm c).mem_iff.mp hi)
theorem Nds.sort {c : List (List Int)} (h : Nds c) : Nds (sortC c) := fun i hi => h i ((sortC_perm c).mem_iff.mp hi)
/-! in -/
theorem in_gen {α : Type} [DecidableEq α] {f : α → D} {x : α} {ys : List α} (heq : ∀ y ∈ ys, PyData.eqv (f y).py (f x).py = decide (y = x)) : ((ys.map f).any fun y => PyData.eqv y.py (f x).py) = decide (x ∈ ys) := by
  rw [List.any_map]
  induction ys with
  | nil => simp
  | cons y ys ih =>
    rw [List.any_cons, ih fun z hz => heq z (List.mem_cons_of_mem _ hz)]
    show (PyData.eqv (f y).py (f x).py || _) = _
    rw [heq y List.mem_cons_self]
    by_cases h1 : y = x <;> by_cases h2 : x ∈ ys <;> simp [h1, h2, eq_comm]
    · intro h; exact h1 h.symm
theorem notIn_name {x : Int} {ys : List Int} (hx : 0 ≤ x ∧ x < 10) (h : Nd ys) : dNotIn (.str (nm x)) (tD ys) = pure (.bl (!decide (x ∈ ys))) := by
  show liftB ((inB (.str (nm x)) (ys.map fun i => .str (nm i))).map (!·)) = _
  have hc : ((D.str (nm x)).imm && (ys.map fun i => D.str (nm i)).all D.imm) = true := by
    rw [List.all_map, Bool.and_eq_true]
    exact ⟨rfl, List.all_eq_true.mpr fun _ _ => rfl⟩
  unfold inB
  rw [if_pos hc, in_gen (f := fun i => D.str (nm i)) fun y hy => eqv_name (h y hy) hx]
  rfl
theorem notIn_tD {x : List Int} {ys : List (List Int)} (hx : Nd x) (h : Nds ys) : dNotIn (tD x) (tsD ys) = pure (.bl (!decide (x ∈ ys))) := by
  show liftB ((inB (tD x) (ys.map tD)).map (!·)) = _
  have hc : ((tD x).cl 60 && (ys.map tD).all (D.cl 59)) = true := by
    rw [cl_tD (n := 59) hx, List.all_map]
    exact List.all_eq_true.mpr fun y hy => cl_tD (n := 58) (h y hy)
  unfold inB
  rw [if_neg (by show ¬ (false && _) = true; simp), if_pos hc, in_gen (f := tD) fun y hy => eqv_tD' (h y hy) hx]
  exact congrArg (fun b : Bool => (pure (D.bl (!b)) : M D)) (decide_eq_decide.mpr Iff.rfl)
/-! texts -/
theorem txt_name (k : Nat) {i : Int} (h : 0 ≤ i ∧ i < 10) : Txt k 10 (.str (nm i)) := by
  obtain ⟨j, rfl⟩ := fin10 h
  exact txt_str k (nm_ok_all j)
theorem txt_tD (k : Nat) {c : List Int} (h : Nd c) : Txt (k + 1) (12 * c.length + 2) (tD c) := by
  have := txt_lst (k := k) (n := 10) (xs := c.map fun i => D.str (nm i)) fun d hd => by
    rw [List.mem_map] at hd
    obtain ⟨i, hi, rfl⟩ := hd
    exact txt_name k (h i hi)
  rw [List.length_map] at this
  exact this
theorem txt_tsD {cs : List (List Int)} (h : Nds cs) (hl : cs.length ≤ 100) (hc : ∀ c ∈ cs, c.length ≤ 50) : Txt 40 90000 (tsD cs) := by
  refine (txt_lst (k := 30) (n := 700) fun d hd => ?_).deep (by rw [List.length_map]; omega) (by decide)
  rw [List.mem_map] at hd
  obtain ⟨c, hc', rfl⟩ := hd
  exact (txt_tD 20 (h c hc')).deep (by have := hc c hc'; omega) (by decide)
theorem nb_tD (c : List Int) : (tD c).nb = true := by
  show nbs (c.map _) = true
  exact nbs_map (fun _ => rfl) c
theorem nb_tsD (c : List (List Int)) : (tsD c).nb = true := by
  show nbs (c.map tD) = true
  exact nbs_map nb_tD c
theorem same_name (k : Nat) (i : Int) : f_law_same (k + 1) [.str (nm i), .str (nm i)] = pure (.bl true) := by
  unfold f_law_same
  apply ev_to
  · wtm_at "ev"
  · rfl
  · simp [isTy]
theorem same_tD (k : Nat) {c : List Int} (hl : c.length ≤ 1000) : f_law_same (k + 2) [tD c, tD c] = pure (.bl true) := by
  refine same_lst (fun d hd => ?_) (by rw [List.length_map]; omega)
  rw [List.mem_map] at hd
  obtain ⟨i, _, rfl⟩ := hd
  exact same_name k i
theorem same_tsD (k : Nat) {cs : List (List Int)} (hl : cs.length ≤ 1000) (h : ∀ c ∈ cs, c.length ≤ 1000) : f_law_same (k + 3) [tsD cs, tsD cs] = pure (.bl true) := by
  refine same_lst (fun d hd => ?_) (by rw [List.length_map]; omega)
  rw [List.mem_map] at hd
  obtain ⟨c, hc, rfl⟩ := hd
  exact same_tD k (h c hc)
end K81

/-! ## QCK81 -/
set_option autoImplicit false
set_option linter.all false
set_option maxRecDepth 100000
set_option maxHeartbeats 2000000
namespace K81
open PySem DL
local macro_rules | `(tactic| wtm_at "evt") => `(tactic| first | rfl | assumption | (simp only [*]; done) | (simp [*, isTy]; done) | (simp; done) | decide | omega)
local macro_rules | `(tactic| wtm_at "evb") => `(tactic| first | omega | (simp only [List.length_map, List.length_append, List.length_cons, List.length_nil, List.length_zip, List.length_zipIdx, List.length_range, List.length_reverse]; omega) | (simp; omega) | decide)
local macro_rules | `(tactic| wtm_at "evc") => `(tactic| ((with_reducible show _ = _); assumption))
local macro_rules | `(tactic| wtm_at "ev1") => `(tactic| first
  | with_reducible exact ev_k
  | ((with_reducible apply  ev_w); exact rfl)
  | ((with_reducible apply  ev_v); exact rfl)
  | ((with_reducible apply  ev_vo); exact rfl)
  | with_reducible exact es_nil
  | with_reducible exact ev_no
  | with_reducible exact ev_skip
  | with_reducible exact seqK_rt
  | with_reducible apply  es_cons
  | with_reducible apply  f_eq
  | with_reducible apply  o_eq
  | with_reducible apply  ev_lst
  | with_reducible apply  tup_eq
  | with_reducible apply  ev_and
  | with_reducible apply  ev_or
  | with_reducible apply  ev_ife
  | with_reducible apply  call_eq
  | with_reducible apply  ev_callK
  | with_reducible apply  ev_callD
  | with_reducible apply  ev_callDK
  | with_reducible apply  hI_eq
  | with_reducible apply  hU_eq
  | with_reducible apply  ev_cutN
  | with_reducible apply  ev_at
  | with_reducible apply  ev_lcA
  | with_reducible apply  ev_lc
  | with_reducible apply  sx_l
  | with_reducible apply  sx_vw
  | with_reducible apply  sx_enum
  | with_reducible apply  sx_zip
  | with_reducible apply  sx_zipS
  | with_reducible apply  sx_r
  | with_reducible apply  sx_r2
  | with_reducible apply  ev_seq
  | with_reducible apply  seqK_nx
  | with_reducible apply  ev_if
  | with_reducible apply  ev_ret
  | with_reducible apply  ev_do
  | with_reducible apply  ev_asg
  | with_reducible apply  ev_par
  | with_reducible apply  ev_thr
  | with_reducible apply  ev_dox_thr
  | ((with_reducible apply  ifK_t); (wtm_at "evt"))
  | ((with_reducible apply  ifK_f); (wtm_at "evt"))
  | exact eqB_int _ _ | exact neB_int _ _ | exact eqB_bl _ _ | exact neB_bl _ _ | exact eqB_str _ _ | exact neB_str _ _
  | exact lt_ev _ _ | exact le_ev _ _ | exact gt_ev _ _ | exact ge_ev _ _ | exact not_ev _ | exact addI_ev _ _ | exact subI_ev _ _
  | ((with_reducible show Row _ _ _); first | exact row_code _ | exact row_codes _ | exact row_map _ _ | exact row_bcode _ | exact row_bcodes _ | exact row_id _)
  | ((with_reducible show _ = List.map _ _); first | exact map_mapR _ _ | exact map_idR _)
  | ((with_reducible show dIsI _ _ = _); exact rfl) | ((with_reducible show dIsI2 _ _ _ = _); exact rfl) | ((with_reducible show dIsN _ = _); exact rfl) | ((with_reducible show dNotN _ = _); exact rfl)
  | ((with_reducible show dUw _ = _); first | exact uw_bcodes _ | exact uw_bcode _ | exact rfl)
  | exact hU_len _
  | ((with_reducible show D.imm _ = _); exact rfl)
  | exact allB_ev _ _ | exact anyB_ev _ _ | exact sumI_ev _ _ | exact sumC_ev _
  | exact len_ev _ | exact lenT_ev _ | exact cut_ev _ _ _ | exact list_ev _ | exact tuple_ev _ | exact rev_ev _
  | apply  addL_ev
  | wtm_at "evc"
  | ((with_reducible show _ = some _); exact rfl)
  | ((with_reducible show _ ≤ _); wtm_at "evb")
  | ((with_reducible show _ < _); wtm_at "evb")
  | ((with_reducible show (_ : Nat) = _); wtm_at "evb")
  | ((with_reducible show ∀ _, _ ∈ _ → _); intro _ _)
  | ((with_reducible show (_ : Bool) = _ → _); intro _))
local macro_rules | `(tactic| wtm_at "ev") => `(tactic| repeat' (wtm_at "ev1"))
/-! ### lists without doubles -/
theorem sub_perm {α : Type} [DecidableEq α] : ∀ (p c : List α), p.Nodup → (∀ x ∈ p, x ∈ c) → ∃ r, c.Perm (p ++ r)
  | [], c, _, _ => ⟨c, .refl _⟩
  | x :: p, c, h, hs => by
    obtain ⟨h1, h2⟩ := List.nodup_cons.mp h
    have hx := hs x List.mem_cons_self
    obtain ⟨r, q⟩ := sub_perm p (c.erase x) h2 fun y hy => (List.mem_erase_of_ne (fun e : y = x => h1 (by rw [← e]; exact hy))).mpr (hs y (List.mem_cons_of_mem _ hy))
    exact ⟨r, (List.perm_cons_erase hx).trans (q.cons x)⟩
theorem sub_len {α : Type} [DecidableEq α] {p c : List α} (h : p.Nodup) (hs : ∀ x ∈ p, x ∈ c) : p.length ≤ c.length := by
  obtain ⟨r, q⟩ := sub_perm p c h hs
  rw [q.length_eq, List.length_append]
  omega
theorem sub_all {α : Type} [DecidableEq α] {p c : List α} (h : p.Nodup) (hs : ∀ x ∈ p, x ∈ c) (hl : c.length ≤ p.length) : p.Perm c := by
  obtain ⟨r, q⟩ := sub_perm p c h hs
  have e := q.length_eq
  rw [List.length_append] at e
  have : r = [] := List.length_eq_zero_iff.mp (by omega)
  subst this
  rw [List.append_nil] at q
  exact q.symm
theorem nodup_flat {α β : Type} {f : α → List β} (h : ∀ a, (f a).Nodup) (hd : ∀ a b x, x ∈ f a → x ∈ f b → a = b) : ∀ {l : List α}, l.Nodup → (l.flatMap f).Nodup
  | [], _ => by simp
  | a :: l, hl => by
    obtain ⟨h1, h2⟩ := List.nodup_cons.mp hl
    rw [List.flatMap_cons, List.nodup_append]
    refine ⟨h a, nodup_flat h hd h2, fun x hx y hy e => ?_⟩
    subst e
    obtain ⟨b, hb, hy⟩ := List.mem_flatMap.mp hy
    exact h1 (hd a b x hx hy ▸ hb)
theorem nodup_map {α β : Type} {f : α → β} (hf : ∀ a b, f a = f b → a = b) {l : List α} (h : l.Nodup) : (l.map f).Nodup := by
  unfold List.Nodup
  rw [List.pairwise_map]
  exact h.imp fun hne e => hne (hf _ _ e)
/-! ### all orders of some names -/
def ext (c : List Int) (p : List Int) : List (List Int) := (c.filter fun x => !decide (x ∈ p)).map fun x => p ++ [x]
def lvl (c : List Int) : Nat → List (List Int)
  | 0 => [[]]
  | k + 1 => (lvl c k).flatMap (ext c)
theorem lvl_in {c : List Int} : ∀ (k : Nat), ∀ p ∈ lvl c k, p.length = k ∧ p.Nodup ∧ ∀ x ∈ p, x ∈ c
  | 0, p, h => by
    rw [show p = [] from by simpa [lvl] using h]
    simp
  | k + 1, p, h => by
    obtain ⟨q, hq, h⟩ := List.mem_flatMap.mp h
    obtain ⟨h1, h2, h3⟩ := lvl_in k q hq
    unfold ext at h
    rw [List.mem_map] at h
    obtain ⟨x, hx, rfl⟩ := h
    rw [List.mem_filter] at hx
    obtain ⟨hx1, hx2⟩ := hx
    have hx2 : x ∉ q := by simpa using hx2
    refine ⟨by simp [h1], ?_, fun y hy => ?_⟩
    · rw [List.nodup_append]
      refine ⟨h2, by simp, fun a ha b hb => ?_⟩
      rw [List.mem_singleton] at hb
      subst hb
      rintro rfl
      exact hx2 ha
    · rcases List.mem_append.mp hy with z | z
      · exact h3 y z
      · rw [List.mem_singleton] at z
        subst z
        exact hx1
theorem flat_le {α β : Type} {f : α → List β} {n : Nat} (h : ∀ a, (f a).length ≤ n) : ∀ l : List α, (l.flatMap f).length ≤ n * l.length
  | [] => by simp
  | a :: l => by
    rw [List.flatMap_cons, List.length_append, List.length_cons, Nat.mul_succ]
    have := h a
    have := flat_le h l
    omega
theorem ext_le (c p : List Int) : (ext c p).length ≤ c.length := by
  unfold ext
  rw [List.length_map]
  exact List.length_filter_le _ _
theorem lvl_le {c : List Int} (h : c.length ≤ 4) : ∀ k : Nat, (lvl c k).length ≤ 4 ^ k
  | 0 => by simp [lvl]
  | k + 1 => by
    have := lvl_le h k
    have q : (lvl c (k + 1)).length ≤ 4 * (lvl c k).length := flat_le (fun p => Nat.le_trans (ext_le c p) h) _
    rw [Nat.pow_succ]
    omega
theorem lvl_nd {c : List Int} (h : c.Nodup) : ∀ k : Nat, (lvl c k).Nodup
  | 0 => by simp [lvl]
  | k + 1 => by
    have ih := lvl_nd h k
    refine nodup_flat (fun p => ?_) (fun p q x hx hy => ?_) ih
    · unfold ext
      exact nodup_map (fun a b e => by simpa using e) (h.filter _)
    · unfold ext at hx hy
      rw [List.mem_map] at hx hy
      obtain ⟨u, _, e1⟩ := hx
      obtain ⟨v, _, e2⟩ := hy
      exact List.append_inj_left' (e1.trans e2.symm) rfl
theorem lvl_ne {c : List Int} (h : c.Nodup) : ∀ k : Nat, k ≤ c.length → lvl c k ≠ []
  | 0, _ => by simp [lvl]
  | k + 1, hk => by
    have ih := lvl_ne h k (by omega)
    obtain ⟨p, hp⟩ := List.exists_mem_of_ne_nil _ ih
    obtain ⟨h1, h2, h3⟩ := lvl_in k p hp
    have : ∃ x ∈ c, x ∉ p := by
      apply Classical.byContradiction
      intro no
      have sub : c ⊆ p := fun x hx => Classical.byContradiction fun z => no ⟨x, hx, z⟩
      have := sub_len h sub
      omega
    obtain ⟨x, hx, hxp⟩ := this
    intro e
    have : p ++ [x] ∈ lvl c (k + 1) := List.mem_flatMap.mpr ⟨p, hp, List.mem_map.mpr ⟨x, List.mem_filter.mpr ⟨hx, by simpa using hxp⟩, rfl⟩⟩
    rw [e] at this
    cases this
def perms (c : List Int) : List (List Int) := lvl c c.length
theorem perms_in {c p : List Int} (h : c.Nodup) (hp : p ∈ perms c) : p.Nodup ∧ p.Perm c := by
  obtain ⟨h1, h2, h3⟩ := lvl_in _ p hp
  refine ⟨h2, ?_⟩
  exact sub_all h2 h3 (by omega)
theorem row_tD (c : List Int) : Row (tD c) (fun i => .str (nm i)) c := rfl
theorem row_tsD (c : List (List Int)) : Row (tsD c) tD c := rfl
theorem permuted_eq {c : List Int} (h : Nd c) (hl : c.length ≤ 4) : f_law_permuted [tD c] = pure (tsD (perms c)) := by
  have ndp : ∀ k, Nds (lvl c k) := fun k p hp i hi => h i ((lvl_in k p hp).2.2 i hi)
  have inner : ∀ (F : List (List Int)) (s2 s4 : Sl), Nds F → F.length ≤ 256 → (∀ p ∈ F, p.length ≤ 100) → ∃ s4', forGo (gN 4) (sAsg (gN 3) (eO dAdd (eV 3) (eLc [5] (gN 5) (xL (eW 0)) (eO dNotIn (eV 5) (eV 4)) (eO dAdd (eV 4) (eLst (esC (eW 5) (esN))))))) (F.map tD) [.val (tD c), .val (tsD F), s2, .val (tsD []), s4, .no] = pure (.nx [.val (tD c), .val (tsD F), s2, .val (tsD (F.flatMap (ext c))), s4', .no]) := fun F s2 s4 hF lF hpl => by
    obtain ⟨δ', l1, s4', l2⟩ := forGo_pre (g := gN 4) (s := sAsg (gN 3) (eO dAdd (eV 3) (eLc [5] (gN 5) (xL (eW 0)) (eO dNotIn (eV 5) (eV 4)) (eO dAdd (eV 4) (eLst (esC (eW 5) (esN))))))) (emb := tD) (I := fun pre δ => ∃ s4', δ = [.val (tD c), .val (tsD F), s2, .val (tsD (pre.flatMap (ext c))), s4', .no]) (xs := F) (pre := []) (δ := [.val (tD c), .val (tsD F), s2, .val (tsD []), s4, .no]) ⟨_, rfl⟩ (fun pre p q δ e ⟨s4', eδ⟩ => by
      subst eδ
      rw [List.nil_append] at e
      have hp : Nd p := hF p (by rw [e]; simp)
      have lp : pre.length ≤ 256 := by rw [e] at lF; simp at lF; omega
      refine ⟨_, [.val (tD c), .val (tsD F), s2, .val (tsD ((pre ++ [p]).flatMap (ext c))), .val (tD p), .no], rfl, asg_nx (o_eq (ev_v rfl) (y := tsD (ext c p)) ?_ ?_) rfl, _, rfl⟩
      · refine (ev_lc (emb := fun i => D.str (nm i)) (xs := c) (γ := fun x => [.val (tD c), .val (tsD F), s2, .val (tsD (pre.flatMap (ext c))), .val (tD p), .val (.str (nm x))]) (p := fun x => !decide (x ∈ p)) (f := fun x => tD (p ++ [x])) (sx_l (ev_w rfl) (row_tD c)) (fun _ _ => rfl) (fun x hx => o_eq (ev_v rfl) (ev_v rfl) (notIn_name (h x hx) hp)) (fun x hx _ => (o_eq (ev_v rfl) (lst_eq (xs := [.str (nm x)]) (es_cons (ev_w rfl) es_nil) (by simp)) (cat_eq (by rw [List.length_map]; have := hpl p (by rw [e]; simp); simp; omega))).trans (by unfold tD; rw [List.map_append]; rfl)) (by omega)).trans ?_
        unfold ext tsD
        rw [List.map_map]
        rfl
      · refine (cat_eq ?_).trans ?_
        · rw [List.length_map, List.length_map]
          have := flat_le (fun p => ext_le c p) pre
          have := ext_le c p
          have := Nat.mul_le_mul hl lp
          omega
        · unfold tsD
          rw [← List.map_append, List.flatMap_append]
          simp)
    subst l2
    exact ⟨s4', l1⟩
  have turn : ∀ (k : Nat), k < c.length → ∀ s2 s3 s4, ∃ s4', (sSeq (sAsg (gN 3) (eLst (esN))) (sSeq (sFor (gN 4) (xL (eW 1)) (sAsg (gN 3) (eO dAdd (eV 3) (eLc [5] (gN 5) (xL (eW 0)) (eO dNotIn (eV 5) (eV 4)) (eO dAdd (eV 4) (eLst (esC (eW 5) (esN)))))))) (sAsg (gN 1) (eW 3)))) [.val (tD c), .val (tsD (lvl c k)), s2, s3, s4, .no] = pure (.nx [.val (tD c), .val (tsD (lvl c (k + 1))), s2, .val (tsD (lvl c (k + 1))), s4', .no]) := fun k hk s2 s3 s4 => by
    have l4 := lvl_le hl k
    have l5 : 4 ^ k ≤ 4 ^ 4 := Nat.pow_le_pow_right (by decide) (by omega)
    obtain ⟨s4', e⟩ := inner (lvl c k) s2 s4 (ndp k) (by omega) (fun p hp => by rw [(lvl_in k p hp).1]; omega)
    refine ⟨s4', ?_⟩
    rw [seq_nx (asg_nx (δ' := [.val (tD c), .val (tsD (lvl c k)), s2, .val (tsD []), s4, .no]) (d := tsD []) (lst_eq es_nil (by simp)) rfl), seq_nx (for_nx (sx_l (ev_w (i := 1) rfl) (row_tsD _)) e)]
    exact asg_nx (ev_w rfl) rfl
  have loop : ∃ s2 s3 s4, forGo (gN 2) (sSeq (sAsg (gN 3) (eLst (esN))) (sSeq (sFor (gN 4) (xL (eW 1)) (sAsg (gN 3) (eO dAdd (eV 3) (eLc [5] (gN 5) (xL (eW 0)) (eO dNotIn (eV 5) (eV 4)) (eO dAdd (eV 4) (eLst (esC (eW 5) (esN)))))))) (sAsg (gN 1) (eW 3)))) ((List.range c.length).map fun k => .int (k : Nat)) [.val (tD c), .val (tsD (lvl c 0)), .no, .no, .no, .no] = pure (.nx [.val (tD c), .val (tsD (perms c)), s2, s3, s4, .no]) := by
    obtain ⟨δ', l1, s2, s3, s4, l2⟩ := forGo_pre (g := gN 2) (s := sSeq (sAsg (gN 3) (eLst (esN))) (sSeq (sFor (gN 4) (xL (eW 1)) (sAsg (gN 3) (eO dAdd (eV 3) (eLc [5] (gN 5) (xL (eW 0)) (eO dNotIn (eV 5) (eV 4)) (eO dAdd (eV 4) (eLst (esC (eW 5) (esN)))))))) (sAsg (gN 1) (eW 3)))) (emb := fun k : Nat => D.int (k : Nat)) (I := fun pre δ => ∃ s2 s3 s4, δ = [.val (tD c), .val (tsD (lvl c pre.length)), s2, s3, s4, .no]) (xs := List.range c.length) (pre := []) (δ := [.val (tD c), .val (tsD (lvl c 0)), .no, .no, .no, .no]) ⟨_, _, _, rfl⟩ (fun pre k q δ e ⟨s2, s3, s4, eδ⟩ => by
      subst eδ
      rw [List.nil_append] at e
      have hk : pre.length < c.length := by
        have := congrArg List.length e
        simp at this
        omega
      obtain ⟨s4', e2⟩ := turn pre.length hk (.val (.int (k : Nat))) s3 s4
      exact ⟨_, _, rfl, e2, _, _, _, by rw [List.length_append]; rfl⟩)
    subst l2
    rw [List.nil_append, List.length_range] at l1
    exact ⟨_, _, _, l1⟩
  obtain ⟨s2, s3, s4, loop⟩ := loop
  unfold f_law_permuted
  refine fn_rt rfl ?_
  rw [seq_nx (asg_nx (δ' := [.val (tD c), .val (tsD (lvl c 0)), .no, .no, .no, .no]) (d := tsD (lvl c 0)) (lst_eq (xs := [.lst []]) (es_cons (lst_eq es_nil (by simp)) es_nil) (by simp)) rfl), seq_nx (for_nx (sx_r (f_eq (ev_v (i := 0) rfl) ((len_ev _).trans (by rw [List.length_map]))) (by omega)) loop)]
  exact ret_rt (ev_w rfl)
end K81

/-! ## QDK81 -/
set_option autoImplicit false
set_option linter.all false
set_option maxRecDepth 100000
set_option maxHeartbeats 2000000
namespace K81
open PySem DL
local macro_rules | `(tactic| wtm_at "evt") => `(tactic| first | rfl | assumption | (simp only [*]; done) | (simp [*, isTy]; done) | (simp; done) | decide | omega)
local macro_rules | `(tactic| wtm_at "evb") => `(tactic| first | omega | (simp only [List.length_map, List.length_append, List.length_cons, List.length_nil, List.length_zip, List.length_zipIdx, List.length_range, List.length_reverse]; omega) | (simp; omega) | decide)
local macro_rules | `(tactic| wtm_at "evc") => `(tactic| ((with_reducible show _ = _); assumption))
local macro_rules | `(tactic| wtm_at "ev1") => `(tactic| first
  | with_reducible exact ev_k
  | ((with_reducible apply  ev_w); exact rfl)
  | ((with_reducible apply  ev_v); exact rfl)
  | ((with_reducible apply  ev_vo); exact rfl)
  | with_reducible exact es_nil
  | with_reducible exact ev_no
  | with_reducible exact ev_skip
  | with_reducible exact seqK_rt
  | with_reducible apply  es_cons
  | with_reducible apply  f_eq
  | with_reducible apply  o_eq
  | with_reducible apply  ev_lst
  | with_reducible apply  tup_eq
  | with_reducible apply  ev_and
  | with_reducible apply  ev_or
  | with_reducible apply  ev_ife
  | with_reducible apply  call_eq
  | with_reducible apply  ev_callK
  | with_reducible apply  ev_callD
  | with_reducible apply  ev_callDK
  | with_reducible apply  hI_eq
  | with_reducible apply  hU_eq
  | with_reducible apply  ev_cutN
  | with_reducible apply  ev_at
  | with_reducible apply  ev_lcA
  | with_reducible apply  ev_lc
  | with_reducible apply  sx_l
  | with_reducible apply  sx_vw
  | with_reducible apply  sx_enum
  | with_reducible apply  sx_zip
  | with_reducible apply  sx_zipS
  | with_reducible apply  sx_r
  | with_reducible apply  sx_r2
  | with_reducible apply  ev_seq
  | with_reducible apply  seqK_nx
  | with_reducible apply  ev_if
  | with_reducible apply  ev_ret
  | with_reducible apply  ev_do
  | with_reducible apply  ev_asg
  | with_reducible apply  ev_par
  | with_reducible apply  ev_thr
  | with_reducible apply  ev_dox_thr
  | ((with_reducible apply  ifK_t); (wtm_at "evt"))
  | ((with_reducible apply  ifK_f); (wtm_at "evt"))
  | exact eqB_int _ _ | exact neB_int _ _ | exact eqB_bl _ _ | exact neB_bl _ _ | exact eqB_str _ _ | exact neB_str _ _
  | exact lt_ev _ _ | exact le_ev _ _ | exact gt_ev _ _ | exact ge_ev _ _ | exact not_ev _ | exact addI_ev _ _ | exact subI_ev _ _
  | ((with_reducible show Row _ _ _); first | exact row_code _ | exact row_codes _ | exact row_map _ _ | exact row_bcode _ | exact row_bcodes _ | exact row_id _)
  | ((with_reducible show _ = List.map _ _); first | exact map_mapR _ _ | exact map_idR _)
  | ((with_reducible show dIsI _ _ = _); exact rfl) | ((with_reducible show dIsI2 _ _ _ = _); exact rfl) | ((with_reducible show dIsN _ = _); exact rfl) | ((with_reducible show dNotN _ = _); exact rfl)
  | ((with_reducible show dUw _ = _); first | exact uw_bcodes _ | exact uw_bcode _ | exact rfl)
  | exact hU_len _
  | ((with_reducible show D.imm _ = _); exact rfl)
  | exact allB_ev _ _ | exact anyB_ev _ _ | exact sumI_ev _ _ | exact sumC_ev _
  | exact len_ev _ | exact lenT_ev _ | exact cut_ev _ _ _ | exact list_ev _ | exact tuple_ev _ | exact rev_ev _
  | apply  addL_ev
  | wtm_at "evc"
  | ((with_reducible show _ = some _); exact rfl)
  | ((with_reducible show _ ≤ _); wtm_at "evb")
  | ((with_reducible show _ < _); wtm_at "evb")
  | ((with_reducible show (_ : Nat) = _); wtm_at "evb")
  | ((with_reducible show ∀ _, _ ∈ _ → _); intro _ _)
  | ((with_reducible show (_ : Bool) = _ → _); intro _))
local macro_rules | `(tactic| wtm_at "ev") => `(tactic| repeat' (wtm_at "ev1"))
/-! ### what is drawn -/
theorem perm_map {α : Type} {f : α → D} : ∀ {xs : List α} {ys : List D}, ys.Perm (xs.map f) → ∃ zs : List α, zs.Perm xs ∧ ys = zs.map f
  | [], ys, h => ⟨[], .refl _, by simpa using h⟩
  | x :: xs, ys, h => by
    have hx : f x ∈ ys := h.mem_iff.mpr (by simp)
    obtain ⟨s, t, rfl⟩ := List.append_of_mem hx
    have h2 : (s ++ t).Perm (xs.map f) := List.perm_cons (a := f x) |>.mp (List.perm_middle.symm.trans h)
    obtain ⟨zs, p, e⟩ := perm_map h2
    obtain ⟨z1, z2, rfl, e1, e2⟩ := List.map_eq_append_iff.mp e.symm
    refine ⟨z1 ++ x :: z2, List.perm_middle.trans (p.cons x), ?_⟩
    rw [List.map_append, List.map_cons, e1, e2]
/-- sorted(shuffled(..)[:1 + random(..)]) -/
theorem drawn_yl {α : Type} {f : α → D} {xs : List α} {n : Nat} {ea eb : E} {δ : Dlt} {g : List α → List α} (h0 : eW 0 δ = pure .gen) (h1 : ea δ = pure (.lst (xs.map f))) (hb : eb δ = pure (.int (n : Nat))) (hn : 1 ≤ n) (hn2 : n ≤ 1000) (hl : xs.length ≤ 900) (hc : ∀ x ∈ xs, (f x).cl 59 = true)
    (hs : ∀ zs : List α, (∀ z ∈ zs, z ∈ xs) → dSorted (.lst (zs.map f)) = pure (.lst ((g zs).map f))) :
    Yl (xs.length + 1) (eF dSorted (eCut (eCall f_law_shuffled (esC (eW 0) (esC ea (esN)))) (eNo) (eAt (eO dAdd (eK (.int 1)) (eCall f_law_random (esC (eW 0) (esC eb (esN))))))) δ) fun d => ∃ zs : List α, ∃ r : Nat, ∃ ws : List α, d = .lst ((g zs).map f) ∧ zs = ws.take (1 + r) ∧ ws.Perm xs ∧ r < n := by
  have sh := yl_call (n := 0) (j := xs.length) (f := f_law_shuffled) (es := esC (eW 0) (esC ea (esN))) (δ := δ) (P := fun ds => ds = [.gen, .lst (xs.map f)]) (Q := fun d => ∃ ws : List α, d = .lst (ws.map f) ∧ ws.Perm xs) (yl_eq (es_cons h0 (es_cons h1 es_nil)) rfl) (fun ds e => by
    subst e
    refine (shuffled_yl (xs := xs.map f) (by rw [List.length_map]; exact hl) (fun d hd => ?_)).mono (by rw [List.length_map]; exact Nat.le_refl _) fun d ⟨ys, e, p⟩ => ?_
    · rw [List.mem_map] at hd
      obtain ⟨i, hi, rfl⟩ := hd
      exact hc i hi
    · obtain ⟨zs, pz, rfl⟩ := perm_map p
      exact ⟨zs, e, pz⟩)
  have rn := yl_call (n := 0) (j := 1) (f := f_law_random) (es := esC (eW 0) (esC eb (esN))) (δ := δ) (P := fun ds => ds = [.gen, .int (n : Nat)]) (Q := fun d => ∃ r : Nat, d = .int r ∧ (r : Int) < n) (yl_eq (es_cons h0 (es_cons hb es_nil)) rfl) (fun ds e => by
    subst e
    exact random_yl (by omega) (by omega))
  refine (yl_bind (n := 0 + xs.length + 1) (j := 0) (P := fun d => ∃ zs : List α, ∃ r : Nat, ∃ ws : List α, d = .lst (zs.map f) ∧ zs = ws.take (1 + r) ∧ ws.Perm xs ∧ r < n) ?_ fun d ⟨zs, r, ws, e, ez, p, hr⟩ => ?_).mono (by omega) fun _ z => z
  · refine (yl_bind sh fun d ⟨ws, e, p⟩ => ?_).mono (Nat.le_refl _) fun _ z => z
    subst e
    refine (yl_bind (n := 0) (j := 1) (P := fun o : Option Int => o = none) (yl_pure rfl) fun o eo => ?_).mono (by omega) fun _ z => z
    subst eo
    refine (yl_bind (n := 1) (j := 0) (P := fun o : Option Int => ∃ r : Nat, o = some ((1 + r : Nat) : Int) ∧ r < n) ?_ fun o ⟨r, eo, hr⟩ => ?_).mono (by omega) fun _ z => z
    · have q : Yl 1 (eO dAdd (eK (.int 1)) (eCall f_law_random (esC (eW 0) (esC eb (esN)))) δ) fun d => ∃ r : Nat, d = .int ((1 + r : Nat) : Int) ∧ r < n := (yl_o (n := 0) (P := fun d => d = .int 1) (yl_eq rfl rfl) rn fun x y ex ey => by
        obtain ⟨r, ey, hr⟩ := ey
        subst ex ey
        exact ⟨.int ((1 + r : Nat) : Int), rfl, r, rfl, by omega⟩).mono (by omega) fun _ z => z
      refine (yl_bind (j := 0) q fun d ⟨r, e, hr⟩ => ?_).mono (by omega) fun _ z => z
      subst e
      exact yl_pure ⟨r, rfl, hr⟩
    · subst eo
      refine yl_eq (a := .lst ((ws.take (1 + r)).map f)) ?_ ⟨ws.take (1 + r), r, ws, rfl, rfl, p, hr⟩
      show (pure (D.lst (cut (ws.map f) none (some ((1 + r : Nat) : Int)))) : M D) = _
      rw [cut_take, List.map_take]
  · subst e
    exact yl_eq (hs zs fun z hz => p.mem_iff.mp (by rw [ez] at hz; exact List.mem_of_mem_take hz)) ⟨zs, r, ws, rfl, ez, p, hr⟩
/-- names as they are drawn -/
structure Nms (c : List Int) : Prop where
  ne : c ≠ []
  len : c.length ≤ 4
  of : ∀ i ∈ c, 1 ≤ i ∧ i ≤ 8
  up : c.Pairwise (· < ·)
theorem Nms.nd {c : List Int} (h : Nms c) : Nd c := fun i hi => by have := h.of i hi; omega
theorem Nms.nodup {c : List Int} (h : Nms c) : c.Nodup := h.up.imp fun {a b} q => by omega
theorem sort_strict {c : List Int} (h : c.Nodup) : (sortI c).Pairwise (· < ·) := by
  have h1 := sortI_sorted c
  have h2 : (sortI c).Nodup := (sortI_perm c).nodup_iff.mpr h
  exact (h1.and h2).imp fun {a b} ⟨q1, q2⟩ => by omega
theorem names_yl : Yl 9 (f_law_names [.gen, .int 4]) fun d => ∃ c, d = tD c ∧ Nms c := by
  refine yl_fn rfl ?_
  refine (yl_ret ?_).mono (Nat.le_refl _) fun _ z => z
  have q := drawn_yl (f := fun i => D.str (nm i)) (xs := [1, 2, 3, 4, 5, 6, 7, 8]) (n := 4) (ea := eLst (esC (eK (.str "a")) (esC (eK (.str "box")) (esC (eK (.str "desk")) (esC (eK (.str "door")) (esC (eK (.str "k1")) (esC (eK (.str "k10")) (esC (eK (.str "safe")) (esC (eK (.str "z")) (esN)))))))))) (eb := eW 1) (δ := startD 2 [.gen, .int 4]) (g := sortI) rfl rfl rfl (by decide) (by decide) (by decide) (fun x hx => cl_name (by simp at hx; omega)) (fun zs hz => sorted_tD fun i hi => by have := hz i hi; simp at this; omega)
  refine q.mono (by decide) fun d ⟨zs, r, ws, e, ez, p, hr⟩ => ⟨sortI zs, e, ?_⟩
  have mem : ∀ i ∈ zs, i ∈ ws := fun i hi => by rw [ez] at hi; exact List.mem_of_mem_take hi
  have lw : ws.length = 8 := p.length_eq
  refine ⟨?_, ?_, ?_, ?_⟩
  · intro z
    have := (sortI_perm zs).length_eq
    rw [z, ez, List.length_take, lw] at this
    simp at this
    omega
  · rw [(sortI_perm zs).length_eq, ez, List.length_take]
    omega
  · intro i hi
    have := p.mem_iff.mp (mem i ((sortI_perm zs).mem_iff.mp hi))
    simp at this
    omega
  · refine sort_strict ?_
    have nd : ws.Nodup := p.nodup_iff.mpr (by decide)
    rw [ez]
    exact (List.take_sublist _ _).nodup nd
/-- wished orders -/
structure Wish (c : List Int) (os : List (List Int)) : Prop where
  ne : os ≠ []
  len : os.length ≤ 6
  pm : ∀ o ∈ os, o.Perm c
  up : os.Pairwise fun a b => ltC a b = true
theorem sortC_le (cs : List (List Int)) : (sortC cs).Pairwise fun a b => (!ltC b a) = true :=
  List.pairwise_mergeSort (le := fun a b => !ltC b a) (fun a b c h1 h2 => by
    have := leD_trans (codeD a) (codeD b) (codeD c) (by unfold leD; rw [lt_code]; exact h1) (by unfold leD; rw [lt_code]; exact h2)
    unfold leD at this
    rw [lt_code] at this
    exact this) (fun a b => by
    have := leD_total (codeD a) (codeD b)
    unfold leD at this
    rw [lt_code, lt_code] at this
    exact this) cs
theorem sortC_strict {cs : List (List Int)} (h : cs.Nodup) : (sortC cs).Pairwise fun a b => ltC a b = true := by
  have h1 := sortC_le cs
  have h2 : (sortC cs).Nodup := (sortC_perm cs).nodup_iff.mpr h
  refine (h1.and h2).imp fun {a b} ⟨q1, q2⟩ => ?_
  cases e : ltC a b with
  | true => rfl
  | false => exact absurd (ltC_anti a b q1 (by rw [e]; rfl)) q2
theorem wished_yl {c : List Int} (h : Nms c) : Yl 257 (f_law_wished [.gen, tD c]) fun d => ∃ os, d = tsD os ∧ Wish c os := by
  refine yl_fn rfl ?_
  have ndp : Nds (perms c) := fun p hp i hi => h.nd i ((perms_in h.nodup hp).2.mem_iff.mp hi)
  have lp : (perms c).length ≤ 256 := by
    have := lvl_le h.len c.length
    have q : 4 ^ c.length ≤ 4 ^ 4 := Nat.pow_le_pow_right (by decide) h.len
    unfold perms
    omega
  have np : 1 ≤ (perms c).length := List.length_pos_iff.mpr (lvl_ne h.nodup _ (Nat.le_refl _))
  refine yl_seq0 (δ' := [.val .gen, .val (tD c), .val (tsD (perms c))]) (asg_nx (call_eq (es_cons (ev_w rfl) es_nil) (permuted_eq h.nd h.len)) rfl) ?_
  refine (yl_ret ?_).mono (Nat.le_refl _) fun _ z => z
  have bd : eO dMin2 (eF dLen (eV 2)) (eK (.int 6)) [.val .gen, .val (tD c), .val (tsD (perms c))] = pure (.int ((min (perms c).length 6 : Nat))) := by
    refine o_eq (f_eq (ev_v rfl) ((len_ev _).trans (by rw [List.length_map]))) ev_k ?_
    show (pure (D.int _) : M D) = _
    congr 2
    omega
  have q := drawn_yl (f := tD) (xs := perms c) (n := min (perms c).length 6) (ea := eW 2) (eb := eO dMin2 (eF dLen (eV 2)) (eK (.int 6))) (δ := [.val .gen, .val (tD c), .val (tsD (perms c))]) (g := sortC) rfl rfl bd (by omega) (by omega) (by omega) (fun x hx => cl_tD (n := 58) (ndp x hx)) (fun zs hz => sorted_tsD fun i hi => ndp i (hz i hi))
  refine q.mono (by omega) fun d ⟨zs, r, ws, e, ez, p, hr⟩ => ⟨sortC zs, e, ?_⟩
  have mem : ∀ i ∈ zs, i ∈ ws := fun i hi => by rw [ez] at hi; exact List.mem_of_mem_take hi
  have lw := p.length_eq
  refine ⟨?_, ?_, ?_, ?_⟩
  · intro z
    have := (sortC_perm zs).length_eq
    rw [z, ez, List.length_take, lw] at this
    simp at this
    omega
  · rw [(sortC_perm zs).length_eq, ez, List.length_take]
    omega
  · intro o ho
    exact (perms_in h.nodup (p.mem_iff.mp (mem o ((sortC_perm zs).mem_iff.mp ho)))).2
  · refine sortC_strict ?_
    have nd : ws.Nodup := p.nodup_iff.mpr (lvl_nd h.nodup _)
    rw [ez]
    exact (List.take_sublist _ _).nodup nd
end K81

/-! ## QEK81 -/
set_option autoImplicit false
set_option linter.all false
set_option maxRecDepth 100000
set_option maxHeartbeats 2000000
namespace K81
open PySem DL
local macro_rules | `(tactic| wtm_at "evt") => `(tactic| first | rfl | assumption | (simp only [*]; done) | (simp [*, isTy]; done) | (simp; done) | decide | omega)
local macro_rules | `(tactic| wtm_at "evb") => `(tactic| first | omega | (simp only [List.length_map, List.length_append, List.length_cons, List.length_nil, List.length_zip, List.length_zipIdx, List.length_range, List.length_reverse]; omega) | (simp; omega) | decide)
local macro_rules | `(tactic| wtm_at "evc") => `(tactic| ((with_reducible show _ = _); assumption))
local macro_rules | `(tactic| wtm_at "ev1") => `(tactic| first
  | with_reducible exact ev_k
  | ((with_reducible apply  ev_w); exact rfl)
  | ((with_reducible apply  ev_v); exact rfl)
  | ((with_reducible apply  ev_vo); exact rfl)
  | with_reducible exact es_nil
  | with_reducible exact ev_no
  | with_reducible exact ev_skip
  | with_reducible exact seqK_rt
  | with_reducible apply  es_cons
  | with_reducible apply  f_eq
  | with_reducible apply  o_eq
  | with_reducible apply  ev_lst
  | with_reducible apply  tup_eq
  | with_reducible apply  ev_and
  | with_reducible apply  ev_or
  | with_reducible apply  ev_ife
  | with_reducible apply  call_eq
  | with_reducible apply  ev_callK
  | with_reducible apply  ev_callD
  | with_reducible apply  ev_callDK
  | with_reducible apply  hI_eq
  | with_reducible apply  hU_eq
  | with_reducible apply  ev_cutN
  | with_reducible apply  ev_at
  | with_reducible apply  ev_lcA
  | with_reducible apply  ev_lc
  | with_reducible apply  sx_l
  | with_reducible apply  sx_vw
  | with_reducible apply  sx_enum
  | with_reducible apply  sx_zip
  | with_reducible apply  sx_zipS
  | with_reducible apply  sx_r
  | with_reducible apply  sx_r2
  | with_reducible apply  ev_seq
  | with_reducible apply  seqK_nx
  | with_reducible apply  ev_if
  | with_reducible apply  ev_ret
  | with_reducible apply  ev_do
  | with_reducible apply  ev_asg
  | with_reducible apply  ev_par
  | with_reducible apply  ev_thr
  | with_reducible apply  ev_dox_thr
  | ((with_reducible apply  ifK_t); (wtm_at "evt"))
  | ((with_reducible apply  ifK_f); (wtm_at "evt"))
  | exact eqB_int _ _ | exact neB_int _ _ | exact eqB_bl _ _ | exact neB_bl _ _ | exact eqB_str _ _ | exact neB_str _ _
  | exact lt_ev _ _ | exact le_ev _ _ | exact gt_ev _ _ | exact ge_ev _ _ | exact not_ev _ | exact addI_ev _ _ | exact subI_ev _ _
  | ((with_reducible show Row _ _ _); first | exact row_code _ | exact row_codes _ | exact row_map _ _ | exact row_bcode _ | exact row_bcodes _ | exact row_id _)
  | ((with_reducible show _ = List.map _ _); first | exact map_mapR _ _ | exact map_idR _)
  | ((with_reducible show dIsI _ _ = _); exact rfl) | ((with_reducible show dIsI2 _ _ _ = _); exact rfl) | ((with_reducible show dIsN _ = _); exact rfl) | ((with_reducible show dNotN _ = _); exact rfl)
  | ((with_reducible show dUw _ = _); first | exact uw_bcodes _ | exact uw_bcode _ | exact rfl)
  | exact hU_len _
  | ((with_reducible show D.imm _ = _); exact rfl)
  | exact allB_ev _ _ | exact anyB_ev _ _ | exact sumI_ev _ _ | exact sumC_ev _
  | exact len_ev _ | exact lenT_ev _ | exact cut_ev _ _ _ | exact list_ev _ | exact tuple_ev _ | exact rev_ev _
  | apply  addL_ev
  | wtm_at "evc"
  | ((with_reducible show _ = some _); exact rfl)
  | ((with_reducible show _ ≤ _); wtm_at "evb")
  | ((with_reducible show _ < _); wtm_at "evb")
  | ((with_reducible show (_ : Nat) = _); wtm_at "evb")
  | ((with_reducible show ∀ _, _ ∈ _ → _); intro _ _)
  | ((with_reducible show (_ : Bool) = _ → _); intro _))
local macro_rules | `(tactic| wtm_at "ev") => `(tactic| repeat' (wtm_at "ev1"))
/-! ### beginnings -/
def bg (o : List Int) (k : Nat) : List Int := sortI (o.take k)
def bgo (o : List Int) : List (List Int) := (List.range (o.length + 1)).map (bg o)
def bgs (os : List (List Int)) : List (List Int) := os.flatMap bgo
def fnd (os : List (List Int)) : List (List Int) := uniq (bgs os)
def plt (a b : List Int) : Bool := decide (a.length < b.length) || (!decide (b.length < a.length) && ltC a b)
def due (os : List (List Int)) : List (List Int) := (fnd os).mergeSort fun a b => !plt b a
theorem bg_nd {o : List Int} (h : Nd o) (k : Nat) : Nd (bg o k) := fun i hi => h i (List.mem_of_mem_take ((sortI_perm _).mem_iff.mp hi))
theorem bg_len (o : List Int) (k : Nat) : (bg o k).length ≤ o.length := by
  unfold bg
  rw [(sortI_perm _).length_eq, List.length_take]
  omega
theorem bgs_in {os : List (List Int)} {c : List Int} (h : c ∈ bgs os) : ∃ o ∈ os, ∃ k, c = bg o k := by
  obtain ⟨o, ho, hc⟩ := List.mem_flatMap.mp h
  unfold bgo at hc
  rw [List.mem_map] at hc
  obtain ⟨k, _, rfl⟩ := hc
  exact ⟨o, ho, k, rfl⟩
theorem bgs_nd {os : List (List Int)} (h : Nds os) : Nds (bgs os) := fun c hc => by
  obtain ⟨o, ho, k, rfl⟩ := bgs_in hc
  exact bg_nd (h o ho) k
theorem fnd_nd {os : List (List Int)} (h : Nds os) : Nds (fnd os) := fun c hc => bgs_nd h c (uniq_mem.mp hc)
theorem due_perm (os : List (List Int)) : (due os).Perm (fnd os) := List.mergeSort_perm _ _
theorem due_nd {os : List (List Int)} (h : Nds os) : Nds (due os) := fun c hc => fnd_nd h c ((due_perm os).mem_iff.mp hc)
theorem due_len {os : List (List Int)} (h : ∀ o ∈ os, o.length ≤ 4) (hl : os.length ≤ 6) : (due os).length ≤ 30 ∧ ∀ c ∈ due os, c.length ≤ 4 := by
  constructor
  · have e : (due os).length ≤ (bgs os).length := by
      rw [(due_perm os).length_eq]
      exact uniq_le _
    have f : ∀ (l : List (List Int)), (∀ o ∈ l, o.length ≤ 4) → (bgs l).length ≤ 5 * l.length := by
      intro l
      induction l with
      | nil => intro _; simp [bgs]
      | cons o l ih =>
        intro hl
        have := ih fun z hz => hl z (List.mem_cons_of_mem _ hz)
        have := hl o List.mem_cons_self
        unfold bgs at *
        rw [List.flatMap_cons, List.length_append, List.length_cons]
        unfold bgo at *
        rw [List.length_map, List.length_range]
        omega
    have := f os h
    omega
  · intro c hc
    obtain ⟨o, ho, k, rfl⟩ := bgs_in (uniq_mem.mp ((due_perm os).mem_iff.mp hc))
    exact Nat.le_trans (bg_len o k) (h o ho)
/-! the order of pairs -/
theorem lt_toksS (s : List (Int ⊕ List Nat)) : ∀ {a b : List Int}, Nd a → Nd b → PyProof.Rows.lexLt PyProof.Rows.itemOrd (PySem.W.keyToksAll (pys (a.map fun i => .str (nm i))) ++ s) (PySem.W.keyToksAll (pys (b.map fun i => .str (nm i))) ++ s) = ltC a b
  | [], [], _, _ => by simp only [List.map_nil, pys, PySem.W.keyToksAll]; exact PyProof.Rows.lex_irrefl _
  | [], y :: b, _, _ => by
    simp only [List.map_nil, List.map_cons, pys, PySem.W.keyToksAll, List.cons_append, List.nil_append]
    rw [PyProof.Rows.lex_cons]
    rfl
  | x :: a, [], _, _ => by
    simp only [List.map_nil, List.map_cons, pys, PySem.W.keyToksAll, List.cons_append, List.nil_append]
    rw [PyProof.Rows.lex_cons]
    rfl
  | x :: a, y :: b, ha, hb => by
    have ih := lt_toksS s (a := a) (b := b) (fun i hi => ha i (List.mem_cons_of_mem _ hi)) (fun i hi => hb i (List.mem_cons_of_mem _ hi))
    have hx := ha x List.mem_cons_self
    have hy := hb y List.mem_cons_self
    simp only [List.map_cons, pys, PySem.W.keyToksAll, D.py, PySem.W.keyToks, List.cons_append, List.nil_append]
    rw [PyProof.Rows.lex_self, PyProof.Rows.lex_cons, ih, nm_lt hx hy, nm_lt hy hx]
    rfl
def pD (c : List Int) : D := .tup [.int (c.length : Nat), tD c]
def kz (c : List Int) : List (Int ⊕ Str) := c.map fun i => .inr (nm i)
theorem tup_kz (c : List Int) : tupD (kz c) = .tup (c.map fun i => .str (nm i)) := by
  unfold tupD kz
  rw [List.map_map]
  rfl
def qD (c : List Int) : D := .tup [.int (c.length : Nat), tupD (kz c)]
theorem len_lt (a b : List Int) : decide (((a.length : Nat) : Int) < (b.length : Nat)) = decide (a.length < b.length) := decide_eq_decide.mpr (by omega)
theorem lt_pair {a b : List Int} {t u : D} (ht : PySem.W.keyToks t.py = PySem.W.keyToksAll (pys (a.map fun i => .str (nm i)))) (hu : PySem.W.keyToks u.py = PySem.W.keyToksAll (pys (b.map fun i => .str (nm i)))) (ha : Nd a) (hb : Nd b) :
    PySem.W.dataLt (D.tup [.int (a.length : Nat), t]).py (D.tup [.int (b.length : Nat), u]).py = plt a b := by
  show PyProof.Rows.lexLt PyProof.Rows.itemOrd (PySem.W.keyToksAll [.int (a.length : Nat), t.py]) (PySem.W.keyToksAll [.int (b.length : Nat), u.py]) = _
  simp only [PySem.W.keyToksAll, PySem.W.keyToks, List.cons_append, List.nil_append, ht, hu]
  rw [PyProof.Rows.lex_self, PyProof.Rows.lex_cons, PyProof.Rows.lex_self, lt_toksS _ ha hb]
  show (decide (((a.length : Nat) : Int) < (b.length : Nat)) || (!decide (((b.length : Nat) : Int) < (a.length : Nat)) && _)) = _
  rw [len_lt, len_lt]
  rfl
theorem sort_pairs {f : List Int → D} {cs : List (List Int)} (hn : Nds cs) (hl : ∀ c ∈ cs, c.length ≤ 1000) (hf : ∀ c, f c = D.tup [.int (c.length : Nat), tD c] ∨ f c = D.tup [.int (c.length : Nat), .tup (c.map fun i => .str (nm i))]) (same : ∀ a b, PySem.W.alike (f a).py (f b).py = true) :
    sortableB (cs.map f) = true ∧ ∀ a ∈ cs, ∀ b ∈ cs, leD (f a) (f b) = !plt b a := by
  have tk : ∀ c ∈ cs, ∃ t, f c = D.tup [.int (c.length : Nat), t] ∧ PySem.W.keyToks t.py = PySem.W.keyToksAll (pys (c.map fun i => .str (nm i))) ∧ t.cl 59 = true := fun c hc => by
    rcases hf c with e | e
    · exact ⟨_, e, rfl, cl_tD (n := 58) (hn c hc)⟩
    · exact ⟨_, e, rfl, cl_tD (n := 58) (hn c hc)⟩
  constructor
  · unfold sortableB
    rw [Bool.and_eq_true, Bool.and_eq_true, Bool.or_eq_true]
    refine ⟨⟨?_, ?_⟩, .inl ?_⟩
    · rw [List.all_map, List.all_eq_true]
      intro c hc
      obtain ⟨t, e, _, q⟩ := tk c hc
      show (f c).cl 60 = true
      rw [e]
      show (decide (((c.length : Nat) : Int).natAbs.log2 < 1920) && (t.cl 59 && true)) = true
      rw [q, decide_eq_true (show ((c.length : Nat) : Int).natAbs.log2 < 1920 from small_of (i := ((c.length : Nat) : Int)) (by have := hl c hc; omega))]
      rfl
    · rw [List.all_map, List.all_eq_true]
      intro a _
      show ((cs.map f).all _) = true
      rw [List.all_map, List.all_eq_true]
      exact fun b _ => same a b
    · rw [List.all_map, List.all_eq_true]
      intro c hc
      obtain ⟨t, e, _, q⟩ := tk c hc
      show (f c).tupled = true
      rw [e]
      rfl
  · intro a ha b hb
    obtain ⟨t, e1, k1, _⟩ := tk a ha
    obtain ⟨u, e2, k2, _⟩ := tk b hb
    unfold leD
    rw [e1, e2, lt_pair k2 k1 (hn b hb) (hn a ha)]
theorem alike_pD (a b : List Int) : PySem.W.alike (pD a).py (pD b).py = true := by
  show PySem.W.alikeAll [.int _, .list _] [.int _, .list _] = true
  simp only [PySem.W.alikeAll, PySem.W.alike, alike_tD]
  rfl
theorem alike_qD (a b : List Int) : PySem.W.alike (qD a).py (qD b).py = true := by
  unfold qD
  rw [tup_kz, tup_kz]
  show PySem.W.alikeAll [.int _, .tuple _] [.int _, .tuple _] = true
  simp only [PySem.W.alikeAll, PySem.W.alike, alike_tD]
  rfl
theorem sorted_pD {cs : List (List Int)} (hn : Nds cs) (hl : ∀ c ∈ cs, c.length ≤ 1000) : dSorted (.lst (cs.map pD)) = pure (.lst ((cs.mergeSort fun a b => !plt b a).map pD)) := by
  obtain ⟨h1, h2⟩ := sort_pairs (f := pD) hn hl (fun c => .inl rfl) alike_pD
  show (if sortableB (cs.map pD) then pure (D.lst ((cs.map pD).mergeSort leD)) else stuck) = _
  rw [if_pos h1]
  have e : (cs.mergeSort fun a b => !plt b a).map pD = (cs.map pD).mergeSort leD := List.map_mergeSort fun a ha b hb => (h2 a ha b hb).symm
  rw [e]
/-! the law's -/
theorem ife_put {F : List (List Int)} {l : List Int} (hF : Nds F) (hl : Nd l) {δ : Dlt} (h1 : δ[1]? = some (.val (tsD F))) (h4 : δ[4]? = some (.val (tD l))) (hz : F.length ≤ 1000) : eO dAdd (eV 1) (eIf (eO dNotIn (eV 4) (eV 1)) (eLst (esC (eW 4) (esN))) (eLst (esN))) δ = pure (tsD (uput F l)) := by
  have t := o_eq (h := dNotIn) (ev_v h4) (ev_v h1) (notIn_tD hl hF)
  by_cases hm : l ∈ F
  · rw [decide_eq_true hm] at t
    refine (o_eq (ev_v h1) ((ife_f t).trans (lst_eq es_nil (by simp))) (cat_eq (by simp; omega))).trans ?_
    unfold uput tsD
    rw [if_pos hm, List.append_nil]
  · rw [decide_eq_false hm] at t
    refine (o_eq (ev_v h1) ((ife_t t).trans (lst_eq (xs := [tD l]) (es_cons (ev_w h4) es_nil) (by simp))) (cat_eq (by simp; omega))).trans ?_
    unfold uput tsD
    rw [if_neg hm, List.map_append]
    rfl
theorem uput_len {α : Type} [DecidableEq α] (F : List α) (l : α) : (uput F l).length ≤ F.length + 1 := by
  unfold uput
  split
  · omega
  · simp
theorem foldl_len {α : Type} [DecidableEq α] : ∀ (ls F : List α), (ls.foldl uput F).length ≤ F.length + ls.length
  | [], F => by simp
  | l :: ls, F => by
    have := foldl_len ls (uput F l)
    have := uput_len F l
    rw [List.foldl_cons, List.length_cons]
    omega
theorem foldl_nd {ls F : List (List Int)} (h1 : Nds ls) (h2 : Nds F) : Nds (ls.foldl uput F) := fun c hc => by
  rcases (foldl_uput_mem ls F).mp hc with z | z
  · exact h2 c z
  · exact h1 c z
abbrev bgBody : S := sSeq (sAsg (gN 4) (eF dSorted (eCut (eV 2) (eNo) (eAt (eV 3))))) (sAsg (gN 1) (eO dAdd (eV 1) (eIf (eO dNotIn (eV 4) (eV 1)) (eLst (esC (eW 4) (esN))) (eLst (esN)))))
theorem bg_inner {os F : List (List Int)} {o : List Int} (ho : Nd o) (lo : o.length ≤ 4) (hF : Nds F) (lF : F.length ≤ 500) (s3 s4 : Sl) : ∃ s3' s4', forGo (gN 3) bgBody ((List.range (o.length + 1)).map fun k => .int (k : Nat)) [.val (tsD os), .val (tsD F), .val (tD o), s3, s4] = pure (.nx [.val (tsD os), .val (tsD ((bgo o).foldl uput F)), .val (tD o), s3', s4']) := by
  obtain ⟨δ', l1, s3', s4', l2⟩ := forGo_pre (g := gN 3) (s := bgBody) (emb := fun k : Nat => D.int (k : Nat)) (I := fun pre δ => ∃ s3 s4, δ = [.val (tsD os), .val (tsD ((pre.map (bg o)).foldl uput F)), .val (tD o), s3, s4]) (xs := List.range (o.length + 1)) (pre := []) (δ := [.val (tsD os), .val (tsD F), .val (tD o), s3, s4]) ⟨_, _, rfl⟩ (fun pre k q δ e ⟨s3, s4, eδ⟩ => by
    subst eδ
    have lp : pre.length ≤ 5 := by
      have := congrArg List.length e
      simp at this
      omega
    have nd1 : Nds (pre.map (bg o)) := fun c hc => by
      rw [List.mem_map] at hc
      obtain ⟨k, _, rfl⟩ := hc
      exact bg_nd ho k
    have ll := foldl_len (pre.map (bg o)) F
    rw [List.length_map] at ll
    refine ⟨_, [.val (tsD os), .val (tsD (((pre ++ [k]).map (bg o)).foldl uput F)), .val (tD o), .val (.int (k : Nat)), .val (tD (bg o k))], rfl, ?_, _, _, rfl⟩
    show sSeq _ _ [.val (tsD os), .val (tsD ((pre.map (bg o)).foldl uput F)), .val (tD o), .val (.int (k : Nat)), s4] = _
    rw [seq_nx (asg_nx (δ' := [.val (tsD os), .val (tsD ((pre.map (bg o)).foldl uput F)), .val (tD o), .val (.int (k : Nat)), .val (tD (bg o k))]) (d := tD (bg o k)) (f_eq (x := tD (o.take k)) (cut_eq (ev_v rfl) ev_no (at_eq (ev_v rfl)) ?_) (sorted_tD fun i hi => ho i (List.mem_of_mem_take hi))) rfl)]
    · refine asg_nx (ife_put (foldl_nd nd1 hF) (bg_nd ho k) rfl rfl (by omega)) ?_
      rw [List.map_append, List.foldl_append]
      rfl
    · show (pure (D.lst (cut (o.map fun i => D.str (nm i)) none (some ((k : Nat) : Int)))) : M D) = _
      rw [cut_take, ← List.map_take]
      rfl)
  subst l2
  exact ⟨s3', s4', l1⟩
theorem begun_eq {os : List (List Int)} (h : Nds os) (hl : os.length ≤ 6) (hc : ∀ o ∈ os, o.length ≤ 4) : f_law_begun [tsD os] = pure (tsD (due os)) := by
  have loop : ∃ s2 s3 s4, forGo (gN 2) (sFor (gN 3) (xR (eO dAdd (eF dLen (eV 2)) (eK (.int 1)))) bgBody) (os.map tD) [.val (tsD os), .val (tsD []), .no, .no, .no] = pure (.nx [.val (tsD os), .val (tsD (fnd os)), s2, s3, s4]) := by
    obtain ⟨δ', l1, ⟨s2, s3, s4, l2⟩, _⟩ := forGo_pre (g := gN 2) (s := sFor (gN 3) (xR (eO dAdd (eF dLen (eV 2)) (eK (.int 1)))) bgBody) (emb := tD) (I := fun pre δ => (∃ s2 s3 s4, δ = [.val (tsD os), .val (tsD ((bgs pre).foldl uput [])), s2, s3, s4]) ∧ ((bgs pre).foldl uput []).length ≤ 5 * pre.length) (xs := os) (pre := []) (δ := [.val (tsD os), .val (tsD []), .no, .no, .no]) ⟨⟨_, _, _, rfl⟩, by simp [bgs]⟩ (fun pre o q δ e ⟨⟨s2, s3, s4, eδ⟩, lp⟩ => by
      subst eδ
      rw [List.nil_append] at e
      have ho : o ∈ os := by rw [e]; simp
      have lpre : pre.length ≤ 6 := by
        have := congrArg List.length e
        simp at this
        omega
      have ndp : Nds ((bgs pre).foldl uput []) := foldl_nd (bgs_nd fun c hc => h c (by rw [e]; simp [hc])) (fun _ z => by cases z)
      obtain ⟨s3', s4', e2⟩ := bg_inner (os := os) (F := (bgs pre).foldl uput []) (h o ho) (hc o ho) ndp (by omega) s3 s4
      have e3 : bgs (pre ++ [o]) = bgs pre ++ bgo o := by
        unfold bgs
        rw [List.flatMap_append]
        simp
      refine ⟨_, [.val (tsD os), .val (tsD ((bgs (pre ++ [o])).foldl uput [])), .val (tD o), s3', s4'], rfl, ?_, ⟨_, _, _, rfl⟩, ?_⟩
      · rw [e3, List.foldl_append]
        exact for_nx (sx_r (n := o.length + 1) (o_eq (f_eq (ev_v rfl) ((len_ev _).trans (by rw [List.length_map]))) ev_k (addI_ev _ _)) (by have := hc o ho; omega)) e2
      · rw [e3, List.foldl_append]
        have := foldl_len (bgo o) ((bgs pre).foldl uput [])
        have lb : (bgo o).length = o.length + 1 := by unfold bgo; rw [List.length_map, List.length_range]
        have := hc o ho
        rw [List.length_append, List.length_singleton]
        omega)
    subst l2
    exact ⟨s2, s3, s4, l1⟩
  obtain ⟨s2, s3, s4, loop⟩ := loop
  obtain ⟨dl1, dl2⟩ := due_len hc hl
  have fl : (fnd os).length ≤ 30 := by rw [← (due_perm os).length_eq]; exact dl1
  have fl2 : ∀ c ∈ fnd os, c.length ≤ 4 := fun c hc => dl2 c ((due_perm os).mem_iff.mpr hc)
  unfold f_law_begun
  refine fn_rt rfl ?_
  rw [seq_nx (asg_nx (δ' := [.val (tsD os), .val (tsD []), .no, .no, .no]) (d := tsD []) (lst_eq es_nil (by simp)) rfl), seq_nx (for_nx (sx_l (ev_w (i := 0) rfl) (row_tsD os)) loop)]
  refine ret_rt ?_
  refine (ev_lcA (emb := pD) (xs := due os) (γ := fun c => [.val (tsD os), .val (tsD (fnd os)), s2, .val (.int (c.length : Nat)), .val (tD c)]) (f := tD) ?_ (fun c _ => rfl) (fun c _ => ev_w rfl) (by omega)).trans rfl
  refine sx_l (f_eq (x := .lst ((fnd os).map pD)) ?_ (sorted_pD (fnd_nd h) fun c hc => by have := fl2 c hc; omega)) (row_map pD (due os))
  exact ev_lcA (emb := tD) (xs := fnd os) (γ := fun c => [.val (tsD os), .val (tsD (fnd os)), s2, s3, .val (tD c)]) (f := pD) (sx_l (ev_w rfl) (row_tsD _)) (fun c _ => rfl) (fun c _ => tup_eq (es_cons (f_eq (ev_v rfl) ((len_ev _).trans (by rw [List.length_map]))) (es_cons (ev_w rfl) es_nil)) (by simp)) (by omega)
end K81

/-! ## QFK81 -/
set_option autoImplicit false
set_option linter.all false
set_option maxRecDepth 100000
set_option maxHeartbeats 2000000
namespace K81
open PySem DL
local macro_rules | `(tactic| wtm_at "evt") => `(tactic| first | rfl | assumption | (simp only [*]; done) | (simp [*, isTy]; done) | (simp; done) | decide | omega)
local macro_rules | `(tactic| wtm_at "evb") => `(tactic| first | omega | (simp only [List.length_map, List.length_append, List.length_cons, List.length_nil, List.length_zip, List.length_zipIdx, List.length_range, List.length_reverse]; omega) | (simp; omega) | decide)
local macro_rules | `(tactic| wtm_at "evc") => `(tactic| ((with_reducible show _ = _); assumption))
local macro_rules | `(tactic| wtm_at "ev1") => `(tactic| first
  | with_reducible exact ev_k
  | ((with_reducible apply  ev_w); exact rfl)
  | ((with_reducible apply  ev_v); exact rfl)
  | ((with_reducible apply  ev_vo); exact rfl)
  | with_reducible exact es_nil
  | with_reducible exact ev_no
  | with_reducible exact ev_skip
  | with_reducible exact seqK_rt
  | with_reducible apply  es_cons
  | with_reducible apply  f_eq
  | with_reducible apply  o_eq
  | with_reducible apply  ev_lst
  | with_reducible apply  tup_eq
  | with_reducible apply  ev_and
  | with_reducible apply  ev_or
  | with_reducible apply  ev_ife
  | with_reducible apply  call_eq
  | with_reducible apply  ev_callK
  | with_reducible apply  ev_callD
  | with_reducible apply  ev_callDK
  | with_reducible apply  hI_eq
  | with_reducible apply  hU_eq
  | with_reducible apply  ev_cutN
  | with_reducible apply  ev_at
  | with_reducible apply  ev_lcA
  | with_reducible apply  ev_lc
  | with_reducible apply  sx_l
  | with_reducible apply  sx_vw
  | with_reducible apply  sx_enum
  | with_reducible apply  sx_zip
  | with_reducible apply  sx_zipS
  | with_reducible apply  sx_r
  | with_reducible apply  sx_r2
  | with_reducible apply  ev_seq
  | with_reducible apply  seqK_nx
  | with_reducible apply  ev_if
  | with_reducible apply  ev_ret
  | with_reducible apply  ev_do
  | with_reducible apply  ev_asg
  | with_reducible apply  ev_par
  | with_reducible apply  ev_thr
  | with_reducible apply  ev_dox_thr
  | ((with_reducible apply  ifK_t); (wtm_at "evt"))
  | ((with_reducible apply  ifK_f); (wtm_at "evt"))
  | exact eqB_int _ _ | exact neB_int _ _ | exact eqB_bl _ _ | exact neB_bl _ _ | exact eqB_str _ _ | exact neB_str _ _
  | exact lt_ev _ _ | exact le_ev _ _ | exact gt_ev _ _ | exact ge_ev _ _ | exact not_ev _ | exact addI_ev _ _ | exact subI_ev _ _
  | ((with_reducible show Row _ _ _); first | exact row_code _ | exact row_codes _ | exact row_map _ _ | exact row_bcode _ | exact row_bcodes _ | exact row_id _)
  | ((with_reducible show _ = List.map _ _); first | exact map_mapR _ _ | exact map_idR _)
  | ((with_reducible show dIsI _ _ = _); exact rfl) | ((with_reducible show dIsI2 _ _ _ = _); exact rfl) | ((with_reducible show dIsN _ = _); exact rfl) | ((with_reducible show dNotN _ = _); exact rfl)
  | ((with_reducible show dUw _ = _); first | exact uw_bcodes _ | exact uw_bcode _ | exact rfl)
  | exact hU_len _
  | ((with_reducible show D.imm _ = _); exact rfl)
  | exact allB_ev _ _ | exact anyB_ev _ _ | exact sumI_ev _ _ | exact sumC_ev _
  | exact len_ev _ | exact lenT_ev _ | exact cut_ev _ _ _ | exact list_ev _ | exact tuple_ev _ | exact rev_ev _
  | apply  addL_ev
  | wtm_at "evc"
  | ((with_reducible show _ = some _); exact rfl)
  | ((with_reducible show _ ≤ _); wtm_at "evb")
  | ((with_reducible show _ < _); wtm_at "evb")
  | ((with_reducible show (_ : Nat) = _); wtm_at "evb")
  | ((with_reducible show ∀ _, _ ∈ _ → _); intro _ _)
  | ((with_reducible show (_ : Bool) = _ → _); intro _))
local macro_rules | `(tactic| wtm_at "ev") => `(tactic| repeat' (wtm_at "ev1"))
/-! ### the program's beginnings -/
/-- orders as they are seen: plain, or read alone -/
structure Seen (v : D) (os : List (List Int)) (e : List Int → D) : Prop where
  row : rowOf v = pure (os.map e)
  uw : ∀ o, dUw (e o) = pure (tD o)
  un : v.un = tsD os
theorem seen_p (os : List (List Int)) : Seen (tsD os) os tD := ⟨rfl, fun _ => rfl, un_nb _ (nb_tsD os)⟩
theorem wrap_strs (o : List Int) : (o.map fun i => D.str (nm i)).map wrapB = o.map fun i => D.str (nm i) := by
  rw [List.map_map]
  rfl
theorem seen_b (os : List (List Int)) : Seen (.bor (tsD os)) os fun o => .bor (tD o) := by
  refine ⟨?_, fun o => ?_, un_nb _ (nb_tsD os)⟩
  · show (pure ((os.map tD).map wrapB) : M (List D)) = _
    rw [List.map_map]
    rfl
  · show (pure (D.lst ((o.map fun i => D.str (nm i)).map wrapB)) : M D) = _
    rw [wrap_strs]
    rfl
theorem kz_inj {a b : List Int} (ha : Nd a) (hb : Nd b) (h : kz a = kz b) : a = b := by
  unfold kz at h
  induction a generalizing b with
  | nil => cases b with
    | nil => rfl
    | cons y b => simp at h
  | cons x a ih => cases b with
    | nil => simp at h
    | cons y b =>
      rw [List.map_cons, List.map_cons] at h
      injection h with h1 h2
      injection h1 with h1
      rw [(nm_inj (ha x List.mem_cons_self) (hb y List.mem_cons_self)).mp h1, ih (fun i hi => ha i (List.mem_cons_of_mem _ hi)) (fun i hi => hb i (List.mem_cons_of_mem _ hi)) h2]
theorem ksPut_kz {F : List (List Int)} {l : List Int} (hF : Nds F) (hl : Nd l) : ksPut (F.map kz) (kz l) = (uput F l).map kz := by
  unfold ksPut uput
  have e : hasK (F.map kz) (kz l) = decide (l ∈ F) := by
    rw [Bool.eq_iff_iff, hasK_iff, decide_eq_true_iff, List.mem_map]
    constructor
    · rintro ⟨y, hy, h⟩
      rw [← kz_inj (hF y hy) hl h]
      exact hy
    · exact fun h => ⟨l, h, rfl⟩
  rw [e]
  by_cases h : l ∈ F
  · rw [decide_eq_true h, if_pos rfl, if_pos h]
  · rw [decide_eq_false h, if_neg (by simp), if_neg h, List.map_append]
    rfl
theorem ksFold {ls : List (List Int)} (h : Nds ls) : ∀ {F : List (List Int)}, Nds F → (ls.map kz).foldl ksPut (F.map kz) = (ls.foldl uput F).map kz := by
  induction ls with
  | nil => intro F _; rfl
  | cons l ls ih =>
    intro F hF
    have hl := h l List.mem_cons_self
    rw [List.map_cons, List.foldl_cons, List.foldl_cons, ksPut_kz hF hl]
    exact ih (fun c hc => h c (List.mem_cons_of_mem _ hc)) fun c hc => (uput_mem.mp hc).elim (hF c) fun e => e ▸ hl
theorem keysOf_kz : ∀ c : List Int, keysOf? (c.map fun i => .str (nm i)) = some (kz c)
  | [] => rfl
  | x :: c => by
    show (match keyOf? (.str (nm x)), keysOf? (c.map fun i => .str (nm i)) with
      | some k, some ks => some (k :: ks)
      | _, _ => none) = _
    rw [keysOf_kz c]
    rfl
def tT (c : List Int) : D := .tup (c.map fun i => .str (nm i))
theorem tupK_tT (c : List Int) : tupK (tT c) = kz c := by
  show (keysOf? (c.map fun i => .str (nm i))).getD [] = _
  rw [keysOf_kz]
  rfl
theorem dsetOf_tT {ls : List (List Int)} (h : Nds ls) : dsetOf (ls.map tT) = (uniq ls).map kz := by
  unfold dsetOf
  rw [List.map_map, show (tupK ∘ tT) = kz from funext tupK_tT]
  exact ksFold h (F := []) fun _ z => by cases z
theorem allTup_tT (ls : List (List Int)) : allTup (ls.map tT) = true := by
  unfold allTup
  rw [List.all_map, List.all_eq_true]
  intro c _
  show (keysOf? (c.map fun i => .str (nm i))).isSome = true
  rw [keysOf_kz]
  rfl
theorem tup_kz' (c : List Int) : tupD (kz c) = tT c := tup_kz c
theorem size_and_lot_eq (c : List Int) : f_size_and_lot [tT c] = pure (qD c) := by
  unfold f_size_and_lot qD
  rw [tup_kz']
  refine fn_rt rfl (ret_rt (tup_eq (es_cons (f_eq (ev_v rfl) ((lenT_ev _).trans (by rw [List.length_map]))) (es_cons (ev_w rfl) es_nil)) (by simp)))
theorem keysGo_eq : ∀ cs : List (List Int), keysGo f_size_and_lot (cs.map tT) = pure (cs.map qD)
  | [] => rfl
  | c :: cs => by
    show (f_size_and_lot [tT c] >>= fun k => keysGo f_size_and_lot (cs.map tT) >>= fun ks => pure (k :: ks)) = _
    rw [size_and_lot_eq, pure_bind, keysGo_eq cs, pure_bind]
    rfl
theorem zip_same {α β γ : Type} (f : α → β) (g : α → γ) : ∀ l : List α, (l.map f).zip (l.map g) = l.map fun a => (f a, g a)
  | [] => rfl
  | a :: l => by rw [List.map_cons, List.map_cons, List.zip_cons_cons, zip_same f g l]; rfl
theorem sortKey_eq {cs : List (List Int)} (hn : Nds cs) (hl : ∀ c ∈ cs, c.length ≤ 1000) (lc : cs.length ≤ 1000) : dSortKey f_size_and_lot (.dset (cs.map kz)) = pure (.lst ((cs.mergeSort fun a b => !plt b a).map tT)) := by
  obtain ⟨h1, h2⟩ := sort_pairs (f := qD) hn hl (fun c => .inr (by unfold qD; rw [tup_kz])) alike_qD
  have er : rowK (.dset (cs.map kz)) = some (cs.map tT) := by
    show (if lim (cs.map kz).length then some ((cs.map kz).map tupD) else none) = _
    rw [if_pos (lim_ok (by rw [List.length_map]; omega)), List.map_map, show (tupD ∘ kz) = tT from funext tup_kz']
  unfold dSortKey
  rw [er]
  show (keysGo f_size_and_lot (cs.map tT) >>= fun ks => if sortableB ks then pure (D.lst (sortBy (cs.map tT) ks)) else stuck) = _
  rw [keysGo_eq, pure_bind, if_pos h1]
  unfold sortBy
  rw [zip_same]
  have e : (cs.mergeSort fun a b => !plt b a).map (fun a => (tT a, qD a)) = (cs.map fun a => (tT a, qD a)).mergeSort fun a b => leD a.2 b.2 := List.map_mergeSort fun a ha b hb => (h2 a ha b hb).symm
  rw [← e, List.map_map]
  rfl
theorem beginnings_in_eq {v : D} {os : List (List Int)} {e : List Int → D} (s : Seen v os e) (h : Nds os) (hl : os.length ≤ 6) (hc : ∀ o ∈ os, o.length ≤ 4) : f_beginnings_in [v] = pure (.lst ((due os).map tT)) := by
  obtain ⟨dl1, dl2⟩ := due_len hc hl
  have fl : (fnd os).length ≤ 30 := by rw [← (due_perm os).length_eq]; exact dl1
  have fl2 : ∀ c ∈ fnd os, c.length ≤ 4 := fun c hc => dl2 c ((due_perm os).mem_iff.mpr hc)
  have bl : (bgs os).length ≤ 30 := by
    have f : ∀ (l : List (List Int)), (∀ o ∈ l, o.length ≤ 4) → (bgs l).length ≤ 5 * l.length := by
      intro l
      induction l with
      | nil => intro _; simp [bgs]
      | cons o l ih =>
        intro hl
        have := ih fun z hz => hl z (List.mem_cons_of_mem _ hz)
        have := hl o List.mem_cons_self
        unfold bgs at *
        rw [List.flatMap_cons, List.length_append, List.length_cons]
        unfold bgo at *
        rw [List.length_map, List.length_range]
        omega
    have := f os hc
    omega
  unfold f_beginnings_in
  refine fn_rt rfl ?_
  rw [seq_nx (δ' := [.val v, .val (.dset ((fnd os).map kz)), .no, .no]) (asg_nx (d := .dset ((fnd os).map kz)) ?_ rfl)]
  · exact ret_rt (f_eq (f_eq (ev_w rfl) rfl) (sortKey_eq (fnd_nd h) (fun c hc => by have := fl2 c hc; omega) (by omega)))
  · unfold eDs2
    have src : xL (eW 0) (startD 4 [v]) = pure (os.map e) := by
      show (eW 0 (startD 4 [v]) >>= rowOf) = _
      rw [show eW 0 (startD 4 [v]) = pure v from rfl, pure_bind]
      exact s.row
    have inner : ∀ o ∈ os, (xR (eO dAdd (eF dUw (eF (hU dLen) (eF dUw (eW 2)))) (eK (.int 1))) [.val v, .no, .val (e o), .no] >>= fun zs => lcGo (gN 3) (eK (.bl true)) (eF dTuple (eF dUw (eF dSorted (eF dUw (eCut (eF dUw (eW 2)) (eNo) (eAt (eF dUw (eW 3)))))))) (wipeD [.val v, .no, .val (e o), .no] [3]) zs) = pure ((bgo o).map tT) := fun o ho => by
      have lo := hc o ho
      have r : xR (eO dAdd (eF dUw (eF (hU dLen) (eF dUw (eW 2)))) (eK (.int 1))) [.val v, .no, .val (e o), .no] = pure ((List.range (o.length + 1)).map fun k => .int (k : Nat)) := sx_r (n := o.length + 1) (o_eq (f_eq (f_eq (x := tD o) (f_eq (ev_w rfl) (s.uw o)) ((hU_len _).trans (by rw [List.length_map]))) rfl) ev_k (addI_ev _ _)) (by omega)
      have te : ∀ k ∈ List.range (o.length + 1), (fun _ : Nat => true) k = true → (eF dTuple (eF dUw (eF dSorted (eF dUw (eCut (eF dUw (eW 2)) (eNo) (eAt (eF dUw (eW 3)))))))) [.val v, .no, .val (e o), .val (.int (k : Nat))] = pure (tT (bg o k)) := fun k _ _ => by
        refine f_eq (x := tD (bg o k)) (f_eq (x := tD (bg o k)) (f_eq (x := tD (o.take k)) (f_eq (x := tD (o.take k)) (cut_eq (f_eq (ev_w rfl) (s.uw o)) ev_no (at_eq (f_eq (x := .int (k : Nat)) (ev_w rfl) rfl)) ?_) rfl) (sorted_tD fun i hi => h o ho i (List.mem_of_mem_take hi))) rfl) rfl
        show (pure (D.lst (cut (o.map fun i => D.str (nm i)) none (some ((k : Nat) : Int)))) : M D) = _
        rw [cut_take, ← List.map_take]
        rfl
      rw [r, pure_bind, lcGo_map (emb := fun k : Nat => D.int (k : Nat)) (γ := fun k => [.val v, .no, .val (e o), .val (.int (k : Nat))]) (p := fun _ => true) (f := fun k => tT (bg o k)) (fun k _ => rfl) (fun k _ => rfl) te, List.filter_eq_self.mpr fun _ _ => rfl]
      unfold bgo
      rw [List.map_map]
      rfl
    rw [src, pure_bind, lc2_map (β := Nat) (emb := e) (γ := fun o => [.val v, .no, .val (e o), .no]) (f := fun o => (bgo o).map tT) (fun o _ => rfl) (fun o _ => rfl) inner, pure_bind]
    have e2 : (os.flatMap fun o => (bgo o).map tT) = (bgs os).map tT := by
      unfold bgs
      rw [List.map_flatMap]
    rw [e2, if_pos ⟨allTup_tT _, lim_ok (by rw [List.length_map]; omega)⟩, dsetOf_tT (bgs_nd h)]
    rfl
/-- beginnings_of -/
theorem beginnings_of_eq {v : D} {os : List (List Int)} {e : List Int → D} (s : Seen v os e) (h : Nds os) (hl : os.length ≤ 6) (hc : ∀ o ∈ os, o.length ≤ 4) (ok : f_check_wished [tsD os] = pure .non) : f_beginnings_of [v] = pure (tsD (due os)) := by
  obtain ⟨dl1, dl2⟩ := due_len hc hl
  unfold f_beginnings_of
  refine fn_rt rfl ?_
  rw [seq_nx (δ' := startD 2 [v]) (do_nx (ev_callD (es_cons (ev_w rfl) es_nil) (by rw [show uns [v] = [v.un] from rfl, s.un]; exact ok) rfl))]
  refine ret_rt (Eq.trans (ev_lcA (emb := tT) (xs := due os) (γ := fun c => [.val v, .val (tT c)]) (f := tD) (sx_l (call_eq (es_cons (ev_w rfl) es_nil) (beginnings_in_eq s h hl hc)) (row_map _ _)) (fun c _ => rfl) (fun c _ => f_eq (x := tT c) (f_eq (x := tT c) (ev_w rfl) rfl) rfl) (by omega)) rfl)
end K81

/-! ## QGK81 -/
set_option autoImplicit false
set_option linter.all false
set_option maxRecDepth 100000
set_option maxHeartbeats 2000000
namespace K81
open PySem DL
local macro_rules | `(tactic| wtm_at "evt") => `(tactic| first | rfl | assumption | (simp only [*]; done) | (simp [*, isTy]; done) | (simp; done) | decide | omega)
local macro_rules | `(tactic| wtm_at "evb") => `(tactic| first | omega | (simp only [List.length_map, List.length_append, List.length_cons, List.length_nil, List.length_zip, List.length_zipIdx, List.length_range, List.length_reverse]; omega) | (simp; omega) | decide)
local macro_rules | `(tactic| wtm_at "evc") => `(tactic| ((with_reducible show _ = _); assumption))
local macro_rules | `(tactic| wtm_at "ev1") => `(tactic| first
  | with_reducible exact ev_k
  | ((with_reducible apply  ev_w); exact rfl)
  | ((with_reducible apply  ev_v); exact rfl)
  | ((with_reducible apply  ev_vo); exact rfl)
  | with_reducible exact es_nil
  | with_reducible exact ev_no
  | with_reducible exact ev_skip
  | with_reducible exact seqK_rt
  | with_reducible apply  es_cons
  | with_reducible apply  f_eq
  | with_reducible apply  o_eq
  | with_reducible apply  ev_lst
  | with_reducible apply  tup_eq
  | with_reducible apply  ev_and
  | with_reducible apply  ev_or
  | with_reducible apply  ev_ife
  | with_reducible apply  call_eq
  | with_reducible apply  ev_callK
  | with_reducible apply  ev_callD
  | with_reducible apply  ev_callDK
  | with_reducible apply  hI_eq
  | with_reducible apply  hU_eq
  | with_reducible apply  ev_cutN
  | with_reducible apply  ev_at
  | with_reducible apply  ev_lcA
  | with_reducible apply  ev_lc
  | with_reducible apply  sx_l
  | with_reducible apply  sx_vw
  | with_reducible apply  sx_enum
  | with_reducible apply  sx_zip
  | with_reducible apply  sx_zipS
  | with_reducible apply  sx_r
  | with_reducible apply  sx_r2
  | with_reducible apply  ev_seq
  | with_reducible apply  seqK_nx
  | with_reducible apply  ev_if
  | with_reducible apply  ev_ret
  | with_reducible apply  ev_do
  | with_reducible apply  ev_asg
  | with_reducible apply  ev_par
  | with_reducible apply  ev_thr
  | with_reducible apply  ev_dox_thr
  | ((with_reducible apply  ifK_t); (wtm_at "evt"))
  | ((with_reducible apply  ifK_f); (wtm_at "evt"))
  | exact eqB_int _ _ | exact neB_int _ _ | exact eqB_bl _ _ | exact neB_bl _ _ | exact eqB_str _ _ | exact neB_str _ _
  | exact lt_ev _ _ | exact le_ev _ _ | exact gt_ev _ _ | exact ge_ev _ _ | exact not_ev _ | exact addI_ev _ _ | exact subI_ev _ _
  | ((with_reducible show Row _ _ _); first | exact row_code _ | exact row_codes _ | exact row_map _ _ | exact row_bcode _ | exact row_bcodes _ | exact row_id _)
  | ((with_reducible show _ = List.map _ _); first | exact map_mapR _ _ | exact map_idR _)
  | ((with_reducible show dIsI _ _ = _); exact rfl) | ((with_reducible show dIsI2 _ _ _ = _); exact rfl) | ((with_reducible show dIsN _ = _); exact rfl) | ((with_reducible show dNotN _ = _); exact rfl)
  | ((with_reducible show dUw _ = _); first | exact uw_bcodes _ | exact uw_bcode _ | exact rfl)
  | exact hU_len _
  | ((with_reducible show D.imm _ = _); exact rfl)
  | exact allB_ev _ _ | exact anyB_ev _ _ | exact sumI_ev _ _ | exact sumC_ev _
  | exact len_ev _ | exact lenT_ev _ | exact cut_ev _ _ _ | exact list_ev _ | exact tuple_ev _ | exact rev_ev _
  | apply  addL_ev
  | wtm_at "evc"
  | ((with_reducible show _ = some _); exact rfl)
  | ((with_reducible show _ ≤ _); wtm_at "evb")
  | ((with_reducible show _ < _); wtm_at "evb")
  | ((with_reducible show (_ : Nat) = _); wtm_at "evb")
  | ((with_reducible show ∀ _, _ ∈ _ → _); intro _ _)
  | ((with_reducible show (_ : Bool) = _ → _); intro _))
local macro_rules | `(tactic| wtm_at "ev") => `(tactic| repeat' (wtm_at "ev1"))
/-! ### names, by both -/
def SML : Str := "abcdefghijklmnopqrstuvwxyz"
def FIG : Str := "0123456789"
def outS (x S : Str) : List Nat := x.cps.toList.filter fun n => !decide (n ∈ S.cps.toList)
theorem is_signs_eq {x S : Str} (h : ∀ n ∈ x.cps.toList, PyData.strOk ⟨#[n]⟩ = true) (hl : x.cps.toList.length ≤ 1000) : f_is_signs [.str x, .str S] = pure (.bl (decide (outS x S = []))) := by
  unfold f_is_signs
  refine fn_rt rfl (ret_rt ?_)
  rw [and_t (f_eq (h := fun d => dIsI d "str") (x := .str x) (d := .bl true) (ev_v rfl) rfl)]
  have lc : eLc [2] (gN 2) (xS (eV 0)) (eO dNotInX (eV 2) (eV 1)) (eW 2) (startD 3 [.str x, .str S]) = pure (.lst ((outS x S).map sgn)) := by
    have src : xS (eV 0) (startD 3 [.str x, .str S]) = pure (x.cps.toList.map sgn) := rfl
    refine Eq.trans (ev_lc (emb := sgn) (xs := x.cps.toList) (γ := fun n => [.val (.str x), .val (.str S), .val (sgn n)]) (p := fun n => !decide (n ∈ S.cps.toList)) (f := sgn) src (fun _ _ => rfl) (fun n _ => o_eq (ev_v rfl) (ev_v rfl) rfl) (fun n _ _ => ev_w rfl) (by omega)) rfl
  refine o_eq lc (lst_eq es_nil (by simp)) ?_
  rw [eqNil_ev]
  · congr 2
    rw [Bool.eq_iff_iff, decide_eq_true_iff, decide_eq_true_iff]
    constructor
    · intro e
      exact List.map_eq_nil_iff.mp e
    · intro e
      rw [e]
      rfl
  · rw [List.all_map, List.all_eq_true]
    intro n hn
    exact h n (List.mem_filter.mp hn).1
theorem nm_f0 : ∀ k : Fin 10, ((nm k.val).cps.toList.all fun n => PyData.strOk ⟨#[n]⟩) && decide ((nm k.val).cps.toList.length ≤ 5) && decide (1 ≤ (nm k.val).cps.toList.length) && (lim (nm k.val).length) = true := by decide +kernel
theorem nm_f1 : ∀ k : Fin 10, Txt.isalnum (nm k.val) = true := by decide +kernel
theorem nm_f2 : ∀ k : Fin 10, decide (Txt.lower (nm k.val) = nm k.val) = decide (1 ≤ (k.val : Int)) := by decide +kernel
theorem nm_f4 : ∀ k : Fin 10, (match signAt (nm k.val) 0 with
  | some n => Txt.isalpha ⟨#[n]⟩
  | none => false) = true := by decide +kernel
theorem nm_f5 : ∀ k : Fin 10, decide (outS (nm k.val) (SML ++ FIG) = []) = decide (1 ≤ (k.val : Int)) := by decide +kernel
theorem nm_f6 : ∀ k : Fin 10, 1 ≤ (k.val : Int) → (match signAt (nm k.val) 0 with
  | some n => decide (n ∈ SML.cps.toList)
  | none => false) = true := by decide +kernel
theorem nm_len (k : Fin 10) : 0 < (nm k.val).length ∧ (nm k.val).length ≤ 5 ∧ lim (nm k.val).length = true := by
  have := nm_f0 k
  simp only [Bool.and_eq_true, decide_eq_true_iff] at this
  have e : (nm k.val).length = (nm k.val).cps.toList.length := by simp [Str.length]
  exact ⟨by omega, by omega, this.2⟩
theorem len_str {x : Str} (h : lim x.length = true) : dLen (.str x) = pure (.int (x.length : Nat)) := if_pos h
theorem is_name_eq {i : Int} (h : 0 ≤ i ∧ i < 10) : f_is_name [.str (nm i)] = pure (.bl (decide (1 ≤ i))) := by
  obtain ⟨k, rfl⟩ := fin10 h
  have f0 := nm_f0 k
  simp only [Bool.and_eq_true, decide_eq_true_iff, List.all_eq_true] at f0
  obtain ⟨l1, l2, l3⟩ := nm_len k
  have sg : eCall f_is_signs (esC (eW 0) (esC (eO dAdd (eK (.str "abcdefghijklmnopqrstuvwxyz")) (eK (.str "0123456789"))) (esN))) (startD 1 [.str (nm k.val)]) = pure (.bl (decide (1 ≤ (k.val : Int)))) := by
    have ad : dAdd (.str SML) (.str FIG) = pure (.str (SML ++ FIG)) := by
      show (if lim (SML.length + FIG.length) then pure (D.str (SML ++ FIG)) else stuck) = _
      rw [if_pos (by decide +kernel)]
    have sgn0 := is_signs_eq (x := nm k.val) (S := SML ++ FIG) f0.1.1.1 (by omega)
    rw [nm_f5 k] at sgn0
    exact call_eq (xs := [.str (nm k.val), .str (SML ++ FIG)]) (es_cons (ev_w rfl) (es_cons (o_eq (x := .str SML) (y := .str FIG) ev_k ev_k ad) es_nil)) sgn0
  unfold f_is_name
  refine fn_rt rfl (ret_rt ?_)
  by_cases hk : 1 ≤ (k.val : Int)
  · rw [decide_eq_true hk] at sg ⊢
    rw [and_t sg, and_t]
    · have f6 := nm_f6 k hk
      cases e : signAt (nm k.val) 0 with
      | none => rw [e] at f6; cases f6
      | some n =>
        rw [e] at f6
        have f6 : decide (n ∈ SML.cps.toList) = true := f6
        refine o_eq (x := sgn n) (y := .str SML) (o_eq (ev_v rfl) ev_k ?_) ev_k ?_
        · show (match signAt (nm k.val) 0 with | some n => pure (sgn n) | none => stuck) = _
          rw [e]
        · show (pure (D.bl (decide (n ∈ SML.cps.toList))) : M D) = _
          rw [f6]
    · show (pure (D.int 0) >>= fun x => eF dLen (eV 0) (startD 1 [.str (nm k.val)]) >>= fun y => dLt x y >>= fun r => match r with
        | .bl true => eK (.int 8) (startD 1 [.str (nm k.val)]) >>= fun z => dLe y z
        | .bl false => pure (.bl false)
        | _ => stuck) = _
      rw [pure_bind, f_eq (ev_v (i := 0) rfl) (len_str l3), pure_bind, lt_ev, decide_eq_true (show (0 : Int) < ((nm k.val).length : Nat) by omega), pure_bind]
      show (pure (D.int 8) >>= fun z => dLe _ z) = _
      rw [pure_bind, le_ev, decide_eq_true (by omega)]
  · rw [decide_eq_false hk] at sg ⊢
    rw [and_f sg]
/-- what the law asks of a name -/
abbrev eBadN : E := eOr (eF dNot (eF (fun d => dIsI d "str") (eV 2))) (eOr (eF dNot (eF dAlnum (eV 2))) (eOr (eO dNe (eF dLower (eV 2)) (eV 2)) (eOr (eO dGt (eF dLen (eV 2)) (eK (.int 8))) (eF dNot (eF dAlpha (eO dIxS (eV 2) (eK (.int 0))))))))
theorem badN_eq {i : Int} (h : 0 ≤ i ∧ i < 10) {δ : Dlt} (h2 : δ[2]? = some (.val (.str (nm i)))) : eBadN δ = pure (.bl (!decide (1 ≤ i))) := by
  obtain ⟨k, rfl⟩ := fin10 h
  obtain ⟨l1, l2, l3⟩ := nm_len k
  have ev2 := ev_v h2
  have low : dLower (.str (nm k.val)) = pure (.str (Txt.lower (nm k.val))) := if_pos (by omega)
  have al : dAlnum (.str (nm k.val)) = pure (.bl true) := by
    show (pure (D.bl (Txt.isalnum (nm k.val))) : M D) = _
    rw [nm_f1 k]
  have ne := o_eq (h := dNe) (f_eq ev2 low) ev2 (neB_str _ _)
  rw [nm_f2 k] at ne
  show eOr _ _ δ = _
  rw [or_f (f_eq (f_eq ev2 (show dIsI (.str (nm k.val)) "str" = pure (.bl true) from rfl)) (not_ev _)), or_f (f_eq (f_eq ev2 al) (not_ev _))]
  by_cases hk : 1 ≤ (k.val : Int)
  · rw [decide_eq_true hk] at ne ⊢
    rw [or_f ne, or_f ((o_eq (f_eq ev2 (len_str l3)) ev_k (gt_ev _ _)).trans (by rw [decide_eq_false (by omega)]))]
    have f4 := nm_f4 k
    cases e : signAt (nm k.val) 0 with
    | none => rw [e] at f4; cases f4
    | some n =>
      rw [e] at f4
      have f4 : Txt.isalpha ⟨#[n]⟩ = true := f4
      refine f_eq (x := .bl true) (f_eq (x := sgn n) (o_eq ev2 ev_k ?_) ?_) rfl
      · show (match signAt (nm k.val) 0 with | some n => pure (sgn n) | none => stuck) = _
        rw [e]
      · show (pure (D.bl (Txt.isalpha ⟨#[n]⟩)) : M D) = _
        rw [f4]
  · rw [decide_eq_false hk] at ne ⊢
    rw [or_t ne]
    rfl
theorem badN_other {d : D} {t : String} (ht : d.ty = some t) (hs : isTy d "str" = false) {δ : Dlt} (h2 : δ[2]? = some (.val d)) : eBadN δ = pure (.bl true) := by
  show eOr _ _ δ = _
  rw [or_t (f_eq (f_eq (ev_v h2) (show dIsI d "str" = pure (.bl false) by unfold dIsI; rw [ht, hs])) (not_ev _))]
end K81

/-! ## QHK81 -/
set_option autoImplicit false
set_option linter.all false
set_option maxRecDepth 100000
set_option maxHeartbeats 2000000
namespace K81
open PySem DL
local macro_rules | `(tactic| wtm_at "evt") => `(tactic| first | rfl | assumption | (simp only [*]; done) | (simp [*, isTy]; done) | (simp; done) | decide | omega)
local macro_rules | `(tactic| wtm_at "evb") => `(tactic| first | omega | (simp only [List.length_map, List.length_append, List.length_cons, List.length_nil, List.length_zip, List.length_zipIdx, List.length_range, List.length_reverse]; omega) | (simp; omega) | decide)
local macro_rules | `(tactic| wtm_at "evc") => `(tactic| ((with_reducible show _ = _); assumption))
local macro_rules | `(tactic| wtm_at "ev1") => `(tactic| first
  | with_reducible exact ev_k
  | ((with_reducible apply  ev_w); exact rfl)
  | ((with_reducible apply  ev_v); exact rfl)
  | ((with_reducible apply  ev_vo); exact rfl)
  | with_reducible exact es_nil
  | with_reducible exact ev_no
  | with_reducible exact ev_skip
  | with_reducible exact seqK_rt
  | with_reducible apply  es_cons
  | with_reducible apply  f_eq
  | with_reducible apply  o_eq
  | with_reducible apply  ev_lst
  | with_reducible apply  tup_eq
  | with_reducible apply  ev_and
  | with_reducible apply  ev_or
  | with_reducible apply  ev_ife
  | with_reducible apply  call_eq
  | with_reducible apply  ev_callK
  | with_reducible apply  ev_callD
  | with_reducible apply  ev_callDK
  | with_reducible apply  hI_eq
  | with_reducible apply  hU_eq
  | with_reducible apply  ev_cutN
  | with_reducible apply  ev_at
  | with_reducible apply  ev_lcA
  | with_reducible apply  ev_lc
  | with_reducible apply  sx_l
  | with_reducible apply  sx_vw
  | with_reducible apply  sx_enum
  | with_reducible apply  sx_zip
  | with_reducible apply  sx_zipS
  | with_reducible apply  sx_r
  | with_reducible apply  sx_r2
  | with_reducible apply  ev_seq
  | with_reducible apply  seqK_nx
  | with_reducible apply  ev_if
  | with_reducible apply  ev_ret
  | with_reducible apply  ev_do
  | with_reducible apply  ev_asg
  | with_reducible apply  ev_par
  | with_reducible apply  ev_thr
  | with_reducible apply  ev_dox_thr
  | ((with_reducible apply  ifK_t); (wtm_at "evt"))
  | ((with_reducible apply  ifK_f); (wtm_at "evt"))
  | exact eqB_int _ _ | exact neB_int _ _ | exact eqB_bl _ _ | exact neB_bl _ _ | exact eqB_str _ _ | exact neB_str _ _
  | exact lt_ev _ _ | exact le_ev _ _ | exact gt_ev _ _ | exact ge_ev _ _ | exact not_ev _ | exact addI_ev _ _ | exact subI_ev _ _
  | ((with_reducible show Row _ _ _); first | exact row_code _ | exact row_codes _ | exact row_map _ _ | exact row_bcode _ | exact row_bcodes _ | exact row_id _)
  | ((with_reducible show _ = List.map _ _); first | exact map_mapR _ _ | exact map_idR _)
  | ((with_reducible show dIsI _ _ = _); exact rfl) | ((with_reducible show dIsI2 _ _ _ = _); exact rfl) | ((with_reducible show dIsN _ = _); exact rfl) | ((with_reducible show dNotN _ = _); exact rfl)
  | ((with_reducible show dUw _ = _); first | exact uw_bcodes _ | exact uw_bcode _ | exact rfl)
  | exact hU_len _
  | ((with_reducible show D.imm _ = _); exact rfl)
  | exact allB_ev _ _ | exact anyB_ev _ _ | exact sumI_ev _ _ | exact sumC_ev _
  | exact len_ev _ | exact lenT_ev _ | exact cut_ev _ _ _ | exact list_ev _ | exact tuple_ev _ | exact rev_ev _
  | apply  addL_ev
  | wtm_at "evc"
  | ((with_reducible show _ = some _); exact rfl)
  | ((with_reducible show _ ≤ _); wtm_at "evb")
  | ((with_reducible show _ < _); wtm_at "evb")
  | ((with_reducible show (_ : Nat) = _); wtm_at "evb")
  | ((with_reducible show ∀ _, _ ∈ _ → _); intro _ _)
  | ((with_reducible show (_ : Bool) = _ → _); intro _))
local macro_rules | `(tactic| wtm_at "ev") => `(tactic| repeat' (wtm_at "ev1"))
/-! ### ascending -/
theorem adj_pw {α : Type} {R : α → α → Prop} (tr : ∀ a b c, R a b → R b c → R a c) : ∀ {l : List α}, (∀ k (h : k + 1 < l.length), R l[k] l[k + 1]) → l.Pairwise R
  | [], _ => .nil
  | [a], _ => by simp
  | a :: b :: l, h => by
    have ih := adj_pw tr (l := b :: l) fun k hk => by
      have := h (k + 1) (by simp at hk ⊢; omega)
      simpa using this
    have h0 : R a b := by
      have := h 0 (by simp)
      simpa using this
    refine List.pairwise_cons.mpr ⟨fun x hx => ?_, ih⟩
    rcases List.mem_cons.mp hx with rfl | hx
    · exact h0
    · exact tr _ _ _ h0 ((List.pairwise_cons.mp ih).1 x hx)
/-- no place at which it does not ascend -/
def upB {α : Type} (z : α) (lt : α → α → Bool) (l : List α) : Bool := decide (((List.range (l.length - 1)).filter fun k => !lt (l.getD k z) (l.getD (k + 1) z)) = [])
theorem upB_adj {α : Type} {z : α} {lt : α → α → Bool} {l : List α} : upB z lt l = true ↔ ∀ k (h : k + 1 < l.length), lt l[k] l[k + 1] = true := by
  unfold upB
  rw [decide_eq_true_iff, List.filter_eq_nil_iff]
  constructor
  · intro h k hk
    have := h k (List.mem_range.mpr (by omega))
    rw [List.getD_eq_getElem?_getD, List.getD_eq_getElem?_getD, List.getElem?_eq_getElem (by omega), List.getElem?_eq_getElem hk] at this
    simpa using this
  · intro h k hk
    have hk := List.mem_range.mp hk
    rw [List.getD_eq_getElem?_getD, List.getD_eq_getElem?_getD, List.getElem?_eq_getElem (by omega), List.getElem?_eq_getElem (by omega)]
    have := h k (by omega)
    simpa using this
theorem upB_of {α : Type} {z : α} {lt : α → α → Bool} {l : List α} (h : l.Pairwise fun a b => lt a b = true) : upB z lt l = true := upB_adj.mpr fun k hk => by
  rw [List.pairwise_iff_getElem] at h
  exact h k (k + 1) (by omega) hk (by omega)
theorem upI_sort (c : List Int) : upB 0 (fun a b => decide (a < b)) (sortI c) = decide c.Nodup := by
  rw [Bool.eq_iff_iff, decide_eq_true_iff, upB_adj]
  constructor
  · intro h
    have p := adj_pw (R := fun a b : Int => a < b) (fun a b c h1 h2 => Int.lt_trans h1 h2) (l := sortI c) fun k hk => of_decide_eq_true (h k hk)
    exact (sortI_perm c).nodup_iff.mp (p.imp fun {a b} q => by omega)
  · intro h k hk
    have p := sort_strict h
    rw [List.pairwise_iff_getElem] at p
    exact decide_eq_true (p k (k + 1) (by omega) hk (by omega))
/-- the comprehension of the places -/
theorem ups_eq {α : Type} {f : α → D} {z : α} {lt : α → α → Bool} {l : List α} {v i : Nat} {tt : E} {δ : Dlt} (hv : δ[v]? = some (.val (.lst (l.map f)))) (hne : v ≠ i) (hi : i < δ.length) (hl : l.length ≤ 1000)
    (ht : ∀ k, k + 1 < l.length → tt ((wipeD δ [i]).set i (.val (.int ((1 + k : Nat) : Int)))) = pure (.bl (!lt (l.getD k z) (l.getD (k + 1) z)))) :
    eO dEq (eLc [i] (gN i) (xR2 (eK (.int 1)) (eF dLen (eV v))) tt (eW i)) (eLst (esN)) δ = pure (.bl (upB z lt l)) := by
  have src : xR2 (eK (.int 1)) (eF dLen (eV v)) δ = pure ((List.range (l.length - 1)).map fun k => .int ((1 + k : Nat) : Int)) := by
    refine (sx_r2 (i := 1) (j := (l.length : Nat)) ev_k (f_eq (ev_v hv) ((len_ev _).trans (by rw [List.length_map]))) (by omega) (by omega)).trans ?_
    rw [show (((l.length : Nat) : Int) - 1).toNat = l.length - 1 by omega]
    refine pure_eq (List.map_congr_left fun k _ => ?_)
    congr 1
  have lc : eLc [i] (gN i) (xR2 (eK (.int 1)) (eF dLen (eV v))) tt (eW i) δ = pure (.lst (((List.range (l.length - 1)).filter fun k => !lt (l.getD k z) (l.getD (k + 1) z)).map fun k => .int ((1 + k : Nat) : Int))) :=
    ev_lc (emb := fun k : Nat => D.int ((1 + k : Nat) : Int)) (xs := List.range (l.length - 1)) (γ := fun k => (wipeD δ [i]).set i (.val (.int ((1 + k : Nat) : Int)))) (p := fun k => !lt (l.getD k z) (l.getD (k + 1) z)) (f := fun k => .int ((1 + k : Nat) : Int)) src (fun _ _ => rfl) (fun k hk => ht k (by have := List.mem_range.mp hk; omega)) (fun k _ _ => ev_w (by
      rw [List.getElem?_set_self]
      show i < (δ.set i .no).length
      rw [List.length_set]
      exact hi)) (by rw [List.length_range]; omega)
  refine o_eq lc (lst_eq es_nil (by simp)) ?_
  rw [eqNil_ev]
  · unfold upB
    congr 2
    rw [Bool.eq_iff_iff, decide_eq_true_iff, decide_eq_true_iff]
    constructor
    · exact fun e => List.map_eq_nil_iff.mp e
    · intro e
      rw [e]
      rfl
  · rw [List.all_map, List.all_eq_true]
    intro k hk
    have := List.mem_range.mp (List.mem_filter.mp hk).1
    exact decide_eq_true (show ((1 + k : Nat) : Int).natAbs.log2 < 1920 from small_of (by omega))
theorem wipe_at {δ : Dlt} {v i : Nat} {s d : Sl} (hne : v ≠ i) (h : δ[v]? = some d) : ((wipeD δ [i]).set i s)[v]? = some d := by
  show ((δ.set i .no).set i s)[v]? = _
  rw [List.getElem?_set_ne (Ne.symm hne), List.getElem?_set_ne (Ne.symm hne)]
  exact h
theorem wipe_self {δ : Dlt} {i : Nat} {s : Sl} (hi : i < δ.length) : ((wipeD δ [i]).set i s)[i]? = some s := by
  show ((δ.set i .no).set i s)[i]? = _
  rw [List.getElem?_set_self (by rw [List.length_set]; exact hi)]
theorem ix_at {α : Type} {f : α → D} {l : List α} {z : α} {k : Nat} (h : k < l.length) : dIx (.lst (l.map f)) (.int (k : Nat)) = pure (f (l.getD k z)) := by
  rw [ix_map h, List.getD_eq_getElem?_getD, List.getElem?_eq_getElem h]
  rfl
theorem ups_t {α : Type} {f : α → D} {z : α} {l : List α} {v i : Nat} {δ : Dlt} {k : Nat} (hv : δ[v]? = some (.val (.lst (l.map f)))) (hne : v ≠ i) (hi : i < δ.length) (hk : k + 1 < l.length) :
    eO dIx (eV v) (eO dSub (eV i) (eK (.int 1))) ((wipeD δ [i]).set i (.val (.int ((1 + k : Nat) : Int)))) = pure (f (l.getD k z)) ∧ eO dIx (eV v) (eV i) ((wipeD δ [i]).set i (.val (.int ((1 + k : Nat) : Int)))) = pure (f (l.getD (k + 1) z)) := by
  have e1 : eV v ((wipeD δ [i]).set i (.val (.int ((1 + k : Nat) : Int)))) = pure (.lst (l.map f)) := ev_v (wipe_at hne hv)
  have e2 : eV i ((wipeD δ [i]).set i (.val (.int ((1 + k : Nat) : Int)))) = pure (.int ((1 + k : Nat) : Int)) := ev_v (wipe_self hi)
  constructor
  · refine o_eq e1 (o_eq e2 ev_k (subI_ev _ _)) ?_
    rw [show ((1 + k : Nat) : Int) - 1 = (k : Nat) by omega]
    exact ix_at (by omega)
  · refine o_eq e1 e2 ?_
    rw [Nat.add_comm]
    exact ix_at hk
theorem ascends_tsD {cs : List (List Int)} (h : Nds cs) (hl : cs.length ≤ 1000) : f_ascends [tsD cs] = pure (.bl (upB [] ltC cs)) := by
  unfold f_ascends
  refine fn_rt rfl (ret_rt (ups_eq (f := tD) (z := []) (lt := ltC) (l := cs) (v := 0) rfl (by decide) (show 1 < 2 by decide) hl fun k hk => ?_))
  obtain ⟨a1, a2⟩ := ups_t (f := tD) (z := ([] : List Int)) (l := cs) (v := 0) (i := 1) (δ := startD 2 [tsD cs]) rfl (by decide) (show 1 < 2 by decide) hk
  refine o_eq a1 a2 (geB_tD ?_ ?_)
  · rw [List.getD_eq_getElem?_getD, List.getElem?_eq_getElem (by omega)]
    exact h _ (List.getElem_mem _)
  · rw [List.getD_eq_getElem?_getD, List.getElem?_eq_getElem hk]
    exact h _ (List.getElem_mem _)
theorem ascends_tD {c : List Int} (h : Nd c) (hl : c.length ≤ 1000) : f_ascends [tD c] = pure (.bl (upB 0 (fun a b => decide (a < b)) c)) := by
  unfold f_ascends
  refine fn_rt rfl (ret_rt (ups_eq (f := fun i => D.str (nm i)) (z := 0) (lt := fun a b => decide (a < b)) (l := c) (v := 0) rfl (by decide) (show 1 < 2 by decide) hl fun k hk => ?_))
  obtain ⟨a1, a2⟩ := ups_t (f := fun i => D.str (nm i)) (z := (0 : Int)) (l := c) (v := 0) (i := 1) (δ := startD 2 [tD c]) rfl (by decide) (show 1 < 2 by decide) hk
  refine o_eq a1 a2 (geB_name ?_ ?_)
  · rw [List.getD_eq_getElem?_getD, List.getElem?_eq_getElem (by omega)]
    exact h _ (List.getElem_mem _)
  · rw [List.getD_eq_getElem?_getD, List.getElem?_eq_getElem hk]
    exact h _ (List.getElem_mem _)
def okN (c : List Int) : Bool := c.all fun i => decide (1 ≤ i)
theorem is_names_eq {c : List Int} (h : Nd c) (hl : c.length ≤ 1000) : f_is_names [tD c] = pure (.bl (okN c && upB 0 (fun a b => decide (a < b)) c)) := by
  have lc : eLc [1] (gN 1) (xL (eW 0)) (eF dNot (eCall f_is_name (esC (eW 1) (esN)))) (eW 1) (startD 2 [tD c]) = pure (tD (c.filter fun i => !decide (1 ≤ i))) :=
    Eq.trans (ev_lc (emb := fun i => D.str (nm i)) (xs := c) (γ := fun i => [.val (tD c), .val (.str (nm i))]) (p := fun i => !decide (1 ≤ i)) (f := fun i => D.str (nm i)) (sx_l (ev_w rfl) (row_tD c)) (fun _ _ => rfl) (fun i hi => f_eq (call_eq (es_cons (ev_w rfl) es_nil) (is_name_eq (h i hi))) (not_ev _)) (fun i _ _ => ev_w rfl) (by omega)) rfl
  have ne : eO dNe (eLc [1] (gN 1) (xL (eW 0)) (eF dNot (eCall f_is_name (esC (eW 1) (esN)))) (eW 1)) (eLst (esN)) (startD 2 [tD c]) = pure (.bl (!okN c)) := by
    refine o_eq lc (lst_eq es_nil (by simp)) ?_
    rw [show (D.lst [] : D) = tD [] from rfl, neB_tD (fun i hi => h i (List.mem_filter.mp hi).1) (fun _ z => by cases z)]
    congr 3
    unfold okN
    rw [Bool.eq_iff_iff, decide_eq_true_iff, List.filter_eq_nil_iff, List.all_eq_true]
    simp
  unfold f_is_names
  refine fn_rt rfl ?_
  cases ho : okN c with
  | true =>
    rw [ho] at ne
    rw [seq_nx (δ' := startD 2 [tD c]) (by rw [if_f]; rfl; rw [or_f (f_eq (f_eq (h := fun d => dIsI d "list") (x := tD c) (d := .bl true) (ev_v rfl) rfl) (not_ev _))]; exact ne)]
    refine ret_rt ((call_eq (es_cons (ev_w rfl) es_nil) (ascends_tD h hl)).trans ?_)
    rfl
  | false =>
    rw [ho] at ne
    refine seq_rt ?_
    rw [if_t (by rw [or_f (f_eq (f_eq (h := fun d => dIsI d "list") (x := tD c) (d := .bl true) (ev_v rfl) rfl) (not_ev _))]; exact ne)]
    rfl
end K81

/-! ## QIK81 -/
set_option autoImplicit false
set_option linter.all false
set_option maxRecDepth 100000
set_option maxHeartbeats 2000000
namespace K81
open PySem DL
local macro_rules | `(tactic| wtm_at "evt") => `(tactic| first | rfl | assumption | (simp only [*]; done) | (simp [*, isTy]; done) | (simp; done) | decide | omega)
local macro_rules | `(tactic| wtm_at "evb") => `(tactic| first | omega | (simp only [List.length_map, List.length_append, List.length_cons, List.length_nil, List.length_zip, List.length_zipIdx, List.length_range, List.length_reverse]; omega) | (simp; omega) | decide)
local macro_rules | `(tactic| wtm_at "evc") => `(tactic| ((with_reducible show _ = _); assumption))
local macro_rules | `(tactic| wtm_at "ev1") => `(tactic| first
  | with_reducible exact ev_k
  | ((with_reducible apply  ev_w); exact rfl)
  | ((with_reducible apply  ev_v); exact rfl)
  | ((with_reducible apply  ev_vo); exact rfl)
  | with_reducible exact es_nil
  | with_reducible exact ev_no
  | with_reducible exact ev_skip
  | with_reducible exact seqK_rt
  | with_reducible apply  es_cons
  | with_reducible apply  f_eq
  | with_reducible apply  o_eq
  | with_reducible apply  ev_lst
  | with_reducible apply  tup_eq
  | with_reducible apply  ev_and
  | with_reducible apply  ev_or
  | with_reducible apply  ev_ife
  | with_reducible apply  call_eq
  | with_reducible apply  ev_callK
  | with_reducible apply  ev_callD
  | with_reducible apply  ev_callDK
  | with_reducible apply  hI_eq
  | with_reducible apply  hU_eq
  | with_reducible apply  ev_cutN
  | with_reducible apply  ev_at
  | with_reducible apply  ev_lcA
  | with_reducible apply  ev_lc
  | with_reducible apply  sx_l
  | with_reducible apply  sx_vw
  | with_reducible apply  sx_enum
  | with_reducible apply  sx_zip
  | with_reducible apply  sx_zipS
  | with_reducible apply  sx_r
  | with_reducible apply  sx_r2
  | with_reducible apply  ev_seq
  | with_reducible apply  seqK_nx
  | with_reducible apply  ev_if
  | with_reducible apply  ev_ret
  | with_reducible apply  ev_do
  | with_reducible apply  ev_asg
  | with_reducible apply  ev_par
  | with_reducible apply  ev_thr
  | with_reducible apply  ev_dox_thr
  | ((with_reducible apply  ifK_t); (wtm_at "evt"))
  | ((with_reducible apply  ifK_f); (wtm_at "evt"))
  | exact eqB_int _ _ | exact neB_int _ _ | exact eqB_bl _ _ | exact neB_bl _ _ | exact eqB_str _ _ | exact neB_str _ _
  | exact lt_ev _ _ | exact le_ev _ _ | exact gt_ev _ _ | exact ge_ev _ _ | exact not_ev _ | exact addI_ev _ _ | exact subI_ev _ _
  | ((with_reducible show Row _ _ _); first | exact row_code _ | exact row_codes _ | exact row_map _ _ | exact row_bcode _ | exact row_bcodes _ | exact row_id _)
  | ((with_reducible show _ = List.map _ _); first | exact map_mapR _ _ | exact map_idR _)
  | ((with_reducible show dIsI _ _ = _); exact rfl) | ((with_reducible show dIsI2 _ _ _ = _); exact rfl) | ((with_reducible show dIsN _ = _); exact rfl) | ((with_reducible show dNotN _ = _); exact rfl)
  | ((with_reducible show dUw _ = _); first | exact uw_bcodes _ | exact uw_bcode _ | exact rfl)
  | exact hU_len _
  | ((with_reducible show D.imm _ = _); exact rfl)
  | exact allB_ev _ _ | exact anyB_ev _ _ | exact sumI_ev _ _ | exact sumC_ev _
  | exact len_ev _ | exact lenT_ev _ | exact cut_ev _ _ _ | exact list_ev _ | exact tuple_ev _ | exact rev_ev _
  | apply  addL_ev
  | wtm_at "evc"
  | ((with_reducible show _ = some _); exact rfl)
  | ((with_reducible show _ ≤ _); wtm_at "evb")
  | ((with_reducible show _ < _); wtm_at "evb")
  | ((with_reducible show (_ : Nat) = _); wtm_at "evb")
  | ((with_reducible show ∀ _, _ ∈ _ → _); intro _ _)
  | ((with_reducible show (_ : Bool) = _ → _); intro _))
local macro_rules | `(tactic| wtm_at "ev") => `(tactic| repeat' (wtm_at "ev1"))
/-! ### wished orders, by both -/
abbrev eFst : E := eOr (eF dNot (eF (fun d => dIsI d "list") (eV 0))) (eOr (eO dEq (eV 0) (eLst (esN))) (eOr (eF dNot (eF (fun d => dIsI d "list") (eO dIx (eV 0) (eK (.int 0))))) (eO dEq (eO dIx (eV 0) (eK (.int 0))) (eLst (esN)))))
theorem isl_no {v : D} {t : String} (ht : v.ty = some t) (h : isTy v "list" = false) : dIsI v "list" = pure (.bl false) := by unfold dIsI; rw [ht, h]
section
variable {v : D} {δ : Dlt} (h0 : δ[0]? = some (.val v))
include h0
theorem fst_no {t : String} (ht : v.ty = some t) (h : isTy v "list" = false) : eFst δ = pure (.bl true) := by
  show eOr _ _ δ = _
  rw [or_t (f_eq (f_eq (ev_v h0) (isl_no ht h)) (not_ev _))]
theorem fst_l {xs : List D} (e : v = .lst xs) : eF dNot (eF (fun d => dIsI d "list") (eV 0)) δ = pure (.bl false) := by
  subst e
  exact f_eq (f_eq (h := fun d => dIsI d "list") (x := .lst xs) (d := .bl true) (ev_v h0) rfl) (not_ev _)
theorem fst_nil (e : v = .lst []) : eFst δ = pure (.bl true) := by
  show eOr _ _ δ = _
  rw [or_f (fst_l h0 e)]
  subst e
  rw [or_t (o_eq (ev_v h0) (lst_eq es_nil (by simp)) (eqNil_ev rfl))]
theorem fst_ne {x : D} {xs : List D} (e : v = .lst (x :: xs)) (hc : ((x :: xs).all fun d => d.cl 59) = true) : eO dEq (eV 0) (eLst (esN)) δ = pure (.bl false) := by
  subst e
  exact o_eq (ev_v h0) (lst_eq es_nil (by simp)) (eqNil_ev hc)
theorem fst_ix {x : D} {xs : List D} (e : v = .lst (x :: xs)) : eO dIx (eV 0) (eK (.int 0)) δ = pure x := by
  subst e
  exact o_eq (ev_v h0) ev_k (ix_of (xs := x :: xs) (i := 0) rfl)
theorem fst_x {x : D} {xs : List D} {t : String} (e : v = .lst (x :: xs)) (hc : ((x :: xs).all fun d => d.cl 59) = true) (ht : x.ty = some t) (h : isTy x "list" = false) : eFst δ = pure (.bl true) := by
  show eOr _ _ δ = _
  rw [or_f (fst_l h0 e), or_f (fst_ne h0 e hc), or_t (f_eq (f_eq (fst_ix h0 e) (isl_no ht h)) (not_ev _))]
theorem fst_x0 {xs : List D} (e : v = .lst (.lst [] :: xs)) (hc : ((D.lst [] :: xs).all fun d => d.cl 59) = true) : eFst δ = pure (.bl true) := by
  show eOr _ _ δ = _
  rw [or_f (fst_l h0 e), or_f (fst_ne h0 e hc), or_f (f_eq (f_eq (h := fun d => dIsI d "list") (x := .lst []) (d := .bl true) (fst_ix h0 e) rfl) (not_ev _))]
  exact o_eq (fst_ix h0 e) (lst_eq es_nil (by simp)) (eqNil_ev rfl)
theorem fst_ok {y : D} {ys xs : List D} (e : v = .lst (.lst (y :: ys) :: xs)) (hc : ((D.lst (y :: ys) :: xs).all fun d => d.cl 59) = true) : eFst δ = pure (.bl false) := by
  show eOr _ _ δ = _
  rw [or_f (fst_l h0 e), or_f (fst_ne h0 e hc), or_f (f_eq (f_eq (h := fun d => dIsI d "list") (x := .lst (y :: ys)) (d := .bl true) (fst_ix h0 e) rfl) (not_ev _))]
  refine o_eq (fst_ix h0 e) (lst_eq es_nil (by simp)) (eqNil_ev ?_)
  rw [List.all_cons, Bool.and_eq_true] at hc
  exact cls_up 58 _ hc.1
end
theorem P_true {v : D} (h : eFst (startD 4 [v]) = pure (.bl true)) : f_are_wished_orders [v] = pure (.bl false) := by
  unfold f_are_wished_orders
  refine fn_rt rfl (seq_rt ?_)
  rw [if_t h]
  rfl
theorem L_true {v : D} (h : eFst (startD 4 [v]) = pure (.bl true)) : f_law_are_wished [v] = pure (.bl false) := by
  unfold f_law_are_wished
  refine fn_rt rfl (seq_rt ?_)
  rw [if_t h]
  rfl
/-- whether an item is a list of texts -/
abbrev eStrs : E := eAnd (eF (fun d => dIsI d "list") (eV 2)) (eF dAll (eLc [3] (gN 3) (xL (eW 2)) (eK (.bl true)) (eF (fun d => dIsI d "str") (eV 3))))
def SB (d : D) (r : Bool) : Prop := ∀ v, eStrs [.val v, .no, .val d, .no] = pure (.bl r)
theorem sb_gen {ds : List D} (ht : ∀ d ∈ ds, ∃ t, d.ty = some t) (hl : ds.length ≤ 1000) : SB (.lst ds) (ds.all fun d => isTy d "str") := fun v => by
  show eAnd _ _ _ = _
  rw [and_t (f_eq (h := fun d => dIsI d "list") (x := .lst ds) (d := .bl true) (ev_v rfl) rfl)]
  refine f_eq (x := .lst (ds.map fun d => .bl (isTy d "str"))) ?_ (allB_ev _ _)
  exact ev_lcA (emb := fun d : D => d) (xs := ds) (γ := fun d => [.val v, .no, .val (.lst ds), .val d]) (f := fun d => D.bl (isTy d "str")) (sx_l (ev_w rfl) (row_id ds)) (fun _ _ => rfl) (fun d hd => f_eq (h := fun d => dIsI d "str") (ev_v rfl) (by
    obtain ⟨t, ht⟩ := ht d hd
    unfold dIsI
    rw [ht])) (by omega)
theorem sb_tD {c : List Int} (hl : c.length ≤ 1000) : SB (tD c) true := by
  have := sb_gen (ds := c.map fun i => D.str (nm i)) (fun d hd => by
    rw [List.mem_map] at hd
    obtain ⟨i, _, rfl⟩ := hd
    exact ⟨_, rfl⟩) (by rw [List.length_map]; exact hl)
  rw [List.all_map] at this
  rw [show (c.all ((fun d => isTy d "str") ∘ fun i => D.str (nm i))) = true from List.all_eq_true.mpr fun _ _ => rfl] at this
  exact this
theorem sb_no {d : D} {t : String} (ht : d.ty = some t) (h : isTy d "list" = false) : SB d false := fun v => by
  show eAnd _ _ _ = _
  rw [and_f (f_eq (ev_v rfl) (isl_no ht h))]
theorem strs_ev {items : List (D × Bool)} (hs : ∀ e ∈ items, SB e.1 e.2) (hl : items.length ≤ 1000) {v : D} (hv : v = .lst (items.map (·.1))) : eF dAll (eLc [2] (gN 2) (xL (eW 0)) (eK (.bl true)) eStrs) (startD 4 [v]) = pure (.bl (items.all (·.2))) := by
  subst hv
  refine f_eq (x := .lst (items.map fun e => .bl e.2)) ?_ (allB_ev _ _)
  exact ev_lcA (emb := fun e : D × Bool => e.1) (xs := items) (γ := fun e => [.val (.lst (items.map (·.1))), .no, .val e.1, .no]) (f := fun e => D.bl e.2) (sx_l (ev_w rfl) (row_map _ _)) (fun _ _ => rfl) (fun e he => hs e he _) (by omega)
theorem P_bad {items : List (D × Bool)} (hf : eFst (startD 4 [.lst (items.map (·.1))]) = pure (.bl false)) (hs : ∀ e ∈ items, SB e.1 e.2) (hb : items.all (·.2) = false) (hl : items.length ≤ 1000) : f_are_wished_orders [.lst (items.map (·.1))] = pure (.bl false) := by
  have st := strs_ev hs hl rfl
  rw [hb] at st
  unfold f_are_wished_orders
  refine fn_rt rfl ?_
  rw [seq_nx (δ' := startD 4 [.lst (items.map (·.1))]) (by rw [if_f hf]; rfl)]
  refine seq_rt ?_
  rw [if_t (f_eq st (not_ev _))]
  rfl
section
variable {c0 : List Int} {cs : List (List Int)}
def vs (c0 : List Int) (cs : List (List Int)) : Bool := okN (sortI c0) && decide c0.Nodup && ((c0 :: cs).all (fun c => decide (sortI c = sortI c0)) && upB [] ltC (c0 :: cs))
theorem fst_good (hn : Nds (c0 :: cs)) (h0 : c0 ≠ []) : eFst (startD 4 [tsD (c0 :: cs)]) = pure (.bl false) := by
  cases c0 with
  | nil => exact absurd rfl h0
  | cons x c =>
    refine fst_ok (v := tsD ((x :: c) :: cs)) (y := .str (nm x)) (ys := c.map fun i => .str (nm i)) (xs := cs.map tD) rfl rfl ?_
    show (((x :: c) :: cs).map tD).all _ = true
    rw [List.all_map, List.all_eq_true]
    exact fun c hc => cl_tD (n := 58) (hn c hc)
theorem all_sorted (hn : Nds (c0 :: cs)) (hl : (c0 :: cs).length ≤ 100) {δ : Dlt} (e0 : δ = [.val (tsD (c0 :: cs)), .val (tD (sortI c0)), .no, .no]) : eF dAll (eLc [2] (gN 2) (xL (eW 0)) (eK (.bl true)) (eO dEq (eF dSorted (eV 2)) (eV 1))) δ = pure (.bl ((c0 :: cs).all fun c => decide (sortI c = sortI c0))) := by
  subst e0
  refine f_eq (x := .lst ((c0 :: cs).map fun c => .bl (decide (sortI c = sortI c0)))) ?_ (allB_ev _ _)
  exact ev_lcA (emb := tD) (xs := c0 :: cs) (γ := fun c => [.val (tsD (c0 :: cs)), .val (tD (sortI c0)), .val (tD c), .no]) (f := fun c => D.bl (decide (sortI c = sortI c0))) (sx_l (ev_w rfl) (row_tsD _)) (fun _ _ => rfl) (fun c hc => o_eq (f_eq (ev_v rfl) (sorted_tD (hn c hc))) (ev_v rfl) (eqB_tD (hn c hc).sort (hn c0 List.mem_cons_self).sort)) (by omega)
theorem P_good (hn : Nds (c0 :: cs)) (h0 : c0 ≠ []) (hl : (c0 :: cs).length ≤ 100) (hc : ∀ c ∈ c0 :: cs, c.length ≤ 50) : f_are_wished_orders [tsD (c0 :: cs)] = pure (.bl (vs c0 cs)) := by
  have n0 := hn c0 List.mem_cons_self
  have l0 := hc c0 List.mem_cons_self
  have ls : (sortI c0).length ≤ 50 := by rw [(sortI_perm c0).length_eq]; exact l0
  have st : eF dAll (eLc [2] (gN 2) (xL (eW 0)) (eK (.bl true)) eStrs) (startD 4 [tsD (c0 :: cs)]) = pure (.bl true) := by
    refine (strs_ev (items := (c0 :: cs).map fun c => (tD c, true)) (fun e he => ?_) (by rw [List.length_map]; omega) (by rw [List.map_map]; rfl)).trans ?_
    · rw [List.mem_map] at he
      obtain ⟨c, hc', rfl⟩ := he
      exact sb_tD (by have := hc c hc'; omega)
    · rw [List.all_map]
      exact pure_eq (congrArg D.bl (List.all_eq_true.mpr fun _ _ => rfl))
  have nm1 : sAsg (gN 1) (eF dSorted (eO dIx (eV 0) (eK (.int 0)))) (startD 4 [tsD (c0 :: cs)]) = pure (.nx [.val (tsD (c0 :: cs)), .val (tD (sortI c0)), .no, .no]) := asg_nx (d := tD (sortI c0)) (f_eq (o_eq (ev_v rfl) ev_k (ix_of (xs := (c0 :: cs).map tD) (i := 0) rfl)) (sorted_tD n0)) rfl
  unfold f_are_wished_orders
  refine fn_rt rfl ?_
  rw [seq_nx (δ' := startD 4 [tsD (c0 :: cs)]) (by rw [if_f (fst_good hn h0)]; rfl), seq_nx (δ' := startD 4 [tsD (c0 :: cs)]) (by rw [if_f (f_eq st (not_ev _))]; rfl), seq_nx nm1]
  refine ret_rt ?_
  have nmz := is_names_eq n0.sort (by omega)
  rw [upI_sort] at nmz
  have as := all_sorted hn hl rfl
  have up : eCall f_ascends (esC (eW 0) (esN)) [.val (tsD (c0 :: cs)), .val (tD (sortI c0)), .no, .no] = pure (.bl (upB [] ltC (c0 :: cs))) := call_eq (es_cons (ev_w rfl) es_nil) (ascends_tsD hn (by omega))
  exact ev_and (x := okN (sortI c0) && decide c0.Nodup) (call_eq (es_cons (ev_w rfl) es_nil) nmz) fun _ => ev_and as fun _ => up
end
/-! the law's -/
abbrev eBadL : E := eO dNe (eLc [2] (gN 2) (xL (eW 1)) eBadN (eW 2)) (eLst (esN))
abbrev sTurnL : S := sSeq (sIf (eOr (eF dNot (eF (fun d => dIsI d "list") (eV 1))) eBadL) (sRet (eK (.bl false))) (sSkip)) (sIf (eOr (eO dNe (eF dSorted (eV 1)) (eF dSorted (eO dIx (eV 0) (eK (.int 0))))) (eO dNe (eF dLenSet (eV 1)) (eF dLen (eV 1)))) (sRet (eK (.bl false))) (sSkip))
def LB (v d : D) (r : Bool) : Prop := sTurnL [.val v, .val d, .no, .no] = if r then pure (.nx [.val v, .val d, .no, .no]) else pure (.rt (.bl false))
theorem lb_no {v d : D} {t : String} (ht : d.ty = some t) (h : isTy d "list" = false) : LB v d false := by
  unfold LB
  rw [if_neg (by simp)]
  refine seq_rt ?_
  rw [if_t (by rw [or_t (f_eq (f_eq (ev_v rfl) (isl_no ht h)) (not_ev _))])]
  rfl
theorem badL_eq {α : Type} {emb : α → D} {xs : List α} {p : α → Bool} {v e : D} (he : e = .lst (xs.map emb)) (hl : xs.length ≤ 1000) (hc : ∀ x ∈ xs, (emb x).cl 59 = true) (hp : ∀ x ∈ xs, eBadN [.val v, .val e, .val (emb x), .no] = pure (.bl (p x))) : eBadL [.val v, .val e, .no, .no] = pure (.bl (!decide (xs.filter p = []))) := by
  have lc : eLc [2] (gN 2) (xL (eW 1)) eBadN (eW 2) [.val v, .val e, .no, .no] = pure (.lst ((xs.filter p).map emb)) := ev_lc (emb := emb) (xs := xs) (γ := fun x => [.val v, .val e, .val (emb x), .no]) (p := p) (f := emb) (sx_l (ev_w rfl) (by rw [he]; exact row_map emb xs)) (fun _ _ => rfl) hp (fun x _ _ => ev_w rfl) (by omega)
  refine (o_eq lc (lst_eq es_nil (by simp)) (neNil_ev ?_)).trans ?_
  · rw [List.all_map, List.all_eq_true]
    exact fun x hx => hc x (List.mem_filter.mp hx).1
  · congr 3
    rw [Bool.eq_iff_iff, decide_eq_true_iff, decide_eq_true_iff, List.map_eq_nil_iff]
def optB : Option Int → Bool
  | some i => !decide (1 ≤ i)
  | none => true
theorem lb_bad {v : D} {c : List Int} {d : D} {t : String} (hn : Nd c) (hl : c.length ≤ 50) (ht : d.ty = some t) (hs : isTy d "str" = false) (hc : d.cl 59 = true) : LB v (.lst (c.map (fun i => D.str (nm i)) ++ [d])) false := by
  unfold LB
  rw [if_neg (by simp)]
  have q := badL_eq (α := Option Int) (emb := fun o => match o with | some i => D.str (nm i) | none => d) (xs := c.map some ++ [none]) (p := optB) (v := v) (e := .lst (c.map (fun i => D.str (nm i)) ++ [d]))
    (by rw [List.map_append, List.map_map]; rfl) (by simp; omega) (fun x hx => by
      rcases List.mem_append.mp hx with z | z
      · rw [List.mem_map] at z
        obtain ⟨i, hi, rfl⟩ := z
        exact cl_name (hn i hi)
      · rw [List.mem_singleton] at z
        subst z
        exact hc) (fun x hx => by
      rcases List.mem_append.mp hx with z | z
      · rw [List.mem_map] at z
        obtain ⟨i, hi, rfl⟩ := z
        exact badN_eq (hn i hi) rfl
      · rw [List.mem_singleton] at z
        subst z
        exact badN_other ht hs rfl)
  rw [decide_eq_false (by
    intro z
    have : (none : Option Int) ∈ (c.map some ++ [none]).filter optB := List.mem_filter.mpr ⟨by simp, rfl⟩
    rw [z] at this
    cases this)] at q
  refine seq_rt ?_
  rw [if_t (by rw [or_f (f_eq (f_eq (h := fun d => dIsI d "list") (x := .lst (c.map (fun i => D.str (nm i)) ++ [d])) (d := .bl true) (ev_v rfl) rfl) (not_ev _))]; exact q)]
  rfl
theorem strs_of : ∀ c : List Int, strs? (c.map fun i => .str (nm i)) = some (c.map nm)
  | [] => rfl
  | x :: c => by
    show (strs? (c.map fun i => .str (nm i))).map (nm x :: ·) = _
    rw [strs_of c]
    rfl
theorem uniq_nd {α : Type} [DecidableEq α] (l : List α) : (uniq l).Nodup := by
  have h : ∀ (l acc : List α), acc.Nodup → (l.foldl uput acc).Nodup := by
    intro l
    induction l with
    | nil => intro acc h; exact h
    | cons k l ih =>
      intro acc h
      refine ih _ ?_
      unfold uput
      split
      · exact h
      · rename_i hk
        rw [List.nodup_append]
        refine ⟨h, by simp, fun a ha b hb e => ?_⟩
        rw [List.mem_singleton] at hb
        subst hb
        subst e
        exact hk ha
  exact h l [] .nil
theorem uniq_nodup {α : Type} [DecidableEq α] {l : List α} (h : l.Nodup) : (uniq l).length = l.length := by
  have p := sub_all (uniq_nd l) (fun x hx => uniq_mem.mp hx) (sub_len h fun x hx => uniq_mem.mpr hx)
  exact p.length_eq
theorem uniq_len_iff {α : Type} [DecidableEq α] {l : List α} : (uniq l).length = l.length ↔ l.Nodup := by
  constructor
  · intro e
    have p := sub_all (uniq_nd l) (fun x hx => uniq_mem.mp hx) (by omega)
    exact p.nodup_iff.mp (uniq_nd l)
  · exact uniq_nodup
theorem lenset_eq {c : List Int} (hn : Nd c) (hl : c.length ≤ 50) : dLenSet (tD c) = pure (.int ((uniq (c.map nm)).length : Nat)) := by
  show (match strs? (c.map fun i => .str (nm i)) with
    | some ns => if ns.length < 64 then pure (D.int (uniq ns).length) else stuck
    | none => stuck) = _
  rw [strs_of]
  show (if (c.map nm).length < 64 then pure (D.int (uniq (c.map nm)).length) else stuck) = _
  rw [if_pos (by rw [List.length_map]; omega)]
theorem nodup_nm {c : List Int} (hn : Nd c) : (c.map nm).Nodup ↔ c.Nodup := by
  unfold List.Nodup
  rw [List.pairwise_map]
  constructor
  · exact fun h => h.imp fun hne e => hne (by rw [e])
  · intro h
    refine List.Pairwise.imp_of_mem (fun {a b} ha hb hne e => hne ((nm_inj (hn a ha) (hn b hb)).mp e)) h
def tL (c0 c : List Int) : Bool := okN c && (decide (sortI c = sortI c0) && decide c.Nodup)
theorem lb_tD {v : D} {c0 c : List Int} {r : List D} (hv : v = .lst (tD c0 :: r)) (hn0 : Nd c0) (hn : Nd c) (hl : c.length ≤ 50) : LB v (tD c) (tL c0 c) := by
  have hix : eO dIx (eV 0) (eK (.int 0)) [.val v, .val (tD c), .no, .no] = pure (tD c0) := by subst hv; exact o_eq (ev_v rfl) ev_k (ix_of (xs := tD c0 :: r) (i := 0) rfl)
  have q := badL_eq (emb := fun i => D.str (nm i)) (xs := c) (p := fun i => !decide (1 ≤ i)) (v := v) (e := tD c) rfl (by omega) (fun i hi => cl_name (hn i hi)) (fun i hi => badN_eq (hn i hi) rfl)
  have eo : (!decide (c.filter (fun i => !decide (1 ≤ i)) = [])) = !okN c := by
    congr 1
    unfold okN
    rw [Bool.eq_iff_iff, decide_eq_true_iff, List.filter_eq_nil_iff, List.all_eq_true]
    simp
  rw [eo] at q
  have isl := f_eq (h := dNot) (f_eq (h := fun d => dIsI d "list") (a := eV 1) (δ := [.val v, .val (tD c), .no, .no]) (x := tD c) (d := .bl true) (ev_v rfl) rfl) (not_ev _)
  have so : eO dNe (eF dSorted (eV 1)) (eF dSorted (eO dIx (eV 0) (eK (.int 0)))) [.val v, .val (tD c), .no, .no] = pure (.bl (!decide (sortI c = sortI c0))) := o_eq (f_eq (ev_v rfl) (sorted_tD hn)) (f_eq hix (sorted_tD hn0)) (neB_tD hn.sort hn0.sort)
  have le : eO dNe (eF dLenSet (eV 1)) (eF dLen (eV 1)) [.val v, .val (tD c), .no, .no] = pure (.bl (!decide c.Nodup)) := by
    refine (o_eq (f_eq (ev_v rfl) (lenset_eq hn hl)) (f_eq (ev_v rfl) (len_ev _)) (neB_int _ _)).trans ?_
    congr 3
    rw [Bool.eq_iff_iff, decide_eq_true_iff, decide_eq_true_iff, ← nodup_nm hn, ← uniq_len_iff, List.length_map, List.length_map]
    omega
  unfold LB
  cases ho : okN c with
  | false =>
    rw [ho] at q
    have et : tL c0 c = false := by unfold tL; rw [ho]; rfl
    rw [et, if_neg (by simp)]
    refine seq_rt ?_
    rw [if_t (by rw [or_f isl]; exact q)]
    rfl
  | true =>
    rw [ho] at q
    have e2 := ev_or so fun _ => le
    have et : tL c0 c = !((!decide (sortI c = sortI c0)) || !decide c.Nodup) := by
      unfold tL
      rw [ho]
      cases decide (sortI c = sortI c0) <;> cases decide c.Nodup <;> rfl
    rw [et]
    show sSeq _ _ _ = _
    rw [seq_nx (δ' := [.val v, .val (tD c), .no, .no]) (by rw [if_f (by rw [or_f isl]; exact q)]; rfl)]
    cases hb : ((!decide (sortI c = sortI c0)) || !decide c.Nodup) with
    | true =>
      rw [hb] at e2
      rw [if_t e2]
      rfl
    | false =>
      rw [hb] at e2
      rw [if_f e2]
      rfl
theorem L_loop {v : D} : ∀ (items : List (D × Bool)) (s1 : Sl), (∀ e ∈ items, LB v e.1 e.2) → (items.all (·.2) = true → ∃ s1', forGo (gN 1) sTurnL (items.map (·.1)) [.val v, s1, .no, .no] = pure (.nx [.val v, s1', .no, .no])) ∧ (items.all (·.2) = false → forGo (gN 1) sTurnL (items.map (·.1)) [.val v, s1, .no, .no] = pure (.rt (.bl false)))
  | [], s1, _ => ⟨fun _ => ⟨s1, rfl⟩, fun h => by cases h⟩
  | e :: items, s1, h => by
    obtain ⟨i1, i2⟩ := L_loop items (.val e.1) fun x hx => h x (List.mem_cons_of_mem _ hx)
    have hb := h e List.mem_cons_self
    unfold LB at hb
    have step : forGo (gN 1) sTurnL ((e :: items).map (·.1)) [.val v, s1, .no, .no] = (sTurnL [.val v, .val e.1, .no, .no] >>= fun r => match r with
      | .nx δ' => forGo (gN 1) sTurnL (items.map (·.1)) δ'
      | .ct δ' => forGo (gN 1) sTurnL (items.map (·.1)) δ'
      | .bk δ' => pure (.nx δ')
      | .rt d => pure (.rt d)) := rfl
    rw [step, hb, List.all_cons]
    cases he : e.2 with
    | true =>
      rw [if_pos rfl, pure_bind]
      exact ⟨fun z => i1 (by simpa using z), fun z => i2 (by simpa using z)⟩
    | false =>
      rw [if_neg (by simp), pure_bind]
      exact ⟨fun z => by simp at z, fun _ => rfl⟩
theorem L_bad {items : List (D × Bool)} (hf : eFst (startD 4 [.lst (items.map (·.1))]) = pure (.bl false)) (hs : ∀ e ∈ items, LB (.lst (items.map (·.1))) e.1 e.2) (hb : items.all (·.2) = false) : f_law_are_wished [.lst (items.map (·.1))] = pure (.bl false) := by
  have lp := (L_loop items .no hs).2 hb
  have fo : sFor (gN 1) (xL (eW 0)) sTurnL (startD 4 [.lst (items.map (·.1))]) = pure (.rt (.bl false)) := by
    unfold sFor
    rw [sx_l (ev_w (i := 0) rfl) (row_map _ items), pure_bind]
    exact lp
  unfold f_law_are_wished
  refine fn_rt rfl ?_
  rw [seq_nx (δ' := startD 4 [.lst (items.map (·.1))]) (by rw [if_f hf]; rfl)]
  exact seq_rt fo
section
variable {c0 : List Int} {cs : List (List Int)}
theorem L_up (hn : Nds (c0 :: cs)) (hl : (c0 :: cs).length ≤ 100) (s1 : Sl) : eO dEq (eLc [3] (gN 3) (xR2 (eK (.int 1)) (eF dLen (eV 0))) (eF dNot (eO dLt (eO dIx (eV 0) (eO dSub (eV 3) (eK (.int 1)))) (eO dIx (eV 0) (eV 3)))) (eW 3)) (eLst (esN)) [.val (tsD (c0 :: cs)), s1, .no, .no] = pure (.bl (upB [] ltC (c0 :: cs))) := by
  refine ups_eq (f := tD) (z := []) (lt := ltC) (l := c0 :: cs) (v := 0) rfl (by decide) (show 3 < 4 by decide) (by omega) fun k hk => ?_
  obtain ⟨a1, a2⟩ := ups_t (f := tD) (z := ([] : List Int)) (l := c0 :: cs) (v := 0) (i := 3) (δ := [.val (tsD (c0 :: cs)), s1, .no, .no]) rfl (by decide) (show 3 < 4 by decide) hk
  refine f_eq (o_eq a1 a2 (ltB_tD ?_ ?_)) (not_ev _)
  · rw [List.getD_eq_getElem?_getD, List.getElem?_eq_getElem (by omega)]
    exact hn _ (List.getElem_mem _)
  · rw [List.getD_eq_getElem?_getD, List.getElem?_eq_getElem hk]
    exact hn _ (List.getElem_mem _)
theorem L_good (hn : Nds (c0 :: cs)) (h0 : c0 ≠ []) (hl : (c0 :: cs).length ≤ 100) (hc : ∀ c ∈ c0 :: cs, c.length ≤ 50) : f_law_are_wished [tsD (c0 :: cs)] = pure (.bl ((c0 :: cs).all (tL c0) && upB [] ltC (c0 :: cs))) := by
  have n0 := hn c0 List.mem_cons_self
  have em : ((c0 :: cs).map fun c => (tD c, tL c0 c)).map (·.1) = (c0 :: cs).map tD := by rw [List.map_map]; rfl
  have ea : ((c0 :: cs).map fun c => (tD c, tL c0 c)).all (·.2) = (c0 :: cs).all (tL c0) := by rw [List.all_map]; rfl
  obtain ⟨l1, l2⟩ := L_loop (v := tsD (c0 :: cs)) ((c0 :: cs).map fun c => (tD c, tL c0 c)) .no fun e he => by
    rw [List.mem_map] at he
    obtain ⟨c, hc', rfl⟩ := he
    exact lb_tD (r := cs.map tD) rfl n0 (hn c hc') (hc c hc')
  rw [em, ea] at l1 l2
  have src : xL (eW 0) (startD 4 [tsD (c0 :: cs)]) = pure ((c0 :: cs).map tD) := sx_l (ev_w (i := 0) rfl) (row_tsD _)
  unfold f_law_are_wished
  refine fn_rt rfl ?_
  rw [seq_nx (δ' := startD 4 [tsD (c0 :: cs)]) (by rw [if_f (fst_good hn h0)]; rfl)]
  cases ha : (c0 :: cs).all (tL c0) with
  | true =>
    obtain ⟨s1', e⟩ := l1 ha
    have fo : sFor (gN 1) (xL (eW 0)) sTurnL (startD 4 [tsD (c0 :: cs)]) = pure (.nx [.val (tsD (c0 :: cs)), s1', .no, .no]) := by
      unfold sFor
      rw [src, pure_bind]
      exact e
    rw [seq_nx fo]
    exact ret_rt (L_up hn hl s1')
  | false =>
    refine seq_rt ?_
    unfold sFor
    rw [src, pure_bind]
    exact l2 ha
theorem vs_eq : vs c0 cs = ((c0 :: cs).all (tL c0) && upB [] ltC (c0 :: cs)) := by
  unfold vs
  rw [← Bool.and_assoc]
  congr 1
  rw [Bool.eq_iff_iff]
  simp only [Bool.and_eq_true, decide_eq_true_iff, List.all_eq_true]
  have tr : ∀ c, sortI c = sortI c0 → c.Perm c0 := fun c e => (sortI_perm c).symm.trans (e ▸ sortI_perm c0)
  constructor
  · rintro ⟨⟨h1, h2⟩, h3⟩ c hc
    have p := tr c (h3 c hc)
    unfold tL okN at *
    rw [List.all_eq_true] at h1
    rw [Bool.and_eq_true, Bool.and_eq_true, decide_eq_true_iff, decide_eq_true_iff, List.all_eq_true]
    exact ⟨fun i hi => h1 i ((sortI_perm c0).mem_iff.mpr (p.mem_iff.mp hi)), h3 c hc, p.nodup_iff.mpr h2⟩
  · intro h
    have q := fun c hc => by
      have := h c hc
      unfold tL at this
      rw [Bool.and_eq_true, Bool.and_eq_true, decide_eq_true_iff, decide_eq_true_iff] at this
      exact this
    have q0 := q c0 List.mem_cons_self
    refine ⟨⟨?_, q0.2.2⟩, fun c hc => (q c hc).2.1⟩
    have := q0.1
    unfold okN at *
    rw [List.all_eq_true] at this ⊢
    exact fun i hi => this i ((sortI_perm c0).mem_iff.mp hi)
/-- the two tell the same -/
def Ag (v : D) : Prop := ∃ r, f_are_wished_orders [v] = pure (.bl r) ∧ f_law_are_wished [v] = pure (.bl r)
theorem ag_good (hn : Nds (c0 :: cs)) (h0 : c0 ≠ []) (hl : (c0 :: cs).length ≤ 100) (hc : ∀ c ∈ c0 :: cs, c.length ≤ 50) : Ag (tsD (c0 :: cs)) := ⟨vs c0 cs, P_good hn h0 hl hc, by rw [vs_eq]; exact L_good hn h0 hl hc⟩
end
theorem ag_true {v : D} (h : eFst (startD 4 [v]) = pure (.bl true)) : Ag v := ⟨false, P_true h, L_true h⟩
end K81

/-! ## QJK81 -/
set_option autoImplicit false
set_option linter.all false
set_option maxRecDepth 100000
set_option maxHeartbeats 2000000
namespace K81
open PySem DL
local macro_rules | `(tactic| wtm_at "evt") => `(tactic| first | rfl | assumption | (simp only [*]; done) | (simp [*, isTy]; done) | (simp; done) | decide | omega)
local macro_rules | `(tactic| wtm_at "evb") => `(tactic| first | omega | (simp only [List.length_map, List.length_append, List.length_cons, List.length_nil, List.length_zip, List.length_zipIdx, List.length_range, List.length_reverse]; omega) | (simp; omega) | decide)
local macro_rules | `(tactic| wtm_at "evc") => `(tactic| ((with_reducible show _ = _); assumption))
local macro_rules | `(tactic| wtm_at "ev1") => `(tactic| first
  | with_reducible exact ev_k
  | ((with_reducible apply  ev_w); exact rfl)
  | ((with_reducible apply  ev_v); exact rfl)
  | ((with_reducible apply  ev_vo); exact rfl)
  | with_reducible exact es_nil
  | with_reducible exact ev_no
  | with_reducible exact ev_skip
  | with_reducible exact seqK_rt
  | with_reducible apply  es_cons
  | with_reducible apply  f_eq
  | with_reducible apply  o_eq
  | with_reducible apply  ev_lst
  | with_reducible apply  tup_eq
  | with_reducible apply  ev_and
  | with_reducible apply  ev_or
  | with_reducible apply  ev_ife
  | with_reducible apply  call_eq
  | with_reducible apply  ev_callK
  | with_reducible apply  ev_callD
  | with_reducible apply  ev_callDK
  | with_reducible apply  hI_eq
  | with_reducible apply  hU_eq
  | with_reducible apply  ev_cutN
  | with_reducible apply  ev_at
  | with_reducible apply  ev_lcA
  | with_reducible apply  ev_lc
  | with_reducible apply  sx_l
  | with_reducible apply  sx_vw
  | with_reducible apply  sx_enum
  | with_reducible apply  sx_zip
  | with_reducible apply  sx_zipS
  | with_reducible apply  sx_r
  | with_reducible apply  sx_r2
  | with_reducible apply  ev_seq
  | with_reducible apply  seqK_nx
  | with_reducible apply  ev_if
  | with_reducible apply  ev_ret
  | with_reducible apply  ev_do
  | with_reducible apply  ev_asg
  | with_reducible apply  ev_par
  | with_reducible apply  ev_thr
  | with_reducible apply  ev_dox_thr
  | ((with_reducible apply  ifK_t); (wtm_at "evt"))
  | ((with_reducible apply  ifK_f); (wtm_at "evt"))
  | exact eqB_int _ _ | exact neB_int _ _ | exact eqB_bl _ _ | exact neB_bl _ _ | exact eqB_str _ _ | exact neB_str _ _
  | exact lt_ev _ _ | exact le_ev _ _ | exact gt_ev _ _ | exact ge_ev _ _ | exact not_ev _ | exact addI_ev _ _ | exact subI_ev _ _
  | ((with_reducible show Row _ _ _); first | exact row_code _ | exact row_codes _ | exact row_map _ _ | exact row_bcode _ | exact row_bcodes _ | exact row_id _)
  | ((with_reducible show _ = List.map _ _); first | exact map_mapR _ _ | exact map_idR _)
  | ((with_reducible show dIsI _ _ = _); exact rfl) | ((with_reducible show dIsI2 _ _ _ = _); exact rfl) | ((with_reducible show dIsN _ = _); exact rfl) | ((with_reducible show dNotN _ = _); exact rfl)
  | ((with_reducible show dUw _ = _); first | exact uw_bcodes _ | exact uw_bcode _ | exact rfl)
  | exact hU_len _
  | ((with_reducible show D.imm _ = _); exact rfl)
  | exact allB_ev _ _ | exact anyB_ev _ _ | exact sumI_ev _ _ | exact sumC_ev _
  | exact len_ev _ | exact lenT_ev _ | exact cut_ev _ _ _ | exact list_ev _ | exact tuple_ev _ | exact rev_ev _
  | apply  addL_ev
  | wtm_at "evc"
  | ((with_reducible show _ = some _); exact rfl)
  | ((with_reducible show _ ≤ _); wtm_at "evb")
  | ((with_reducible show _ < _); wtm_at "evb")
  | ((with_reducible show (_ : Nat) = _); wtm_at "evb")
  | ((with_reducible show ∀ _, _ ∈ _ → _); intro _ _)
  | ((with_reducible show (_ : Bool) = _ → _); intro _))
local macro_rules | `(tactic| wtm_at "ev") => `(tactic| repeat' (wtm_at "ev1"))
/-! ### the values that are tried -/
structure Bd (v : D) : Prop where
  ag : Ag v
  tx : Txt 50 100000 v
theorem bd_ts {ds : List (List Int)} (hn : Nds ds) (hl : ds.length ≤ 20) (hc : ∀ c ∈ ds, c.length ≤ 10) (h0 : ∀ c ∈ ds.head?, c ≠ []) : Bd (tsD ds) := by
  refine ⟨?_, (txt_tsD hn (by omega) fun c q => by have := hc c q; omega).deep (by decide) (by decide)⟩
  cases ds with
  | nil => exact ag_true (fst_nil rfl rfl)
  | cons c0 cs => exact ag_good hn (h0 c0 rfl) (by omega) fun c q => by have := hc c q; omega
theorem bd_no {v : D} {t : String} (ht : v.ty = some t) (h : isTy v "list" = false) (tx : Txt 50 100000 v) : Bd v := ⟨ag_true (fst_no rfl ht h), tx⟩
def nmsD (o : List Int) : List D := o.map fun i => .str (nm i)
theorem cl_nms {n : Nat} {o : List Int} (h : Nd o) : ∀ d ∈ nmsD o, d.cl n = true := fun d hd => by
  unfold nmsD at hd
  rw [List.mem_map] at hd
  obtain ⟨i, hi, rfl⟩ := hd
  exact cl_name (h i hi)
theorem txt_nms {k : Nat} {o : List Int} (h : Nd o) : ∀ d ∈ nmsD o, Txt k 10 d := fun d hd => by
  unfold nmsD at hd
  rw [List.mem_map] at hd
  obtain ⟨i, hi, rfl⟩ := hd
  exact txt_name k (h i hi)
/-- one list, of names and something else -/
theorem bd_one {o : List Int} (h : Nd o) (h0 : o ≠ []) (hl : o.length ≤ 4) {d : D} {t : String} (ht : d.ty = some t) (hs : isTy d "str" = false) (hc : d.cl 58 = true) (tx : Txt 30 100 d) : Bd (.lst [.lst (nmsD o ++ [d])]) := by
  obtain ⟨x, o', rfl⟩ := List.exists_cons_of_ne_nil h0
  have cl : ((D.lst (nmsD (x :: o') ++ [d])).cl 59) = true := by
    show (nmsD (x :: o') ++ [d]).all (D.cl 58) = true
    rw [List.all_eq_true]
    intro e he
    rcases List.mem_append.mp he with z | z
    · exact cl_nms h e z
    · rw [List.mem_singleton] at z
      subst z
      exact hc
  have fst : eFst (startD 4 [.lst [.lst (nmsD (x :: o') ++ [d])]]) = pure (.bl false) := fst_ok (v := .lst [.lst (nmsD (x :: o') ++ [d])]) (y := .str (nm x)) (ys := nmsD o' ++ [d]) (xs := []) rfl rfl (by
    rw [List.all_cons, Bool.and_eq_true]
    exact ⟨cl, rfl⟩)
  have l1 : (nmsD (x :: o') ++ [d]).length ≤ 5 := by
    unfold nmsD
    rw [List.length_append, List.length_map, List.length_singleton]
    omega
  refine ⟨⟨false, ?_, ?_⟩, ?_⟩
  · have sb := sb_gen (ds := nmsD (x :: o') ++ [d]) (fun e he => by
      rcases List.mem_append.mp he with z | z
      · unfold nmsD at z
        rw [List.mem_map] at z
        obtain ⟨i, _, rfl⟩ := z
        exact ⟨_, rfl⟩
      · rw [List.mem_singleton] at z
        subst z
        exact ⟨t, ht⟩) (by omega)
    have e : ((nmsD (x :: o') ++ [d]).all fun d => isTy d "str") = false := by
      rw [List.all_append, Bool.and_eq_false_iff]
      right
      rw [List.all_cons, hs]
      rfl
    rw [e] at sb
    exact P_bad (items := [(.lst (nmsD (x :: o') ++ [d]), false)]) fst (fun e he => by rw [List.mem_singleton] at he; subst he; exact sb) rfl (by simp)
  · exact L_bad (items := [(.lst (nmsD (x :: o') ++ [d]), false)]) fst (fun e he => by
      rw [List.mem_singleton] at he
      subst he
      exact lb_bad h (by omega) ht hs (by exact cl_up 58 d hc)) rfl
  · refine (txt_lst (k := 40) (n := 600) (xs := [.lst (nmsD (x :: o') ++ [d])]) fun e he => ?_).deep (by simp) (by decide)
    rw [List.mem_singleton] at he
    subst he
    refine (txt_lst (k := 30) (n := 100) fun e he => ?_).deep (by omega) (by decide)
    rcases List.mem_append.mp he with z | z
    · exact (txt_nms (k := 20) h e z).deep (by decide) (by decide)
    · rw [List.mem_singleton] at z
      subst z
      exact tx
section
variable {c : List Int} {os : List (List Int)}
theorem Wish.nd (w : Wish c os) (h : Nms c) : Nds os := fun o ho i hi => h.nd i ((w.pm o ho).mem_iff.mp hi)
theorem Wish.l4 (w : Wish c os) (h : Nms c) : ∀ o ∈ os, o.length ≤ 4 := fun o ho => by rw [(w.pm o ho).length_eq]; exact h.len
theorem Wish.n0 (w : Wish c os) (h : Nms c) : ∀ o ∈ os, o ≠ [] := fun o ho e => by
  have := (w.pm o ho).length_eq
  rw [e] at this
  exact h.ne (List.length_eq_zero_iff.mp this.symm)
/-- orders, and None -/
theorem bd_none (w : Wish c os) (h : Nms c) : Bd (.lst (os.map tD ++ [.non])) := by
  have nd := w.nd h
  obtain ⟨o, r, rfl⟩ := List.exists_cons_of_ne_nil w.ne
  have l6 := w.len
  have l4 := w.l4 h
  have no := nd o List.mem_cons_self
  obtain ⟨x, o', rfl⟩ := List.exists_cons_of_ne_nil (w.n0 h o List.mem_cons_self)
  have cl : ((((x :: o') :: r).map tD ++ [D.non]).all fun d => d.cl 59) = true := by
    rw [List.all_append, Bool.and_eq_true, List.all_map]
    exact ⟨List.all_eq_true.mpr fun c hc => cl_tD (n := 58) (nd c hc), rfl⟩
  have fst : eFst (startD 4 [.lst (((x :: o') :: r).map tD ++ [.non])]) = pure (.bl false) := fst_ok (v := .lst (((x :: o') :: r).map tD ++ [.non])) (y := .str (nm x)) (ys := nmsD o') (xs := r.map tD ++ [D.non]) rfl rfl cl
  have e1 : ∀ f : List Int → Bool, ((((x :: o') :: r).map fun c => (tD c, f c)) ++ [(D.non, false)]).map (·.1) = ((x :: o') :: r).map tD ++ [D.non] := fun f => by
    rw [List.map_append, List.map_map]
    rfl
  have e2 : ∀ f : List Int → Bool, ((((x :: o') :: r).map fun c => (tD c, f c)) ++ [(D.non, false)]).all (·.2) = false := fun f => by
    rw [List.all_append]
    show (_ && false) = false
    rw [Bool.and_false]
  refine ⟨⟨false, ?_, ?_⟩, ?_⟩
  · have := P_bad (items := (((x :: o') :: r).map fun c => (tD c, true)) ++ [(D.non, false)]) (by rw [e1]; exact fst) (fun e he => by
      rcases List.mem_append.mp he with z | z
      · rw [List.mem_map] at z
        obtain ⟨c, hc, rfl⟩ := z
        exact sb_tD (by have := l4 c hc; omega)
      · rw [List.mem_singleton] at z
        subst z
        exact sb_no rfl rfl) (e2 _) (by rw [List.length_append, List.length_map, List.length_singleton]; omega)
    rw [e1] at this
    exact this
  · have := L_bad (items := (((x :: o') :: r).map fun c => (tD c, tL (x :: o') c)) ++ [(D.non, false)]) (by rw [e1]; exact fst) (fun e he => by
      rw [e1]
      rcases List.mem_append.mp he with z | z
      · rw [List.mem_map] at z
        obtain ⟨c, hc, rfl⟩ := z
        exact lb_tD (c0 := x :: o') (r := r.map tD ++ [D.non]) rfl no (nd c hc) (by have := l4 c hc; omega)
      · rw [List.mem_singleton] at z
        subst z
        exact lb_no rfl rfl) (e2 _)
    rw [e1] at this
    exact this
  · refine (txt_lst (k := 40) (n := 600) fun e he => ?_).deep (by rw [List.length_append, List.length_map, List.length_singleton]; omega) (by decide)
    rcases List.mem_append.mp he with z | z
    · rw [List.mem_map] at z
      obtain ⟨c, hc, rfl⟩ := z
      exact (txt_tD 20 (nd c hc)).deep (by have := l4 c hc; omega) (by decide)
    · rw [List.mem_singleton] at z
      subst z
      exact (txt_non 40).deep (by decide) (by decide)
def badL (os : List (List Int)) (o : List Int) : List D := [.non, .lst [], .tup [], .dct [], .str "orders", .tup (os.map tD), .lst [.lst []], tsD (os ++ cut os (some (-1)) none), .lst (os.map tD ++ [.non]), tsD (os ++ [o ++ cut o none (some 1)]), tsD (os ++ [cut o (some 1) none ++ [9]]), .lst [.tup (nmsD o)], tsD [o ++ [0]], .lst [.lst (nmsD o ++ [.int 7])], .lst [.lst (nmsD o ++ [.lst [.str (nm (o.getD 0 0))]])], tsD [cut o none (some 1) ++ cut o none (some 1)], tsD (os ++ [cut o (some 1) none]), tsD [o ++ [9], o], tD o] ++ [tsD os.reverse, tsD (cut os (some 1) none), tsD (cut os none (some 1))]
theorem nd_app {a b : List Int} (ha : Nd a) (hb : Nd b) : Nd (a ++ b) := fun i hi => (List.mem_append.mp hi).elim (ha i) (hb i)
theorem nd_cut {a : List Int} (ha : Nd a) (lo hi : Option Int) : Nd (cut a lo hi) := fun i h => ha i (cut_mem h)
theorem bad_all (w : Wish c os) (h : Nms c) {o : List Int} (ho : os.head? = some o) : ∀ d ∈ badL os o, Bd d := by
  have nd := w.nd h
  have l6 := w.len
  have l4 := w.l4 h
  have n0 := w.n0 h
  have hm : o ∈ os := List.mem_of_mem_head? (by rw [ho]; rfl)
  have no := nd o hm
  have lo := l4 o hm
  have o0 := n0 o hm
  have n9 : Nd [9] := fun i hi => by rw [List.mem_singleton] at hi; subst hi; decide
  have nz : Nd [0] := fun i hi => by rw [List.mem_singleton] at hi; subst hi; decide
  have hd : ∀ ds : List (List Int), (os ++ ds).head? = some o := fun ds => by rw [List.head?_append, ho]; rfl
  have cm : ∀ {lo hi} {x : List Int}, x ∈ cut os lo hi → x ∈ os := fun hx => cut_mem hx
  have app : ∀ e : List Int, Nd e → e.length ≤ 10 → Bd (tsD (os ++ [e])) := fun e he le => bd_ts (fun c hc => (List.mem_append.mp hc).elim (nd c) fun z => by rw [List.mem_singleton] at z; subst z; exact he) (by simp; omega) (fun c hc => (List.mem_append.mp hc).elim (fun z => by have := l4 c z; omega) fun z => by rw [List.mem_singleton] at z; subst z; exact le) (fun c hc => by rw [hd] at hc; cases hc; exact o0)
  have sub : ∀ ds : List (List Int), (∀ x ∈ ds, x ∈ os) → ds.length ≤ 6 → Bd (tsD ds) := fun ds hs hl => bd_ts (fun c hc => nd c (hs c hc)) (by omega) (fun c hc => by have := l4 c (hs c hc); omega) (fun c hc => n0 c (hs c (List.mem_of_mem_head? hc)))
  have one : ∀ e : List Int, Nd e → e.length ≤ 10 → e ≠ [] → Bd (tsD [e]) := fun e he le e0 => bd_ts (fun c hc => by rw [List.mem_singleton] at hc; subst hc; exact he) (by simp) (fun c hc => by rw [List.mem_singleton] at hc; subst hc; exact le) (fun c hc => by cases hc; exact e0)
  have lc := fun a b => cut_len o a b
  have lcs := fun a b => cut_len os a b
  have t1 : cut o none (some 1) ≠ [] := by
    obtain ⟨x, o', rfl⟩ := List.exists_cons_of_ne_nil o0
    rw [show (some (1 : Int)) = some ((1 : Nat) : Int) from rfl, cut_take]
    simp
  intro d hd'
  simp only [badL, List.cons_append, List.nil_append, List.mem_cons, List.mem_nil_iff, or_false] at hd'
  rcases hd' with rfl | rfl | rfl | rfl | rfl | rfl | rfl | rfl | rfl | rfl | rfl | rfl | rfl | rfl | rfl | rfl | rfl | rfl | rfl | rfl | rfl | rfl
  · exact bd_no rfl rfl ((txt_non 50).deep (by decide) (Nat.le_refl _))
  · exact bd_ts (ds := []) (fun _ z => by cases z) (by simp) (fun _ z => by cases z) (fun _ z => by cases z)
  · exact bd_no rfl rfl ((txt_tup (k := 30) (n := 10) fun d hd => by cases hd).deep (by decide) (by decide))
  · exact bd_no rfl rfl ((txt_dct 50).deep (by decide) (Nat.le_refl _))
  · exact bd_no rfl rfl ((txt_str 50 (by decide +kernel)).deep (by decide) (Nat.le_refl _))
  · refine bd_no rfl rfl ((txt_tup (k := 40) (n := 600) fun d hd => ?_).deep (by rw [List.length_map]; omega) (by decide))
    rw [List.mem_map] at hd
    obtain ⟨c, hc, rfl⟩ := hd
    exact (txt_tD 20 (nd c hc)).deep (by have := l4 c hc; omega) (by decide)
  · exact ⟨ag_true (fst_x0 rfl (xs := []) rfl rfl), (txt_lst (k := 40) (n := 600) (xs := [.lst []]) fun d hd => by
      rw [List.mem_singleton] at hd
      subst hd
      exact (txt_lst (k := 20) (n := 10) (xs := []) fun _ z => by cases z).deep (by simp) (by decide)).deep (by simp) (by decide)⟩
  · exact bd_ts (fun c hc => (List.mem_append.mp hc).elim (nd c) fun z => nd c (cm z)) (by have := lcs (some (-1)) none; rw [List.length_append]; omega) (fun c hc => (List.mem_append.mp hc).elim (fun z => by have := l4 c z; omega) fun z => by have := l4 c (cm z); omega) (fun c hc => by rw [hd] at hc; cases hc; exact o0)
  · exact bd_none w h
  · exact app _ (nd_app no (nd_cut no _ _)) (by have := lc none (some 1); rw [List.length_append]; omega)
  · exact app _ (nd_app (nd_cut no _ _) n9) (by have := lc (some 1) none; rw [List.length_append, List.length_singleton]; omega)
  · refine ⟨ag_true (fst_x rfl (x := .tup (nmsD o)) (xs := []) (t := "tuple") rfl ?_ rfl rfl), ?_⟩
    · rw [List.all_cons, Bool.and_eq_true]
      exact ⟨List.all_eq_true.mpr fun e he => cl_nms (n := 58) no e he, rfl⟩
    · refine (txt_lst (k := 40) (n := 600) (xs := [.tup (nmsD o)]) fun d hd => ?_).deep (by simp) (by decide)
      rw [List.mem_singleton] at hd
      subst hd
      exact (txt_tup (k := 20) (n := 10) (txt_nms no)).deep (by unfold nmsD; rw [List.length_map]; omega) (by decide)
  · exact one _ (nd_app no nz) (by rw [List.length_append, List.length_singleton]; omega) (by simp)
  · exact bd_one no o0 lo (t := "int") rfl rfl (by decide +kernel) ((txt_int 30 (by decide)).deep (by decide) (Nat.le_refl _))
  · have hx : 0 ≤ o.getD 0 0 ∧ o.getD 0 0 < 10 := by
      obtain ⟨x, o', rfl⟩ := List.exists_cons_of_ne_nil o0
      exact no x List.mem_cons_self
    refine bd_one no o0 lo (t := "list") rfl rfl ?_ ((txt_lst (k := 20) (n := 10) (xs := [.str (nm (o.getD 0 0))]) fun d hd => ?_).deep (by simp) (by decide))
    · show ((D.str (nm (o.getD 0 0))).cl 57 && true) = true
      rw [cl_name hx]
      rfl
    · rw [List.mem_singleton] at hd
      subst hd
      exact txt_name 20 hx
  · exact one _ (nd_app (nd_cut no _ _) (nd_cut no _ _)) (by have := lc none (some 1); rw [List.length_append]; omega) (fun e => t1 (List.append_eq_nil_iff.mp e).1)
  · exact app _ (nd_cut no _ _) (by have := lc (some 1) none; omega)
  · refine bd_ts (fun c hc => ?_) (by simp) (fun c hc => ?_) (fun c hc => by cases hc; simp)
    · simp only [List.mem_cons, List.mem_nil_iff, or_false] at hc
      rcases hc with rfl | rfl
      · exact nd_app no n9
      · exact no
    · simp only [List.mem_cons, List.mem_nil_iff, or_false] at hc
      rcases hc with rfl | rfl
      · rw [List.length_append, List.length_singleton]; omega
      · omega
  · obtain ⟨x, o', rfl⟩ := List.exists_cons_of_ne_nil o0
    refine ⟨ag_true (fst_x rfl (x := .str (nm x)) (xs := nmsD o') (t := "str") rfl ?_ rfl rfl), (txt_tD 40 no).deep (by omega) (by decide)⟩
    exact List.all_eq_true.mpr fun e he => cl_nms (n := 59) (o := x :: o') no e he
  · exact sub _ (fun x hx => List.mem_reverse.mp hx) (by rw [List.length_reverse]; omega)
  · exact sub _ (fun x hx => cm hx) (by have := lcs (some 1) none; omega)
  · exact sub _ (fun x hx => cm hx) (by have := lcs none (some 1); omega)
end
end K81

/-! ## QKK81 -/
set_option autoImplicit false
set_option linter.all false
set_option maxRecDepth 100000
set_option maxHeartbeats 2000000
namespace K81
open PySem DL
local macro_rules | `(tactic| wtm_at "evt") => `(tactic| first | rfl | assumption | (simp only [*]; done) | (simp [*, isTy]; done) | (simp; done) | decide | omega)
local macro_rules | `(tactic| wtm_at "evb") => `(tactic| first | omega | (simp only [List.length_map, List.length_append, List.length_cons, List.length_nil, List.length_zip, List.length_zipIdx, List.length_range, List.length_reverse]; omega) | (simp; omega) | decide)
local macro_rules | `(tactic| wtm_at "evc") => `(tactic| ((with_reducible show _ = _); assumption))
local macro_rules | `(tactic| wtm_at "ev1") => `(tactic| first
  | with_reducible exact ev_k
  | ((with_reducible apply  ev_w); exact rfl)
  | ((with_reducible apply  ev_v); exact rfl)
  | ((with_reducible apply  ev_vo); exact rfl)
  | with_reducible exact es_nil
  | with_reducible exact ev_no
  | with_reducible exact ev_skip
  | with_reducible exact seqK_rt
  | with_reducible apply  es_cons
  | with_reducible apply  f_eq
  | with_reducible apply  o_eq
  | with_reducible apply  ev_lst
  | with_reducible apply  tup_eq
  | with_reducible apply  ev_and
  | with_reducible apply  ev_or
  | with_reducible apply  ev_ife
  | with_reducible apply  call_eq
  | with_reducible apply  ev_callK
  | with_reducible apply  ev_callD
  | with_reducible apply  ev_callDK
  | with_reducible apply  hI_eq
  | with_reducible apply  hU_eq
  | with_reducible apply  ev_cutN
  | with_reducible apply  ev_at
  | with_reducible apply  ev_lcA
  | with_reducible apply  ev_lc
  | with_reducible apply  sx_l
  | with_reducible apply  sx_vw
  | with_reducible apply  sx_enum
  | with_reducible apply  sx_zip
  | with_reducible apply  sx_zipS
  | with_reducible apply  sx_r
  | with_reducible apply  sx_r2
  | with_reducible apply  ev_seq
  | with_reducible apply  seqK_nx
  | with_reducible apply  ev_if
  | with_reducible apply  ev_ret
  | with_reducible apply  ev_do
  | with_reducible apply  ev_asg
  | with_reducible apply  ev_par
  | with_reducible apply  ev_thr
  | with_reducible apply  ev_dox_thr
  | ((with_reducible apply  ifK_t); (wtm_at "evt"))
  | ((with_reducible apply  ifK_f); (wtm_at "evt"))
  | exact eqB_int _ _ | exact neB_int _ _ | exact eqB_bl _ _ | exact neB_bl _ _ | exact eqB_str _ _ | exact neB_str _ _
  | exact lt_ev _ _ | exact le_ev _ _ | exact gt_ev _ _ | exact ge_ev _ _ | exact not_ev _ | exact addI_ev _ _ | exact subI_ev _ _
  | ((with_reducible show Row _ _ _); first | exact row_code _ | exact row_codes _ | exact row_map _ _ | exact row_bcode _ | exact row_bcodes _ | exact row_id _)
  | ((with_reducible show _ = List.map _ _); first | exact map_mapR _ _ | exact map_idR _)
  | ((with_reducible show dIsI _ _ = _); exact rfl) | ((with_reducible show dIsI2 _ _ _ = _); exact rfl) | ((with_reducible show dIsN _ = _); exact rfl) | ((with_reducible show dNotN _ = _); exact rfl)
  | ((with_reducible show dUw _ = _); first | exact uw_bcodes _ | exact uw_bcode _ | exact rfl)
  | exact hU_len _
  | ((with_reducible show D.imm _ = _); exact rfl)
  | exact allB_ev _ _ | exact anyB_ev _ _ | exact sumI_ev _ _ | exact sumC_ev _
  | exact len_ev _ | exact lenT_ev _ | exact cut_ev _ _ _ | exact list_ev _ | exact tuple_ev _ | exact rev_ev _
  | apply  addL_ev
  | wtm_at "evc"
  | ((with_reducible show _ = some _); exact rfl)
  | ((with_reducible show _ ≤ _); wtm_at "evb")
  | ((with_reducible show _ < _); wtm_at "evb")
  | ((with_reducible show (_ : Nat) = _); wtm_at "evb")
  | ((with_reducible show ∀ _, _ ∈ _ → _); intro _ _)
  | ((with_reducible show (_ : Bool) = _ → _); intro _))
local macro_rules | `(tactic| wtm_at "ev") => `(tactic| repeat' (wtm_at "ev1"))
theorem thr_first {Fs : List D → M D} {fs : Es} {b : S} {δ : Dlt} {ds : List D} {x : Str} {d : D} (h : fs δ = pure ds) (h2 : Fs ds = pure (.thr x d)) : sSeq (sDoX Fs fs) b δ = pure (.rt (.thr x d)) := seq_rt (ev_dox_thr h h2)
theorem seqS_nx {a b : S} {δ δ' : Dlt} (h : a δ = pure (.nx δ')) : sSeqS a b δ = b δ' := by
  unfold sSeqS
  rw [h, pure_bind]
def rr_0 : S := sAsg (gN 1) (eCall f_law_wished (esC (eW 0) (esC (eCall f_law_names (esC (eW 0) (esC (eK (.int 4)) (esN)))) (esN))))
def rr_1 : S := sPar 2 3 (eF dReprN (eV 1)) (eCall f_law_begun (esC (eW 1) (esN)))
def rr_2_i : S := sSeqS (sAsg (gN 4) (eLst (esC (eCall f_beginnings_of (esC (eW 1) (esN))) (esC (eCall (fun ys => f_beginnings_of (pick [0] ys)) (esC (eW 1) (esN))) (esN))))) (sSeqS (sIf (eOr (eF dNot (eF dUw (eCallD (f_law_same 4) (esC (eW 4) (esC (eLst (esC (eW 3) (esC (eW 3) (esN)))) (esN)))))) (eF dNot (eF dUw (eCallD (f_law_same 4) (esC (eLst (esC (eCallD f_are_wished_orders (esC (eW 1) (esN))) (esC (eCallDK f_are_wished_orders [0] (esC (eW 1) (esN))) (esN)))) (esC (eLst (esC (eK (.bl true)) (esC (eK (.bl true)) (esN)))) (esN))))))) (sRet (eK (.bl false))) (sSkip)) (sOps [.each 4 [0] 5] [.one 4 [0]]))
def rr_2 : S := sScope rr_2_i
def rr_3_s : Es := xL (eO dAdd (eCall f_law_no_orders (esC (eW 1) (esN))) (eLst (esC (eF dRev (eV 1)) (esC (eCut (eV 1) (eAt (eK (.int 1))) (eNo)) (esC (eCut (eV 1) (eNo) (eAt (eK (.int 1)))) (esN))))))
def rr_3_b : S := sSeq (sAsg (gT [gN 7, gN 8]) (eTup (esC (eCall f_law_are_wished (esC (eW 6) (esN))) (esC (eF dReprN (eV 6)) (esN))))) (sSeq (sIf (eOr (eF dNot (eCall (f_law_same 4) (esC (eLst (esC (eCall f_are_wished_orders (esC (eW 6) (esN))) (esC (eCall (fun ys => f_are_wished_orders (pick [0] ys)) (esC (eW 6) (esN))) (esN)))) (esC (eLst (esC (eW 7) (esC (eW 7) (esN)))) (esN))))) (eO dNe (eF dReprN (eV 6)) (eV 8))) (sRet (eK (.bl false))) (sSkip)) (sSeq (sAsg (gN 9) (eLst (esC (eTup (esC (eK (.fn "beginnings_of")) (esC (eLst (esC (eW 6) (esN))) (esN)))) (esC (eTup (esC (eK (.fn "can_be_built")) (esC (eLst (esC (eW 6) (esN))) (esN)))) (esC (eTup (esC (eK (.fn "room_of_orders")) (esC (eLst (esC (eW 6) (esN))) (esN)))) (esC (eTup (esC (eK (.fn "closed_orders")) (esC (eLst (esC (eW 6) (esN))) (esN)))) (esC (eTup (esC (eK (.fn "lacking_orders")) (esC (eLst (esC (eW 6) (esN))) (esN)))) (esC (eTup (esC (eK (.fn "is_forced")) (esC (eLst (esC (eW 6) (esC (eK .non) (esN)))) (esN)))) (esC (eTup (esC (eK (.fn "pairs_kept")) (esC (eLst (esC (eW 6) (esN))) (esN)))) (esC (eTup (esC (eK (.fn "follows_pairs")) (esC (eLst (esC (eW 6) (esN))) (esN)))) (esN))))))))))) (sIf (eAnd (eF dNot (eV 7)) (eO dNe (eLc [10, 11] (gT [gN 10, gN 11]) (xL (eW 9)) (eO dNe (eCall f_law_caught (esC (eW 10) (esC (eW 11) (esN)))) (eLst (esC (eLst (esC (eK (.str "InvalidPlan")) (esN))) (esC (eW 8) (esN))))) (eK (.int 1))) (eLst (esN)))) (sRet (eK (.bl false))) (sSkip))))
def rr_3 : S := sFor (gN 6) rr_3_s rr_3_b
def rr_4 : S := sRet (eAnd (eCall (f_law_same 4) (esC (eCall f_beginnings_of (esC (eW 1) (esN))) (esC (eW 3) (esN)))) (eO dEq (eF dReprN (eV 1)) (eV 2)))
theorem rr_def : f_law_right = fn 12 1 (sSeq rr_0 (sSeq rr_1 (sSeq rr_2 (sSeq rr_3 (rr_4))))) := rfl
/-! ### the law's turn -/
theorem xcheck_bad {d : D} (h1 : f_are_wished_orders [d] = pure (.bl false)) : fx_check_wished [d] = pure (.thr "InvalidPlan" d) := by
  unfold fx_check_wished
  refine fn_rt rfl ?_
  rw [if_t (f_eq (call_eq (es_cons (ev_w rfl) es_nil) h1) (not_ev _))]
  exact ev_thr (ev_w rfl)
theorem check_good {d : D} (h1 : f_are_wished_orders [d] = pure (.bl true)) : f_check_wished [d] = pure .non := by
  unfold f_check_wished
  refine fn_nx (δ := startD 1 [d]) rfl ?_
  rw [if_f (f_eq (call_eq (es_cons (ev_w rfl) es_nil) h1) (not_ev _))]
  rfl
def calls8 (v : D) : List (Str × List D) := [("beginnings_of", [v]), ("can_be_built", [v]), ("room_of_orders", [v]), ("closed_orders", [v]), ("lacking_orders", [v]), ("is_forced", [v, .non]), ("pairs_kept", [v]), ("follows_pairs", [v])]
theorem calls_thr {v : D} (h : f_are_wished_orders [v] = pure (.bl false)) : ∀ p ∈ calls8 v, ∃ Fs, tab p.1 = some Fs ∧ (p.2.length = 1 ∨ p.2.length = 2 ∨ p.2.length = 3) ∧ Fs p.2 = pure (.thr "InvalidPlan" v) ∧ ∀ d ∈ p.2, d = v ∨ d = .non := fun p hp => by
  have x := xcheck_bad h
  simp only [calls8, List.mem_cons, List.mem_nil_iff, or_false] at hp
  rcases hp with rfl | rfl | rfl | rfl | rfl | rfl | rfl | rfl
  · exact ⟨fx_beginnings_of, rfl, .inl rfl, fn_rt rfl (thr_first (es_cons (ev_w rfl) es_nil) x), fun d hd => by simp at hd; exact .inl hd⟩
  · exact ⟨fx_can_be_built, rfl, .inl rfl, fn_rt rfl (thr_first (es_cons (ev_w rfl) es_nil) x), fun d hd => by simp at hd; exact .inl hd⟩
  · exact ⟨fx_room_of_orders, rfl, .inl rfl, fn_rt rfl (thr_first (es_cons (ev_w rfl) es_nil) x), fun d hd => by simp at hd; exact .inl hd⟩
  · exact ⟨fx_closed_orders, rfl, .inl rfl, fn_rt rfl (thr_first (es_cons (ev_w rfl) es_nil) x), fun d hd => by simp at hd; exact .inl hd⟩
  · exact ⟨fx_lacking_orders, rfl, .inl rfl, fn_rt rfl (thr_first (es_cons (ev_w rfl) es_nil) x), fun d hd => by simp at hd; exact .inl hd⟩
  · exact ⟨fx_is_forced, rfl, .inr (.inl rfl), fn_rt rfl (thr_first (es_cons (ev_w rfl) es_nil) x), fun d hd => by simp at hd; exact hd⟩
  · exact ⟨fx_pairs_kept, rfl, .inl rfl, fn_rt rfl (thr_first (es_cons (ev_w rfl) es_nil) x), fun d hd => by simp at hd; exact .inl hd⟩
  · exact ⟨fx_follows_pairs, rfl, .inl rfl, fn_rt rfl (thr_first (es_cons (ev_w rfl) es_nil) x), fun d hd => by simp at hd; exact .inl hd⟩
def sh (os : List (List Int)) : Str := (tsD os).py.shown
def oF (os : List (List Int)) (x4 x5 x6 x7 x8 x9 x10 x11 : Sl) : Dlt := [.val .gen, .val (tsD os), .val (.str (sh os)), .val (tsD (due os)), x4, x5, x6, x7, x8, x9, x10, x11]
def oB (os : List (List Int)) (x4 x5 x6 x7 x8 x9 x10 x11 : Sl) : Dlt := [.val .gen, .val (.bor (tsD os)), .val (.str (sh os)), .val (.bor (tsD (due os))), x4, x5, x6, x7, x8, x9, x10, x11]
theorem same_bls (r : Bool) : f_law_same 4 [.lst [.bl r, .bl r], .lst [.bl r, .bl r]] = pure (.bl true) := same_lst (fun d hd => by
  simp at hd
  subst hd
  exact same_bl 2 r) (by simp)
theorem turn_eq {v : D} (b : Bd v) (os : List (List Int)) (x7 x8 x9 : Sl) : ∃ y7 y8 y9, rr_3_b (oF os .no .no (.val v) x7 x8 x9 .no .no) = pure (.nx (oF os .no .no (.val v) y7 y8 y9 .no .no)) := by
  obtain ⟨⟨r, p1, p2⟩, tx⟩ := b
  have rv := reprN_ev (tx.deep (Nat.le_refl _) (by decide : 50 ≤ 60)) (by decide)
  have tn : Txt 50 100000 D.non := (txt_non 50).deep (by decide) (Nat.le_refl _)
  refine ⟨.val (.bl r), .val (.str v.py.shown), .val (.lst ((calls8 v).map fun p => .tup [.fn p.1, .lst p.2])), ?_⟩
  unfold rr_3_b
  rw [seq_nx (δ' := oF os .no .no (.val v) (.val (.bl r)) (.val (.str v.py.shown)) x9 .no .no) (asg_nx (tup_eq (xs := [.bl r, .str v.py.shown]) (es_cons (call_eq (es_cons (ev_w rfl) es_nil) p2) (es_cons (f_eq (ev_v rfl) rv) es_nil)) (by simp)) rfl)]
  rw [seq_nx (δ' := oF os .no .no (.val v) (.val (.bl r)) (.val (.str v.py.shown)) x9 .no .no)]
  · rw [seq_nx (δ' := oF os .no .no (.val v) (.val (.bl r)) (.val (.str v.py.shown)) (.val (.lst ((calls8 v).map fun p => .tup [.fn p.1, .lst p.2]))) .no .no)]
    · rw [if_f]
      · rfl
      · cases r with
        | true => exact and_f (f_eq (ev_v rfl) (not_ev _))
        | false =>
          rw [and_t (f_eq (x := .bl false) (d := .bl true) (ev_v rfl) (not_ev _))]
          refine o_eq (x := .lst []) (y := .lst []) ?_ (lst_eq es_nil (by simp)) rfl
          refine Eq.trans (ev_lc (emb := fun p : Str × List D => D.tup [.fn p.1, .lst p.2]) (xs := calls8 v) (γ := fun p => oF os .no .no (.val v) (.val (.bl false)) (.val (.str v.py.shown)) (.val (.lst ((calls8 v).map fun p => .tup [.fn p.1, .lst p.2]))) (.val (.fn p.1)) (.val (.lst p.2))) (p := fun _ => false) (f := fun _ => .int 1) (sx_l (ev_w rfl) (row_map _ _)) (fun _ _ => rfl) (fun p hp => ?_) (fun _ _ z => by cases z) (by show 8 ≤ 1000000; decide)) ?_
          · obtain ⟨Fs, h1, h2, h3, h4⟩ := calls_thr p1 p hp
            exact told_ok h1 h2 h3 rfl (fun d hd => (h4 d hd).elim (fun e => e ▸ tx) fun e => e ▸ tn) tx (ev_w rfl) (ev_w rfl) (ev_w rfl) _ rfl
          · rw [List.filter_eq_nil_iff.mpr fun _ _ => by simp]
            rfl
    · have one : ∀ z : Str, eTup (esC (eK (.fn z)) (esC (eLst (esC (eW 6) (esN))) (esN))) (oF os .no .no (.val v) (.val (.bl r)) (.val (.str v.py.shown)) x9 .no .no) = pure (.tup [.fn z, .lst [v]]) := fun z => tup_eq (es_cons ev_k (es_cons (lst_eq (xs := [v]) (es_cons (ev_w rfl) es_nil) (by simp)) es_nil)) (by simp)
      have two : ∀ z : Str, eTup (esC (eK (.fn z)) (esC (eLst (esC (eW 6) (esC (eK .non) (esN)))) (esN))) (oF os .no .no (.val v) (.val (.bl r)) (.val (.str v.py.shown)) x9 .no .no) = pure (.tup [.fn z, .lst [v, .non]]) := fun z => tup_eq (es_cons ev_k (es_cons (lst_eq (xs := [v, .non]) (es_cons (ev_w rfl) (es_cons ev_k es_nil)) (by simp)) es_nil)) (by simp)
      exact asg_nx (lst_eq (es_cons (one _) (es_cons (one _) (es_cons (one _) (es_cons (one _) (es_cons (one _) (es_cons (two _) (es_cons (one _) (es_cons (one _) es_nil)))))))) (by simp)) rfl
  · rw [if_f]
    · rfl
    · rw [or_f]
      · refine (o_eq (f_eq (ev_v rfl) rv) (ev_v rfl) (neB_str _ _)).trans ?_
        rw [decide_eq_true rfl]
        rfl
      · exact f_eq (x := .bl true) (call_eq (xs := [.lst [.bl r, .bl r], .lst [.bl r, .bl r]]) (es_cons (lst_eq (es_cons (call_eq (es_cons (ev_w rfl) es_nil) p1) (es_cons (call_eq (f := fun ys => f_are_wished_orders (pick [0] ys)) (xs := [v]) (es_cons (ev_w rfl) es_nil) p1) es_nil)) (by simp)) (es_cons (lst_eq (es_cons (ev_w rfl) (es_cons (ev_w rfl) es_nil)) (by simp)) es_nil)) (same_bls r)) rfl
section
variable {c : List Int} {os : List (List Int)}
theorem wished_ok (w : Wish c os) (h : Nms c) : f_are_wished_orders [tsD os] = pure (.bl true) := by
  have nd := w.nd h
  have l4 := w.l4 h
  have l6 := w.len
  have n0 := w.n0 h
  have nodup : ∀ o ∈ os, o.Nodup := fun o ho => (w.pm o ho).nodup_iff.mpr h.nodup
  have ws := w.pm
  have up := w.up
  obtain ⟨o, r, rfl⟩ := List.exists_cons_of_ne_nil w.ne
  rw [P_good nd (n0 o List.mem_cons_self) (by omega) fun c hc => by have := l4 c hc; omega]
  congr 2
  unfold vs
  rw [Bool.and_eq_true, Bool.and_eq_true, Bool.and_eq_true]
  have hs : ∀ x ∈ o :: r, sortI x = sortI o := fun x hx => up_eq (sort_strict (nodup x hx)) (sort_strict (nodup o List.mem_cons_self)) fun k => by
    rw [(sortI_perm x).mem_iff, (sortI_perm o).mem_iff, (ws x hx).mem_iff, (ws o List.mem_cons_self).mem_iff]
  refine ⟨⟨?_, decide_eq_true (nodup o List.mem_cons_self)⟩, List.all_eq_true.mpr fun x hx => decide_eq_true (hs x hx), upB_of up⟩
  unfold okN
  rw [List.all_eq_true]
  intro i hi
  exact decide_eq_true (h.of i ((ws o List.mem_cons_self).mem_iff.mp ((sortI_perm o).mem_iff.mp hi))).1
theorem begin_eq (w : Wish c os) (h : Nms c) {v : D} {e : List Int → D} (s : Seen v os e) : f_beginnings_of [v] = pure (tsD (due os)) := beginnings_of_eq s (w.nd h) w.len (w.l4 h) (check_good (wished_ok w h))
theorem no_orders_eq (w : Wish c os) (h : Nms c) {o : List Int} (ho : os.head? = some o) {δ : Dlt} (h1 : δ[1]? = some (.val (tsD os))) : rr_3_s δ = pure (badL os o) := by
  have l6 := w.len
  have hm : o ∈ os := List.mem_of_mem_head? (by rw [ho]; rfl)
  have lo := w.l4 h o hm
  have o0 := w.n0 h o hm
  have lc := fun a b => cut_len o a b
  have lcs := fun a b => cut_len os a b
  have ix0 : dIx (tsD os) (.int 0) = pure (tD o) := by
    obtain ⟨x, r, rfl⟩ := List.exists_cons_of_ne_nil w.ne
    cases ho
    exact ix_of (xs := (o :: r).map tD) (i := 0) rfl
  have ix1 : dIx (tD o) (.int 0) = pure (.str (nm (o.getD 0 0))) := by
    obtain ⟨x, r, rfl⟩ := List.exists_cons_of_ne_nil o0
    exact ix_of (xs := (x :: r).map fun i => D.str (nm i)) (i := 0) rfl
  have cutO : ∀ a b, dCut (tD o) a b = pure (tD (cut o a b)) := fun a b => by
    show (pure (D.lst (cut (o.map _) a b)) : M D) = _
    rw [cut_map]
    rfl
  have cutS : ∀ a b, dCut (tsD os) a b = pure (tsD (cut os a b)) := fun a b => by
    show (pure (D.lst (cut (os.map _) a b)) : M D) = _
    rw [cut_map]
    rfl
  have addS : ∀ ds : List (List Int), ds.length ≤ 100 → dAdd (tsD os) (tsD ds) = pure (tsD (os ++ ds)) := fun ds hl => by
    refine (cat_eq (by rw [List.length_map, List.length_map]; omega)).trans ?_
    rw [← List.map_append]
    rfl
  have addO : ∀ a b : List Int, a.length ≤ 100 → b.length ≤ 100 → dAdd (tD a) (tD b) = pure (tD (a ++ b)) := fun a b ha hb => by
    refine (cat_eq (by rw [List.length_map, List.length_map]; omega)).trans ?_
    rw [← List.map_append]
    rfl
  have e : f_law_no_orders [tsD os] = pure (.lst ((badL os o).take 19)) := by
    have v0 : eV 0 [.val (tsD os), .val (tD o)] = pure (tsD os) := ev_v rfl
    have v1 : eV 1 [.val (tsD os), .val (tD o)] = pure (tD o) := ev_v rfl
    have at1 : eAt (eK (.int 1)) [.val (tsD os), .val (tD o)] = pure (some 1) := at_eq ev_k
    have atm : eAt (eF dNeg (eK (.int 1))) [.val (tsD os), .val (tD o)] = pure (some (-1)) := at_eq (f_eq ev_k (neg_ev _))
    have hd : eCut (eV 1) (eNo) (eAt (eK (.int 1))) [.val (tsD os), .val (tD o)] = pure (tD (cut o none (some 1))) := cut_eq v1 ev_no at1 (cutO _ _)
    have tl : eCut (eV 1) (eAt (eK (.int 1))) (eNo) [.val (tsD os), .val (tD o)] = pure (tD (cut o (some 1) none)) := cut_eq v1 at1 ev_no (cutO _ _)
    have l1 : ∀ (x : E) (d : D), x [.val (tsD os), .val (tD o)] = pure d → eLst (esC x (esN)) [.val (tsD os), .val (tD o)] = pure (.lst [d]) := fun x d hx => lst_eq (es_cons hx es_nil) (by simp)
    have one : ∀ (x : E) (a : List Int), x [.val (tsD os), .val (tD o)] = pure (tD a) → eLst (esC x (esN)) [.val (tsD os), .val (tD o)] = pure (tsD [a]) := fun x a hx => l1 x _ hx
    have plus : ∀ (x : E) (a : List Int), x [.val (tsD os), .val (tD o)] = pure (tD a) → eO dAdd (eV 0) (eLst (esC x (esN))) [.val (tsD os), .val (tD o)] = pure (tsD (os ++ [a])) := fun x a hx => o_eq v0 (one x a hx) (addS _ (by simp))
    have dbl : dMul (tD (cut o none (some 1))) (.int 2) = pure (tD (cut o none (some 1) ++ cut o none (some 1))) := by
      have := lc none (some 1)
      refine (if_pos ⟨by decide, by decide, lim_ok ?_⟩).trans ?_
      · show (pure (D.lst (_ ++ (_ ++ []))) : M D) = _
        rw [List.append_nil, ← List.map_append]
        rfl
      · rw [List.length_map]
        show _ * 2 ≤ _
        omega
    have zz : eLst (esC (eK (.str "zz")) (esN)) [.val (tsD os), .val (tD o)] = pure (tD [9]) := lst_eq (es_cons ev_k es_nil) (by simp)
    have aa : eLst (esC (eK (.str "A")) (esN)) [.val (tsD os), .val (tD o)] = pure (tD [0]) := lst_eq (es_cons ev_k es_nil) (by simp)
    have lt := lc (some 1) none
    have lh := lc none (some 1)
    have e8 := o_eq (h := dAdd) v0 (cut_eq v0 atm ev_no (cutS _ _)) (addS _ (by have := lcs (some (-1)) none; omega))
    have e9 := o_eq (h := dAdd) v0 (l1 (eK .non) .non ev_k) (cat_eq (xs := os.map tD) (ys := [.non]) (by rw [List.length_map]; simp; omega))
    have e10 := plus _ _ (o_eq (h := dAdd) v1 hd (addO _ _ (by omega) (by omega)))
    have e11 := plus _ _ (o_eq (h := dAdd) tl zz (addO _ _ (by omega) (by simp)))
    have e12 := l1 (eF dTuple (eV 1)) (.tup (nmsD o)) (f_eq v1 rfl)
    have e13 := one _ _ (o_eq (h := dAdd) v1 aa (addO _ _ (by omega) (by simp)))
    have e14 := l1 (eO dAdd (eV 1) (eLst (esC (eK (.int 7)) (esN)))) (D.lst (nmsD o ++ [D.int 7])) (o_eq v1 (l1 (eK (.int 7)) _ ev_k) (cat_eq (xs := nmsD o) (ys := [.int 7]) (by unfold nmsD; rw [List.length_map]; simp; omega)))
    have e15 := l1 (eO dAdd (eV 1) (eLst (esC (eLst (esC (eO dIx (eV 1) (eK (.int 0))) (esN))) (esN)))) (D.lst (nmsD o ++ [D.lst [D.str (nm (o.getD 0 0))]])) (o_eq v1 (l1 _ _ (l1 _ _ (o_eq v1 ev_k ix1))) (cat_eq (xs := nmsD o) (ys := [.lst [.str (nm (o.getD 0 0))]]) (by unfold nmsD; rw [List.length_map]; simp; omega)))
    have e16 := one _ _ (o_eq (h := dMul) (b := eK (.int 2)) hd ev_k dbl)
    have e17 := plus _ _ tl
    have e18 : eLst (esC (eO dAdd (eF dList (eV 1)) (eLst (esC (eK (.str "zz")) (esN)))) (esC (eF dList (eV 1)) (esN))) [.val (tsD os), .val (tD o)] = pure (tsD [o ++ [9], o]) := lst_eq (es_cons (o_eq (f_eq v1 rfl) zz (addO _ _ (by omega) (by simp))) (es_cons (f_eq v1 rfl) es_nil)) (by simp)
    unfold f_law_no_orders
    refine fn_rt rfl ?_
    rw [seq_nx (δ' := [.val (tsD os), .val (tD o)]) (asg_nx (o_eq (ev_v (i := 0) rfl) ev_k ix0) rfl)]
    refine ret_rt (lst_eq (xs := (badL os o).take 19) ?_ (by simp [badL]))
    exact es_cons ev_k (es_cons (lst_eq es_nil (by simp)) (es_cons (tup_eq es_nil (by simp)) (es_cons ev_k (es_cons ev_k (es_cons (f_eq v0 rfl) (es_cons (l1 _ _ (lst_eq es_nil (by simp)))
      (es_cons e8 (es_cons e9 (es_cons e10 (es_cons e11 (es_cons e12 (es_cons e13 (es_cons e14 (es_cons e15 (es_cons e16 (es_cons e17 (es_cons e18 (es_cons (ev_w rfl) es_nil))))))))))))))))))
  refine xL_eq (xs := badL os o) ?_
  have l22 : (badL os o) = (badL os o).take 19 ++ [tsD os.reverse, tsD (cut os (some 1) none), tsD (cut os none (some 1))] := rfl
  rw [l22]
  refine o_eq (call_eq (es_cons (ev_w h1) es_nil) e) (lst_eq (xs := [tsD os.reverse, tsD (cut os (some 1) none), tsD (cut os none (some 1))]) (es_cons (f_eq (ev_v h1) ?_) (es_cons (cut_eq (ev_v h1) (at_eq ev_k) ev_no (cutS _ _)) (es_cons (cut_eq (ev_v h1) ev_no (at_eq ev_k) (cutS _ _)) es_nil))) (by simp)) (cat_eq (by simp [badL]))
  show (pure (D.lst (os.map tD).reverse) : M D) = _
  rw [← List.map_reverse]
  rfl
theorem wrap_S (os : List (List Int)) : wrapSl (.val (tsD os)) = .val (.bor (tsD os)) := by
  show (if (tsD os).nb then Sl.val (wrapB (tsD os)) else Sl.no) = _
  rw [nb_tsD, if_pos rfl]
  rfl
theorem unsl_S (os : List (List Int)) : unSl (.val (.bor (tsD os))) = .val (tsD os) := by
  show (if (tsD os).nb then Sl.val (tsD os) else Sl.no) = _
  rw [nb_tsD, if_pos rfl]
theorem flat_tD {c : List Int} (h : c.length ≤ 1000) : flatL (tD c) = true := by
  show (decide ((c.map fun i => D.str (nm i)).length ≤ 1000000) && (c.map fun i => D.str (nm i)).all D.imm) = true
  rw [Bool.and_eq_true, decide_eq_true_iff, List.length_map, List.all_map]
  exact ⟨by omega, List.all_eq_true.mpr fun _ _ => rfl⟩
theorem due_ne (w : Wish c os) : due os ≠ [] := by
  obtain ⟨o, r, rfl⟩ := List.exists_cons_of_ne_nil w.ne
  have h : bg o 0 ∈ due (o :: r) := (due_perm _).mem_iff.mpr (uniq_mem.mpr (List.mem_flatMap.mpr ⟨o, List.mem_cons_self, List.mem_map.mpr ⟨0, List.mem_range.mpr (by omega), rfl⟩⟩))
  intro e
  rw [e] at h
  cases h
theorem rr2_eq (w : Wish c os) (h : Nms c) : rr_2 (oF os .no .no .no .no .no .no .no .no) = pure (.nx (oF os .no .no .no .no .no .no .no .no)) := by
  have be := begin_eq w h (seen_b os)
  have wo := wished_ok w h
  obtain ⟨l1, l2⟩ := due_len (w.l4 h) w.len
  have dn := due_ne w
  have un2 : ∀ {d : D} {x : D}, x.un = d → uns [x, x] = [d, d] := fun h => by rw [uns, uns, uns, h]
  have unS : ∀ cs : List (List Int), (tsD cs).un = tsD cs := fun cs => un_nb _ (nb_tsD cs)
  have unB : ∀ cs : List (List Int), (D.bor (tsD cs)).un = tsD cs := fun cs => un_nb _ (nb_tsD cs)
  have s0 : (oF os .no .no .no .no .no .no .no .no).map wrapSl = oB os .no .no .no .no .no .no .no .no := by
    unfold oF oB
    simp only [List.map_cons, List.map_nil, wrap_S]
    rfl
  have s1 : (oB os (.val (.lst [tsD (due os), tsD (due os)])) .no .no .no .no .no .no .no).map unSl = oF os (unSl (.val (.lst [tsD (due os), tsD (due os)]))) .no .no .no .no .no .no .no := by
    unfold oF oB
    simp only [List.map_cons, List.map_nil, unsl_S]
    rfl
  have sD : f_law_same 4 [.lst [tsD (due os), tsD (due os)], .lst [tsD (due os), tsD (due os)]] = pure (.bl true) := same_lst (fun d hd => by
    simp at hd
    subst hd
    exact same_tsD 0 (by omega) fun c hc => by have := l2 c hc; omega) (by simp)
  unfold rr_2 sScope
  rw [s0]
  have core : rr_2_i (oB os .no .no .no .no .no .no .no .no) = pure (.nx (oF os .no .no .no .no .no .no .no .no)) := by
    unfold rr_2_i
    rw [seqS_nx (δ' := oB os (.val (.lst [tsD (due os), tsD (due os)])) .no .no .no .no .no .no .no) (asg_nx (lst_eq (es_cons (call_eq (es_cons (ev_w rfl) es_nil) be) (es_cons (call_eq (f := fun ys => f_beginnings_of (pick [0] ys)) (xs := [.bor (tsD os)]) (es_cons (ev_w rfl) es_nil) be) es_nil)) (by simp)) rfl)]
    rw [seqS_nx (δ' := oB os (.val (.lst [tsD (due os), tsD (due os)])) .no .no .no .no .no .no .no)]
    · unfold sOps
      rw [if_pos (by decide)]
      have go1 : stepOp true (oB os (.val (.lst [tsD (due os), tsD (due os)])) .no .no .no .no .no .no .no) (.each 4 [0] 5) = some (oB os (.val (.lst [tsD (due os), tsD (due os)])) .no .no .no .no .no .no .no) := by
        generalize due os = U at *
        cases U with
        | nil => exact absurd rfl dn
        | cons c r =>
          refine Eq.trans (if_pos ⟨rfl, (by decide : 5 < 12), by simp at l1 ⊢; omega, by
            show (tD c :: r.map tD).all flatL = true
            rw [← List.map_cons (f := tD), List.all_map, List.all_eq_true]
            intro d hd
            exact flat_tD (by have := l2 d hd; omega)⟩) ?_
          rfl
      have go2 : stepOp false (oB os (.val (.lst [tsD (due os), tsD (due os)])) .no .no .no .no .no .no .no) (.one 4 [0]) = some (oB os (.val (.lst [tsD (due os), tsD (due os)])) .no .no .no .no .no .no .no) := by
        show (if ((due os).map tD).length ≤ 1000000 ∧ (!false || ((due os).map tD).all D.imm) = true then some _ else none) = _
        rw [if_pos ⟨by rw [List.length_map]; omega, rfl⟩]
      simp only [goOps, go1, go2, Option.bind_some]
      rw [s1]
      rfl
    · rw [if_f]
      · rfl
      · have uD : uns [.lst [tsD (due os), tsD (due os)], .lst [.bor (tsD (due os)), .bor (tsD (due os))]] = [.lst [tsD (due os), tsD (due os)], .lst [tsD (due os), tsD (due os)]] := by
          rw [uns, uns, uns, D.un, D.un, un2 (unS (due os)), un2 (unB (due os))]
        have cw : eCallD f_are_wished_orders (esC (eW 1) (esN)) (oB os (.val (.lst [tsD (due os), tsD (due os)])) .no .no .no .no .no .no .no) = pure (.bl true) := ev_callD (es_cons (ev_w (i := 1) rfl) es_nil) (by rw [show uns [D.bor (tsD os)] = [(D.bor (tsD os)).un] from rfl, unB]; exact wo) rfl
        have cwk : eCallDK f_are_wished_orders [0] (esC (eW 1) (esN)) (oB os (.val (.lst [tsD (due os), tsD (due os)])) .no .no .no .no .no .no .no) = pure (.bl true) := ev_callDK (es_cons (ev_w (i := 1) rfl) es_nil) (by rw [show uns [D.bor (tsD os)] = [(D.bor (tsD os)).un] from rfl, unB]; exact wo) rfl
        rw [or_f]
        · exact f_eq (x := .bl true) (f_eq (x := .bl true) (ev_callD (es_cons (lst_eq (xs := [.bl true, .bl true]) (es_cons cw (es_cons cwk es_nil)) (by simp)) (es_cons (lst_eq (xs := [.bl true, .bl true]) (es_cons ev_k (es_cons ev_k es_nil)) (by simp)) es_nil)) (same_bls true) rfl) rfl) rfl
        · exact f_eq (x := .bl true) (f_eq (x := .bl true) (ev_callD (es_cons (ev_w (i := 4) rfl) (es_cons (lst_eq (es_cons (ev_w (i := 3) rfl) (es_cons (ev_w (i := 3) rfl) es_nil)) (by simp)) es_nil)) (by rw [uD]; exact sD) rfl) rfl) rfl
  rw [core]
  rfl
theorem rr3_eq (w : Wish c os) (h : Nms c) : ∃ y6 y7 y8 y9, rr_3 (oF os .no .no .no .no .no .no .no .no) = pure (.nx (oF os .no .no y6 y7 y8 y9 .no .no)) := by
  obtain ⟨o, ho⟩ : ∃ o, os.head? = some o := by
    obtain ⟨o, r, rfl⟩ := List.exists_cons_of_ne_nil w.ne
    exact ⟨o, rfl⟩
  have src : rr_3_s (oF os .no .no .no .no .no .no .no .no) = pure (badL os o) := no_orders_eq w h ho rfl
  obtain ⟨δ', l1, y6, y7, y8, y9, l2⟩ := forGo_pre (g := gN 6) (s := rr_3_b) (emb := fun d : D => d) (I := fun _ δ => ∃ y6 y7 y8 y9, δ = oF os .no .no y6 y7 y8 y9 .no .no) (xs := badL os o) (pre := []) (δ := oF os .no .no .no .no .no .no .no .no) ⟨_, _, _, _, rfl⟩ (fun p d q δ e ⟨y6, y7, y8, y9, eδ⟩ => by
    subst eδ
    obtain ⟨z7, z8, z9, et⟩ := turn_eq (bad_all w h ho d (by rw [List.nil_append] at e; rw [e]; simp)) os y7 y8 y9
    exact ⟨_, _, rfl, et, _, _, _, _, rfl⟩)
  rw [List.map_id'] at l1
  subst l2
  exact ⟨_, _, _, _, for_nx src l1⟩
theorem repr_os (w : Wish c os) (h : Nms c) {δ : Dlt} (h1 : δ[1]? = some (.val (tsD os))) : eF dReprN (eV 1) δ = pure (.str (sh os)) := f_eq (ev_v h1) (reprN_ev ((txt_tsD (w.nd h) (by have := w.len; omega) fun c hc => by have := w.l4 h c hc; omega).deep (Nat.le_refl 90000) (by decide : 40 ≤ 60)) (by decide))
theorem rr4_eq (w : Wish c os) (h : Nms c) (x6 x7 x8 x9 : Sl) : rr_4 (oF os .no .no x6 x7 x8 x9 .no .no) = pure (.rt (.bl true)) := by
  obtain ⟨l1, l2⟩ := due_len (w.l4 h) w.len
  unfold rr_4
  refine ret_rt ?_
  rw [and_t (call_eq (es_cons (call_eq (es_cons (ev_w (i := 1) rfl) es_nil) (begin_eq w h (seen_p os))) (es_cons (ev_w (i := 3) rfl) es_nil)) (same_tsD 1 (by omega) fun c hc => by have := l2 c hc; omega))]
  refine (o_eq (repr_os w h rfl) (ev_v (i := 2) rfl) (eqB_str _ _)).trans ?_
  rw [decide_eq_true rfl]
end
theorem right_yl : Yl 300 (f_law_right [.gen]) fun d => d = .bl true := by
  rw [rr_def]
  refine yl_fn rfl ?_
  refine (yl_seq (n := 266) (j := 0) (P := fun δ => ∃ c os, δ = [.val .gen, .val (tsD os), .no, .no, .no, .no, .no, .no, .no, .no, .no, .no] ∧ Nms c ∧ Wish c os) (yl_asg (yl_call (n := 9) (j := 257) (P := fun ds => ∃ c, ds = [.gen, tD c] ∧ Nms c) (Q := fun d => ∃ c os, d = tsD os ∧ Nms c ∧ Wish c os) ?_ fun ds ⟨c, e, h⟩ => ?_) fun d ⟨c, os, e, h, w⟩ => ⟨_, by subst e; rfl, c, os, rfl, h, w⟩) fun δ ⟨c, os, e, h, w⟩ => ?_).mono (by omega) fun _ z => z
  · refine yl_step (a := .gen) (ev_w rfl) ?_
    refine (yl_bind (n := 9) (j := 0) (P := fun ds => ∃ c, ds = [tD c] ∧ Nms c) ?_ fun ds ⟨c, e, h⟩ => ?_).mono (by omega) fun _ z => z
    · refine (yl_bind (n := 9) (j := 0) (P := fun d => ∃ c, d = tD c ∧ Nms c) ?_ fun d ⟨c, e, h⟩ => ?_).mono (by omega) fun _ z => z
      · exact (yl_call (n := 0) (j := 9) (P := fun ds => ds = [.gen, .int 4]) (yl_eq (es_cons (ev_w rfl) (es_cons ev_k es_nil)) rfl) fun ds e => by
          subst e
          exact names_yl).mono (by omega) fun _ z => z
      · subst e
        exact yl_eq rfl ⟨c, rfl, h⟩
    · subst e
      exact yl_eq rfl ⟨c, rfl, h⟩
  · subst e
    exact (wished_yl h).mono (Nat.le_refl _) fun d ⟨os, e, w⟩ => ⟨c, os, e, h, w⟩
  · subst e
    have e1 : rr_1 [.val .gen, .val (tsD os), .no, .no, .no, .no, .no, .no, .no, .no, .no, .no] = pure (.nx (oF os .no .no .no .no .no .no .no .no)) := ev_par (repr_os w h rfl) (call_eq (es_cons (ev_w rfl) es_nil) (begun_eq (w.nd h) w.len (w.l4 h)))
    refine yl_seq0 e1 (yl_seq0 (rr2_eq w h) ?_)
    obtain ⟨y6, y7, y8, y9, e3⟩ := rr3_eq w h
    exact yl_seq0 e3 (yl_eq (rr4_eq w h _ _ _ _) ⟨_, rfl, rfl⟩)
end K81

/-! ## MK81 -/
set_option autoImplicit false
set_option linter.all false
set_option maxRecDepth 100000
set_option maxHeartbeats 2000000
namespace K81
open PySem DL
theorem math1 (ns : List Int) (i : Nat) (hi : i < 3) : ∃ g2, Ok (eTurn (lawSl 3)) (genOf ns i) (.bl false) g2 := by
  have s0 : DL.St 0 (genOf ns i) := ⟨_, _, _, rfl, Int.emod_nonneg _ (by decide), Int.emod_lt_of_pos _ (by decide), by omega, by omega⟩
  obtain ⟨d1, g1, o1, rfl, s1⟩ := right_yl 0 _ s0 (by omega)
  obtain ⟨d2, g2, o2, rfl, s2⟩ := right_yl _ _ s1 (by omega)
  have run : ∀ g g' : Gs, Ok (f_law_right [.gen]) g (.bl true) g' → Ok (eF dNot (eCall f_law_right (esC (eW 2) (esN))) (lawSl 3)) g (.bl false) g' := fun g g' o =>
    ok_bind.mpr ⟨.bl true, g', ok_bind.mpr ⟨[.gen], g, ok_bind.mpr ⟨.gen, g, ok_pure.mpr ⟨rfl, rfl⟩, ok_pure.mpr ⟨rfl, rfl⟩⟩, o⟩, ok_pure.mpr ⟨rfl, rfl⟩⟩
  exact ⟨g2, ok_bind.mpr ⟨.bl false, g1, run _ _ o1, run _ _ o2⟩⟩
theorem math2 : ∃ g2, Ok (sLaw (List.replicate 3 .no)) [] (.rt (.bl true)) g2 := ⟨[], rfl⟩
end K81

/-! ## EK81 -/
set_option Elab.async false
set_option autoImplicit false
set_option linter.all false
set_option maxRecDepth 100000
set_option maxHeartbeats 4000000
namespace K81
open PySem PySem.Spec PyProof.Rows L2 DL
theorem bd_is_signs (kV doc pm : Value) (an : Option Addr) (cdv ct : Value) (us : List Value) (hl : us.length = (["value", "signs"] : List Str).length) : bindArgs (PySem.W.fnOf "is_signs" "is_signs" (defArgs s_is_signs) (defBody s_is_signs) (defScope s_is_signs) .none kV doc pm an cdv ct) ⟨us, []⟩ = pure ((["value", "signs"] : List Str).zip us) := match us, hl with | [_, _], _ => rfl
theorem bd_is_name (kV doc pm : Value) (an : Option Addr) (cdv ct : Value) (us : List Value) (hl : us.length = (["value"] : List Str).length) : bindArgs (PySem.W.fnOf "is_name" "is_name" (defArgs s_is_name) (defBody s_is_name) (defScope s_is_name) .none kV doc pm an cdv ct) ⟨us, []⟩ = pure ((["value"] : List Str).zip us) := match us, hl with | [_], _ => rfl
theorem bd_ascends (kV doc pm : Value) (an : Option Addr) (cdv ct : Value) (us : List Value) (hl : us.length = (["items"] : List Str).length) : bindArgs (PySem.W.fnOf "ascends" "ascends" (defArgs s_ascends) (defBody s_ascends) (defScope s_ascends) .none kV doc pm an cdv ct) ⟨us, []⟩ = pure ((["items"] : List Str).zip us) := match us, hl with | [_], _ => rfl
theorem bd_is_names (kV doc pm : Value) (an : Option Addr) (cdv ct : Value) (us : List Value) (hl : us.length = (["value"] : List Str).length) : bindArgs (PySem.W.fnOf "is_names" "is_names" (defArgs s_is_names) (defBody s_is_names) (defScope s_is_names) .none kV doc pm an cdv ct) ⟨us, []⟩ = pure ((["value"] : List Str).zip us) := match us, hl with | [_], _ => rfl
theorem bd_are_wished_orders (kV doc pm : Value) (an : Option Addr) (cdv ct : Value) (us : List Value) (hl : us.length = (["value"] : List Str).length) : bindArgs (PySem.W.fnOf "are_wished_orders" "are_wished_orders" (defArgs s_are_wished_orders) (defBody s_are_wished_orders) (defScope s_are_wished_orders) .none kV doc pm an cdv ct) ⟨us, []⟩ = pure ((["value"] : List Str).zip us) := match us, hl with | [_], _ => rfl
theorem bd_check_wished (kV doc pm : Value) (an : Option Addr) (cdv ct : Value) (us : List Value) (hl : us.length = (["orders"] : List Str).length) : bindArgs (PySem.W.fnOf "check_wished" "check_wished" (defArgs s_check_wished) (defBody s_check_wished) (defScope s_check_wished) .none kV doc pm an cdv ct) ⟨us, []⟩ = pure ((["orders"] : List Str).zip us) := match us, hl with | [_], _ => rfl
theorem bd_size_and_lot (kV doc pm : Value) (an : Option Addr) (cdv ct : Value) (us : List Value) (hl : us.length = (["lot"] : List Str).length) : bindArgs (PySem.W.fnOf "size_and_lot" "size_and_lot" (defArgs s_size_and_lot) (defBody s_size_and_lot) (defScope s_size_and_lot) .none kV doc pm an cdv ct) ⟨us, []⟩ = pure ((["lot"] : List Str).zip us) := match us, hl with | [_], _ => rfl
theorem bd_beginnings_in (kV doc pm : Value) (an : Option Addr) (cdv ct : Value) (us : List Value) (hl : us.length = (["orders"] : List Str).length) : bindArgs (PySem.W.fnOf "beginnings_in" "beginnings_in" (defArgs s_beginnings_in) (defBody s_beginnings_in) (defScope s_beginnings_in) .none kV doc pm an cdv ct) ⟨us, []⟩ = pure ((["orders"] : List Str).zip us) := match us, hl with | [_], _ => rfl
theorem bd_beginnings_of (kV doc pm : Value) (an : Option Addr) (cdv ct : Value) (us : List Value) (hl : us.length = (["orders"] : List Str).length) : bindArgs (PySem.W.fnOf "beginnings_of" "beginnings_of" (defArgs s_beginnings_of) (defBody s_beginnings_of) (defScope s_beginnings_of) .none kV doc pm an cdv ct) ⟨us, []⟩ = pure ((["orders"] : List Str).zip us) := match us, hl with | [_], _ => rfl
theorem bd_can_be_built (kV doc pm : Value) (an : Option Addr) (cdv ct : Value) (us : List Value) (hl : us.length = (["orders"] : List Str).length) : bindArgs (PySem.W.fnOf "can_be_built" "can_be_built" (defArgs s_can_be_built) (defBody s_can_be_built) (defScope s_can_be_built) .none kV doc pm an cdv ct) ⟨us, []⟩ = pure ((["orders"] : List Str).zip us) := match us, hl with | [_], _ => rfl
theorem bd_room_of_orders (kV doc pm : Value) (an : Option Addr) (cdv ct : Value) (us : List Value) (hl : us.length = (["orders"] : List Str).length) : bindArgs (PySem.W.fnOf "room_of_orders" "room_of_orders" (defArgs s_room_of_orders) (defBody s_room_of_orders) (defScope s_room_of_orders) .none kV doc pm an cdv ct) ⟨us, []⟩ = pure ((["orders"] : List Str).zip us) := match us, hl with | [_], _ => rfl
theorem bd_closed_orders (kV doc pm : Value) (an : Option Addr) (cdv ct : Value) (us : List Value) (hl : us.length = (["orders"] : List Str).length) : bindArgs (PySem.W.fnOf "closed_orders" "closed_orders" (defArgs s_closed_orders) (defBody s_closed_orders) (defScope s_closed_orders) .none kV doc pm an cdv ct) ⟨us, []⟩ = pure ((["orders"] : List Str).zip us) := match us, hl with | [_], _ => rfl
theorem bd_lacking_orders (kV doc pm : Value) (an : Option Addr) (cdv ct : Value) (us : List Value) (hl : us.length = (["orders"] : List Str).length) : bindArgs (PySem.W.fnOf "lacking_orders" "lacking_orders" (defArgs s_lacking_orders) (defBody s_lacking_orders) (defScope s_lacking_orders) .none kV doc pm an cdv ct) ⟨us, []⟩ = pure ((["orders"] : List Str).zip us) := match us, hl with | [_], _ => rfl
theorem bd_is_forced (kV doc pm : Value) (an : Option Addr) (cdv ct : Value) (us : List Value) (hl : us.length = (["orders", "value"] : List Str).length) : bindArgs (PySem.W.fnOf "is_forced" "is_forced" (defArgs s_is_forced) (defBody s_is_forced) (defScope s_is_forced) .none kV doc pm an cdv ct) ⟨us, []⟩ = pure ((["orders", "value"] : List Str).zip us) := match us, hl with | [_, _], _ => rfl
theorem bd_pairs_kept (kV doc pm : Value) (an : Option Addr) (cdv ct : Value) (us : List Value) (hl : us.length = (["orders"] : List Str).length) : bindArgs (PySem.W.fnOf "pairs_kept" "pairs_kept" (defArgs s_pairs_kept) (defBody s_pairs_kept) (defScope s_pairs_kept) .none kV doc pm an cdv ct) ⟨us, []⟩ = pure ((["orders"] : List Str).zip us) := match us, hl with | [_], _ => rfl
theorem bd_follows_pairs (kV doc pm : Value) (an : Option Addr) (cdv ct : Value) (us : List Value) (hl : us.length = (["orders"] : List Str).length) : bindArgs (PySem.W.fnOf "follows_pairs" "follows_pairs" (defArgs s_follows_pairs) (defBody s_follows_pairs) (defScope s_follows_pairs) .none kV doc pm an cdv ct) ⟨us, []⟩ = pure ((["orders"] : List Str).zip us) := match us, hl with | [_], _ => rfl
theorem bd_law_hash (kV doc pm : Value) (an : Option Addr) (cdv ct : Value) (us : List Value) (hl : us.length = (["seed", "index"] : List Str).length) : bindArgs (PySem.W.fnOf "_law_hash" "_law_hash" (defArgs s_law_hash) (defBody s_law_hash) (defScope s_law_hash) .none kV doc pm an cdv ct) ⟨us, []⟩ = pure ((["seed", "index"] : List Str).zip us) := match us, hl with | [_, _], _ => rfl
theorem bd_law_random (kV doc pm : Value) (an : Option Addr) (cdv ct : Value) (us : List Value) (hl : us.length = (["generator", "bound"] : List Str).length) : bindArgs (PySem.W.fnOf "_law_random" "_law_random" (defArgs s_law_random) (defBody s_law_random) (defScope s_law_random) .none kV doc pm an cdv ct) ⟨us, []⟩ = pure ((["generator", "bound"] : List Str).zip us) := match us, hl with | [_, _], _ => rfl
theorem bd_law_cell (kV doc pm : Value) (an : Option Addr) (cdv ct : Value) (us : List Value) (hl : us.length = (["script", "index"] : List Str).length) : bindArgs (PySem.W.fnOf "_law_cell" "_law_cell" (defArgs s_law_cell) (defBody s_law_cell) (defScope s_law_cell) .none kV doc pm an cdv ct) ⟨us, []⟩ = pure ((["script", "index"] : List Str).zip us) := match us, hl with | [_, _], _ => rfl
theorem bd_law_generator (kV doc pm : Value) (an : Option Addr) (cdv ct : Value) (us : List Value) (hl : us.length = (["script", "index"] : List Str).length) : bindArgs (PySem.W.fnOf "_law_generator" "_law_generator" (defArgs s_law_generator) (defBody s_law_generator) (defScope s_law_generator) .none kV doc pm an cdv ct) ⟨us, []⟩ = pure ((["script", "index"] : List Str).zip us) := match us, hl with | [_, _], _ => rfl
theorem bd_law_same (kV doc pm : Value) (an : Option Addr) (cdv ct : Value) (us : List Value) (hl : us.length = (["found", "due"] : List Str).length) : bindArgs (PySem.W.fnOf "_law_same" "_law_same" (defArgs s_law_same) (defBody s_law_same) (defScope s_law_same) .none kV doc pm an cdv ct) ⟨us, []⟩ = pure ((["found", "due"] : List Str).zip us) := match us, hl with | [_, _], _ => rfl
theorem bd_law_shuffled (kV doc pm : Value) (an : Option Addr) (cdv ct : Value) (us : List Value) (hl : us.length = (["generator", "things"] : List Str).length) : bindArgs (PySem.W.fnOf "_law_shuffled" "_law_shuffled" (defArgs s_law_shuffled) (defBody s_law_shuffled) (defScope s_law_shuffled) .none kV doc pm an cdv ct) ⟨us, []⟩ = pure ((["generator", "things"] : List Str).zip us) := match us, hl with | [_, _], _ => rfl
theorem bd_law_permuted (kV doc pm : Value) (an : Option Addr) (cdv ct : Value) (us : List Value) (hl : us.length = (["items"] : List Str).length) : bindArgs (PySem.W.fnOf "_law_permuted" "_law_permuted" (defArgs s_law_permuted) (defBody s_law_permuted) (defScope s_law_permuted) .none kV doc pm an cdv ct) ⟨us, []⟩ = pure ((["items"] : List Str).zip us) := match us, hl with | [_], _ => rfl
theorem bd_law_names (kV doc pm : Value) (an : Option Addr) (cdv ct : Value) (us : List Value) (hl : us.length = (["generator", "most"] : List Str).length) : bindArgs (PySem.W.fnOf "_law_names" "_law_names" (defArgs s_law_names) (defBody s_law_names) (defScope s_law_names) .none kV doc pm an cdv ct) ⟨us, []⟩ = pure ((["generator", "most"] : List Str).zip us) := match us, hl with | [_, _], _ => rfl
theorem bd_law_wished (kV doc pm : Value) (an : Option Addr) (cdv ct : Value) (us : List Value) (hl : us.length = (["generator", "names"] : List Str).length) : bindArgs (PySem.W.fnOf "_law_wished" "_law_wished" (defArgs s_law_wished) (defBody s_law_wished) (defScope s_law_wished) .none kV doc pm an cdv ct) ⟨us, []⟩ = pure ((["generator", "names"] : List Str).zip us) := match us, hl with | [_, _], _ => rfl
theorem bd_law_begun (kV doc pm : Value) (an : Option Addr) (cdv ct : Value) (us : List Value) (hl : us.length = (["orders"] : List Str).length) : bindArgs (PySem.W.fnOf "_law_begun" "_law_begun" (defArgs s_law_begun) (defBody s_law_begun) (defScope s_law_begun) .none kV doc pm an cdv ct) ⟨us, []⟩ = pure ((["orders"] : List Str).zip us) := match us, hl with | [_], _ => rfl
theorem bd_law_no_orders (kV doc pm : Value) (an : Option Addr) (cdv ct : Value) (us : List Value) (hl : us.length = (["orders"] : List Str).length) : bindArgs (PySem.W.fnOf "_law_no_orders" "_law_no_orders" (defArgs s_law_no_orders) (defBody s_law_no_orders) (defScope s_law_no_orders) .none kV doc pm an cdv ct) ⟨us, []⟩ = pure ((["orders"] : List Str).zip us) := match us, hl with | [_], _ => rfl
theorem bd_law_caught (kV doc pm : Value) (an : Option Addr) (cdv ct : Value) (us : List Value) (hl : us.length = (["call", "parts"] : List Str).length) : bindArgs (PySem.W.fnOf "_law_caught" "_law_caught" (defArgs s_law_caught) (defBody s_law_caught) (defScope s_law_caught) .none kV doc pm an cdv ct) ⟨us, []⟩ = pure ((["call", "parts"] : List Str).zip us) := match us, hl with | [_, _], _ => rfl
theorem bd_law_are_wished (kV doc pm : Value) (an : Option Addr) (cdv ct : Value) (us : List Value) (hl : us.length = (["value"] : List Str).length) : bindArgs (PySem.W.fnOf "_law_are_wished" "_law_are_wished" (defArgs s_law_are_wished) (defBody s_law_are_wished) (defScope s_law_are_wished) .none kV doc pm an cdv ct) ⟨us, []⟩ = pure ((["value"] : List Str).zip us) := match us, hl with | [_], _ => rfl
theorem bd_law_right (kV doc pm : Value) (an : Option Addr) (cdv ct : Value) (us : List Value) (hl : us.length = (["generator"] : List Str).length) : bindArgs (PySem.W.fnOf "_law_right" "_law_right" (defArgs s_law_right) (defBody s_law_right) (defScope s_law_right) .none kV doc pm an cdv ct) ⟨us, []⟩ = pure ((["generator"] : List Str).zip us) := match us, hl with | [_], _ => rfl
theorem bd_law (kV doc pm : Value) (an : Option Addr) (cdv ct : Value) (us : List Value) (hl : us.length = (["script"] : List Str).length) : bindArgs (PySem.W.fnOf "law" "law" (defArgs s_law) (defBody s_law) (defScope s_law) .none kV doc pm an cdv ct) ⟨us, []⟩ = pure ((["script"] : List Str).zip us) := match us, hl with | [_], _ => rfl
theorem all_mk {l : PySem.W.OpenLaw} {w : World} {K : PySem.W.Frag} {mg : Str → Option Value} {fa : Addr} (hfa : mg "law" = some (.ref fa)) (B : BltX mg)
    (a_is_signs : At K mg "is_signs" s_is_signs ["value", "signs"])
    (a_is_name : At K mg "is_name" s_is_name ["value"])
    (a_ascends : At K mg "ascends" s_ascends ["items"])
    (a_is_names : At K mg "is_names" s_is_names ["value"])
    (a_are_wished_orders : At K mg "are_wished_orders" s_are_wished_orders ["value"])
    (a_check_wished : At K mg "check_wished" s_check_wished ["orders"])
    (a_size_and_lot : At K mg "size_and_lot" s_size_and_lot ["lot"])
    (a_beginnings_in : At K mg "beginnings_in" s_beginnings_in ["orders"])
    (a_beginnings_of : At K mg "beginnings_of" s_beginnings_of ["orders"])
    (a_can_be_built : At K mg "can_be_built" s_can_be_built ["orders"])
    (a_room_of_orders : At K mg "room_of_orders" s_room_of_orders ["orders"])
    (a_closed_orders : At K mg "closed_orders" s_closed_orders ["orders"])
    (a_lacking_orders : At K mg "lacking_orders" s_lacking_orders ["orders"])
    (a_is_forced : At K mg "is_forced" s_is_forced ["orders", "value"])
    (a_pairs_kept : At K mg "pairs_kept" s_pairs_kept ["orders"])
    (a_follows_pairs : At K mg "follows_pairs" s_follows_pairs ["orders"])
    (a__law_hash : At K mg "_law_hash" s_law_hash ["seed", "index"])
    (a__law_random : At K mg "_law_random" s_law_random ["generator", "bound"])
    (a__law_cell : At K mg "_law_cell" s_law_cell ["script", "index"])
    (a__law_generator : At K mg "_law_generator" s_law_generator ["script", "index"])
    (a__law_same : At K mg "_law_same" s_law_same ["found", "due"])
    (a__law_shuffled : At K mg "_law_shuffled" s_law_shuffled ["generator", "things"])
    (a__law_permuted : At K mg "_law_permuted" s_law_permuted ["items"])
    (a__law_names : At K mg "_law_names" s_law_names ["generator", "most"])
    (a__law_wished : At K mg "_law_wished" s_law_wished ["generator", "names"])
    (a__law_begun : At K mg "_law_begun" s_law_begun ["orders"])
    (a__law_no_orders : At K mg "_law_no_orders" s_law_no_orders ["orders"])
    (a__law_caught : At K mg "_law_caught" s_law_caught ["call", "parts"])
    (a__law_are_wished : At K mg "_law_are_wished" s_law_are_wished ["value"])
    (a__law_right : At K mg "_law_right" s_law_right ["generator"])
    (a_law : At K mg "law" s_law ["script"])
    {v_SMALL : Value} (q_SMALL : mg "SMALL" = some v_SMALL) (r_SMALL : ∃ t, v_SMALL = .str "abcdefghijklmnopqrstuvwxyz" t)
    {v_MOST_NAME : Value} (q_MOST_NAME : mg "MOST_NAME" = some v_MOST_NAME) (r_MOST_NAME : ∃ t, v_MOST_NAME = .int 8 t)
    {v_FIGURES : Value} (q_FIGURES : mg "FIGURES" = some v_FIGURES) (r_FIGURES : ∃ t, v_FIGURES = .str "0123456789" t)
    {A_InvalidPlan : Addr} (E_InvalidPlan : ErrC l.prog K mg "InvalidPlan" A_InvalidPlan) (I_InvalidPlan : ErrIs K mg "InvalidPlan" A_InvalidPlan) (n_InvalidPlan : PySem.W.kitOne K (.type "NoneType") (.ref A_InvalidPlan) = some false)
    (k_InvalidPlan_InvalidPlan : PySem.W.kitOne K (.ref A_InvalidPlan) (.ref A_InvalidPlan) = some (decide (PySem.Str.ofString "InvalidPlan" = PySem.Str.ofString "InvalidPlan")))
    {cE : Value} (hgE : mg "EscapeError" = some cE)
    (x_InvalidPlan : PySem.W.exmOne K (.ref A_InvalidPlan) cE = some true)
    : ∃ fd : FuncData, (∀ (s : Shared) (v : Value), BindsTo s fd ⟨[v], []⟩ [("script", v)]) ∧ ∀ base : Heap, K.In base → base.Ns mainGlobals mg → FnQ l.prog w K mg base 9 fa fd ["script"] (spLaw K) := by
  obtain ⟨f, fd, h1, h2, h3⟩ := a_law.ex
  cases hfa.symm.trans h1
  refine ⟨fd, fun s v => ?_, fun base _ _ => ?_⟩
  · obtain ⟨oc, od, kV, doc, pm, an, cdv, ct, osl, rfl, lk, hcd⟩ := h2.ex
    exact .of_eq rfl
  have G_SMALL : ∃ t, mg "SMALL" = some (.str "abcdefghijklmnopqrstuvwxyz" t) := by
    obtain ⟨t, e⟩ := r_SMALL
    exact ⟨t, by rw [← e]; exact q_SMALL⟩
  have G_MOST_NAME : ∃ t, mg "MOST_NAME" = some (.int 8 t) := by
    obtain ⟨t, e⟩ := r_MOST_NAME
    exact ⟨t, by rw [← e]; exact q_MOST_NAME⟩
  have G_FIGURES : ∃ t, mg "FIGURES" = some (.str "0123456789" t) := by
    obtain ⟨t, e⟩ := r_FIGURES
    exact ⟨t, by rw [← e]; exact q_FIGURES⟩
  have hEm : ∀ z ∈ errs, ∀ C, mg z = some (.ref C) → PySem.W.exmOne K (.ref C) cE = some true := fun z hz C m => by
    simp only [errs, List.mem_cons, List.mem_nil_iff, or_false] at hz
    rcases hz with rfl
    · cases (E_InvalidPlan.gC.symm.trans m)
      exact x_InvalidPlan
  have hEr : ∀ z, ∀ C, mg z = some (.ref C) → z ∈ errs → ErrIs K mg z C := fun z C m hz => by
    simp only [errs, List.mem_cons, List.mem_nil_iff, or_false] at hz
    rcases hz with rfl
    · cases (E_InvalidPlan.gC.symm.trans m)
      exact I_InvalidPlan
  have ET_InvalidPlan : ErrT K mg errs "InvalidPlan" := ⟨A_InvalidPlan, E_InvalidPlan.gC, fun z C m hz => ⟨hEr z C m hz, by
    simp only [errs, List.mem_cons, List.mem_nil_iff, or_false] at hz
    rcases hz with rfl
    · cases (E_InvalidPlan.gC.symm.trans m)
      exact k_InvalidPlan_InvalidPlan
    ⟩, n_InvalidPlan⟩
  have G_beginnings_of : ∃ a, mg "beginnings_of" = some (.ref a) := by
    obtain ⟨z, _, q, _⟩ := a_beginnings_of.ex
    exact ⟨z, q⟩
  have G_can_be_built : ∃ a, mg "can_be_built" = some (.ref a) := by
    obtain ⟨z, _, q, _⟩ := a_can_be_built.ex
    exact ⟨z, q⟩
  have G_room_of_orders : ∃ a, mg "room_of_orders" = some (.ref a) := by
    obtain ⟨z, _, q, _⟩ := a_room_of_orders.ex
    exact ⟨z, q⟩
  have G_closed_orders : ∃ a, mg "closed_orders" = some (.ref a) := by
    obtain ⟨z, _, q, _⟩ := a_closed_orders.ex
    exact ⟨z, q⟩
  have G_lacking_orders : ∃ a, mg "lacking_orders" = some (.ref a) := by
    obtain ⟨z, _, q, _⟩ := a_lacking_orders.ex
    exact ⟨z, q⟩
  have G_is_forced : ∃ a, mg "is_forced" = some (.ref a) := by
    obtain ⟨z, _, q, _⟩ := a_is_forced.ex
    exact ⟨z, q⟩
  have G_pairs_kept : ∃ a, mg "pairs_kept" = some (.ref a) := by
    obtain ⟨z, _, q, _⟩ := a_pairs_kept.ex
    exact ⟨z, q⟩
  have G_follows_pairs : ∃ a, mg "follows_pairs" = some (.ref a) := by
    obtain ⟨z, _, q, _⟩ := a_follows_pairs.ex
    exact ⟨z, q⟩
  have G_size_and_lot : ∃ a, mg "size_and_lot" = some (.ref a) := by
    obtain ⟨z, _, q, _⟩ := a_size_and_lot.ex
    exact ⟨z, q⟩
  have C_is_signs := a_is_signs.cal (P := l.prog) (w := w) (base := base) fun f fd F => w_is_signs B  F
  have C_is_name := a_is_name.cal (P := l.prog) (w := w) (base := base) fun f fd F => w_is_name B C_is_signs G_SMALL G_MOST_NAME G_FIGURES F
  have C_ascends := a_ascends.cal (P := l.prog) (w := w) (base := base) fun f fd F => w_ascends B  F
  have C_is_names := a_is_names.cal (P := l.prog) (w := w) (base := base) fun f fd F => w_is_names B C_is_name C_ascends F
  have C_are_wished_orders := a_are_wished_orders.cal (P := l.prog) (w := w) (base := base) fun f fd F => w_are_wished_orders B C_ascends C_is_names F
  have C_check_wished := a_check_wished.cal (P := l.prog) (w := w) (base := base) fun f fd F => w_check_wished B C_are_wished_orders F
  have CB_check_wished := a_check_wished.calB (P := l.prog) (w := w) (base := base) fun f fd F => wx_check_wished B C_are_wished_orders E_InvalidPlan F
  have C_size_and_lot := a_size_and_lot.cal (P := l.prog) (w := w) (base := base) fun f fd F => w_size_and_lot B  F
  have C_beginnings_in := a_beginnings_in.cal (P := l.prog) (w := w) (base := base) fun f fd F => w_beginnings_in B C_size_and_lot G_size_and_lot F
  have C_beginnings_of := a_beginnings_of.cal (P := l.prog) (w := w) (base := base) fun f fd F => w_beginnings_of B C_check_wished C_beginnings_in F
  have CB_beginnings_of := a_beginnings_of.calB (P := l.prog) (w := w) (base := base) fun f fd F => wx_beginnings_of B C_beginnings_in CB_check_wished F
  have CB_can_be_built := a_can_be_built.calB (P := l.prog) (w := w) (base := base) fun f fd F => wx_can_be_built B CB_check_wished F
  have CB_room_of_orders := a_room_of_orders.calB (P := l.prog) (w := w) (base := base) fun f fd F => wx_room_of_orders B CB_check_wished F
  have CB_closed_orders := a_closed_orders.calB (P := l.prog) (w := w) (base := base) fun f fd F => wx_closed_orders B CB_check_wished F
  have CB_lacking_orders := a_lacking_orders.calB (P := l.prog) (w := w) (base := base) fun f fd F => wx_lacking_orders B CB_check_wished F
  have CB_is_forced := a_is_forced.calB (P := l.prog) (w := w) (base := base) fun f fd F => wx_is_forced B CB_check_wished F
  have CB_pairs_kept := a_pairs_kept.calB (P := l.prog) (w := w) (base := base) fun f fd F => wx_pairs_kept B CB_check_wished F
  have CB_follows_pairs := a_follows_pairs.calB (P := l.prog) (w := w) (base := base) fun f fd F => wx_follows_pairs B CB_check_wished F
  have C__law_hash := a__law_hash.cal (P := l.prog) (w := w) (base := base) fun f fd F => w_law_hash B  F
  have C__law_random := a__law_random.cal (P := l.prog) (w := w) (base := base) fun f fd F => w_law_random B C__law_hash F
  have C__law_same := w_law_same (P := l.prog) (w := w) (base := base) B a__law_same 4
  have C__law_shuffled := a__law_shuffled.cal (P := l.prog) (w := w) (base := base) fun f fd F => w_law_shuffled B C__law_random F
  have C__law_permuted := a__law_permuted.cal (P := l.prog) (w := w) (base := base) fun f fd F => w_law_permuted B  F
  have C__law_names := a__law_names.cal (P := l.prog) (w := w) (base := base) fun f fd F => w_law_names B C__law_shuffled C__law_random F
  have C__law_wished := a__law_wished.cal (P := l.prog) (w := w) (base := base) fun f fd F => w_law_wished B C__law_permuted C__law_shuffled C__law_random F
  have C__law_begun := a__law_begun.cal (P := l.prog) (w := w) (base := base) fun f fd F => w_law_begun B  F
  have C__law_no_orders := a__law_no_orders.cal (P := l.prog) (w := w) (base := base) fun f fd F => w_law_no_orders B  F
  have C__law_are_wished := a__law_are_wished.cal (P := l.prog) (w := w) (base := base) fun f fd F => w_law_are_wished B  F
  have TB : TabB l.prog w K mg base 6 tab := tabB_of fun p hp => by
    simp only [List.mem_cons, List.mem_nil_iff, or_false] at hp
    rcases hp with rfl | rfl | rfl | rfl | rfl | rfl | rfl | rfl
    · exact ⟨_, _, CB_beginnings_of.mono (by decide)⟩
    · exact ⟨_, _, CB_can_be_built.mono (by decide)⟩
    · exact ⟨_, _, CB_room_of_orders.mono (by decide)⟩
    · exact ⟨_, _, CB_closed_orders.mono (by decide)⟩
    · exact ⟨_, _, CB_lacking_orders.mono (by decide)⟩
    · exact ⟨_, _, CB_is_forced.mono (by decide)⟩
    · exact ⟨_, _, CB_pairs_kept.mono (by decide)⟩
    · exact ⟨_, _, CB_follows_pairs.mono (by decide)⟩
  have C__law_caught := a__law_caught.cal (P := l.prog) (w := w) (base := base) fun f fd F => w_law_caught B TB hgE hEm hEr ET_InvalidPlan F
  have C__law_right := a__law_right.cal (P := l.prog) (w := w) (base := base) fun f fd F => w_law_right B C__law_wished C__law_names C__law_begun C_beginnings_of C__law_same C_are_wished_orders C__law_no_orders C__law_are_wished C__law_caught G_follows_pairs G_pairs_kept G_is_forced G_lacking_orders G_closed_orders G_room_of_orders G_can_be_built G_beginnings_of F
  obtain ⟨fc, fdc, c1, c2, c3⟩ := a__law_cell.ex
  obtain ⟨fg, fdg, g1, g2, g3⟩ := a__law_generator.ex
  exact q_law B (C__law_right) ⟨fg, fdg, g1, g2, g3, q_law_generator B ⟨fc, fdc, c1, c2, c3, q_law_cell B c2⟩ g2⟩ math1 math2 h2
end K81
open PySem PySem.W PyProof.Rows
set_option maxHeartbeats 0 in
theorem PySem.Challenge.cw_escapehall_k81_whole_wished_orders_holds : PySem.Challenge.rw_escapehall_k81_whole_wished_orders.Holds := by
  w_on; o_law; k_head; (case hw => w_witness2)
  k_fill
  refine DL.walk_ofQ (l := PySem.Challenge.rw_escapehall_k81_whole_wished_orders) (n := 63) (k := 9) (x := "script") (sp := fun w => K81.spLaw _) rfl (by decide) rfl ⟨rfl, by decide, by decide⟩ (fun w h Y => PySem.W.kIn_of Y) ?F (fun _ _ a ns hl _ hS => ⟨a, ns, rfl, hS, fun _ => rfl⟩)
  case F =>
    intro w mg fa h KX G hmg
    refine' K81.all_mk hmg ⟨⟨PySem.W.mg_none_of KX G ?z0, PySem.W.mg_none_of KX G ?z1, PySem.W.mg_none_of KX G ?z2, PySem.W.mg_none_of KX G ?z3, PySem.W.mg_none_of KX G ?z4, PySem.W.mg_none_of KX G ?z5, PySem.W.mg_none_of KX G ?z6, PySem.W.mg_none_of KX G ?z7, PySem.W.mg_none_of KX G ?z8, PySem.W.mg_none_of KX G ?z9, PySem.W.mg_none_of KX G ?z10, PySem.W.mg_none_of KX G ?z11, PySem.W.mg_none_of KX G ?z12, PySem.W.mg_none_of KX G ?z13, PySem.W.mg_none_of KX G ?z14, PySem.W.mg_none_of KX G ?z15, PySem.W.mg_none_of KX G ?z16, PySem.W.mg_none_of KX G ?z17, PySem.W.mg_none_of KX G ?z18⟩, PySem.W.mg_none_of KX G ?z19, PySem.W.mg_none_of KX G ?z20, PySem.W.mg_none_of KX G ?z21⟩ (DL.at_mk KX G ?a0 ?l0 ?c0 ?k0 K81.bd_is_signs) (DL.at_mk KX G ?a1 ?l1 ?c1 ?k1 K81.bd_is_name) (DL.at_mk KX G ?a2 ?l2 ?c2 ?k2 K81.bd_ascends) (DL.at_mk KX G ?a3 ?l3 ?c3 ?k3 K81.bd_is_names) (DL.at_mk KX G ?a4 ?l4 ?c4 ?k4 K81.bd_are_wished_orders) (DL.at_mk KX G ?a5 ?l5 ?c5 ?k5 K81.bd_check_wished) (DL.at_mk KX G ?a6 ?l6 ?c6 ?k6 K81.bd_size_and_lot) (DL.at_mk KX G ?a7 ?l7 ?c7 ?k7 K81.bd_beginnings_in) (DL.at_mk KX G ?a8 ?l8 ?c8 ?k8 K81.bd_beginnings_of) (DL.at_mk KX G ?a9 ?l9 ?c9 ?k9 K81.bd_can_be_built) (DL.at_mk KX G ?a10 ?l10 ?c10 ?k10 K81.bd_room_of_orders) (DL.at_mk KX G ?a11 ?l11 ?c11 ?k11 K81.bd_closed_orders) (DL.at_mk KX G ?a12 ?l12 ?c12 ?k12 K81.bd_lacking_orders) (DL.at_mk KX G ?a13 ?l13 ?c13 ?k13 K81.bd_is_forced) (DL.at_mk KX G ?a14 ?l14 ?c14 ?k14 K81.bd_pairs_kept) (DL.at_mk KX G ?a15 ?l15 ?c15 ?k15 K81.bd_follows_pairs) (DL.at_mk KX G ?a16 ?l16 ?c16 ?k16 K81.bd_law_hash) (DL.at_mk KX G ?a17 ?l17 ?c17 ?k17 K81.bd_law_random) (DL.at_mk KX G ?a18 ?l18 ?c18 ?k18 K81.bd_law_cell) (DL.at_mk KX G ?a19 ?l19 ?c19 ?k19 K81.bd_law_generator) (DL.at_mk KX G ?a20 ?l20 ?c20 ?k20 K81.bd_law_same) (DL.at_mk KX G ?a21 ?l21 ?c21 ?k21 K81.bd_law_shuffled) (DL.at_mk KX G ?a22 ?l22 ?c22 ?k22 K81.bd_law_permuted) (DL.at_mk KX G ?a23 ?l23 ?c23 ?k23 K81.bd_law_names) (DL.at_mk KX G ?a24 ?l24 ?c24 ?k24 K81.bd_law_wished) (DL.at_mk KX G ?a25 ?l25 ?c25 ?k25 K81.bd_law_begun) (DL.at_mk KX G ?a26 ?l26 ?c26 ?k26 K81.bd_law_no_orders) (DL.at_mk KX G ?a27 ?l27 ?c27 ?k27 K81.bd_law_caught) (DL.at_mk KX G ?a28 ?l28 ?c28 ?k28 K81.bd_law_are_wished) (DL.at_mk KX G ?a29 ?l29 ?c29 ?k29 K81.bd_law_right) (DL.at_mk KX G ?a30 ?l30 ?c30 ?k30 K81.bd_law) (PySem.W.mg_of KX G ?gc0) ?rc0 (PySem.W.mg_of KX G ?gc1) ?rc1 (PySem.W.mg_of KX G ?gc2) ?rc2 (DL.errC_mk KX G ?e0g ?e0gD ?e0iC ?e0tI ?e0sup ?e0clD ?e0op ?e0top ?e0lf ?e0hcd ?e0lc ?e0hvs ?e0hfile ?e0lcc ?e0lC ?e0hbm ?e0sa ?e0ga ?e0gg ?e0noN ?e0kC ?e0exC ?e0veC ?e0tyC ?e0hdC ?e0hsub ?e0hsup) (DL.errIs_mk KX G ?i0g ?i0cl ?i0ga ?i0gg ?i0noN ?i0exC ?i0hdC ?i0ha ?i0hn ?i0ht ?i0hm) ?n0 ?k0_0 (PySem.W.mg_of KX G ?gE) ?x0
    (case a0 => k_is); (case l0 => k_is); (case c0 => k_is); (case k0 => k_is)
    (case a1 => k_is); (case l1 => k_is); (case c1 => k_is); (case k1 => k_is)
    (case a2 => k_is); (case l2 => k_is); (case c2 => k_is); (case k2 => k_is)
    (case a3 => k_is); (case l3 => k_is); (case c3 => k_is); (case k3 => k_is)
    (case a4 => k_is); (case l4 => k_is); (case c4 => k_is); (case k4 => k_is)
    (case a5 => k_is); (case l5 => k_is); (case c5 => k_is); (case k5 => k_is)
    (case a6 => k_is); (case l6 => k_is); (case c6 => k_is); (case k6 => k_is)
    (case a7 => k_is); (case l7 => k_is); (case c7 => k_is); (case k7 => k_is)
    (case a8 => k_is); (case l8 => k_is); (case c8 => k_is); (case k8 => k_is)
    (case a9 => k_is); (case l9 => k_is); (case c9 => k_is); (case k9 => k_is)
    (case a10 => k_is); (case l10 => k_is); (case c10 => k_is); (case k10 => k_is)
    (case a11 => k_is); (case l11 => k_is); (case c11 => k_is); (case k11 => k_is)
    (case a12 => k_is); (case l12 => k_is); (case c12 => k_is); (case k12 => k_is)
    (case a13 => k_is); (case l13 => k_is); (case c13 => k_is); (case k13 => k_is)
    (case a14 => k_is); (case l14 => k_is); (case c14 => k_is); (case k14 => k_is)
    (case a15 => k_is); (case l15 => k_is); (case c15 => k_is); (case k15 => k_is)
    (case a16 => k_is); (case l16 => k_is); (case c16 => k_is); (case k16 => k_is)
    (case a17 => k_is); (case l17 => k_is); (case c17 => k_is); (case k17 => k_is)
    (case a18 => k_is); (case l18 => k_is); (case c18 => k_is); (case k18 => k_is)
    (case a19 => k_is); (case l19 => k_is); (case c19 => k_is); (case k19 => k_is)
    (case a20 => k_is); (case l20 => k_is); (case c20 => k_is); (case k20 => k_is)
    (case a21 => k_is); (case l21 => k_is); (case c21 => k_is); (case k21 => k_is)
    (case a22 => k_is); (case l22 => k_is); (case c22 => k_is); (case k22 => k_is)
    (case a23 => k_is); (case l23 => k_is); (case c23 => k_is); (case k23 => k_is)
    (case a24 => k_is); (case l24 => k_is); (case c24 => k_is); (case k24 => k_is)
    (case a25 => k_is); (case l25 => k_is); (case c25 => k_is); (case k25 => k_is)
    (case a26 => k_is); (case l26 => k_is); (case c26 => k_is); (case k26 => k_is)
    (case a27 => k_is); (case l27 => k_is); (case c27 => k_is); (case k27 => k_is)
    (case a28 => k_is); (case l28 => k_is); (case c28 => k_is); (case k28 => k_is)
    (case a29 => k_is); (case l29 => k_is); (case c29 => k_is); (case k29 => k_is)
    (case a30 => k_is); (case l30 => k_is); (case c30 => k_is); (case k30 => k_is)
    (case z0 => k_is); (case z1 => k_is); (case z2 => k_is); (case z3 => k_is); (case z4 => k_is); (case z5 => k_is); (case z6 => k_is); (case z7 => k_is); (case z8 => k_is); (case z9 => k_is); (case z10 => k_is); (case z11 => k_is); (case z12 => k_is); (case z13 => k_is); (case z14 => k_is); (case z15 => k_is); (case z16 => k_is); (case z17 => k_is); (case z18 => k_is); (case z19 => k_is); (case z20 => k_is); (case z21 => k_is)
    (case gc0 => k_is)
    (case rc0 => exact ⟨_, rfl⟩)
    (case gc1 => k_is)
    (case rc1 => exact ⟨_, rfl⟩)
    (case gc2 => k_is)
    (case rc2 => exact ⟨_, rfl⟩)
    (case e0g => k_is)
    (case e0gD => k_is)
    (case e0iC => k_is)
    (case e0tI => k_is)
    (case e0sup => k_is)
    (case e0clD => k_is)
    (case e0op => k_is)
    (case e0top => rfl)
    (case e0lf => k_is)
    (case e0hcd => k_is)
    (case e0lc => k_is)
    (case e0hvs => rfl)
    (case e0hfile => rfl)
    (case e0lcc => k_is)
    (case e0lC => k_is)
    (case e0hbm => rfl)
    (case e0sa => k_is)
    (case e0ga => k_is)
    (case e0gg => k_is)
    (case e0noN => k_is)
    (case e0kC => k_is)
    (case e0exC => k_is)
    (case e0veC => k_is)
    (case e0tyC => k_is)
    (case e0hdC => k_is)
    (case e0hsub => k_is)
    (case e0hsup => ks_is)
    (case i0g => k_is)
    (case i0cl => k_is)
    (case i0ga => k_is)
    (case i0gg => k_is)
    (case i0noN => k_is)
    (case i0exC => k_is)
    (case i0hdC => k_is)
    (case i0ha => k_is)
    (case i0hn => k_is)
    (case i0ht => k_is)
    (case i0hm => k_is)
    (case n0 => kit_is)
    (case k0_0 => kit_is)
    (case gE => k_is)
    (case x0 => kts_exm)

