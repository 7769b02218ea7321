import PyProof.Rows.All
import PyProof.ReprReads
import PyProof.P3Eq
import KE.SortData
import KE.DataCmp
import Wide.All
import OpenK.AllK
import Wide.FinOn
import HandS.ForMost
import HandS.Walk
import HandS.IsInst
import HandS.Deep
import HandS.Wide
import HandS.SortOrd
import HandS.Exc
import HandS.Style
import HandS.SortInts
import HandS.WideBits
import PyProof.ZipIter
import KE.GoesEnumKw
import KE.KExcSuper
import HandS.ForExc
import KE.KExcIs
import HandS.ExcOwn
import HandS.Conv
import HandS.Ends
import HandS.SetFor
import HandS.Strs
import PySem.Challenge.RW_escapehall_k78_whole_needless_clues
/-! ## DSem -/
/-! DSem: plain data of Python as a Lean type, and what the constructs of a def do with it. No heap here. -/
set_option autoImplicit false
namespace DL
open PySem

/-- plain data -/
inductive D where
  | non | bl (b : Bool) | int (i : Int) | str (x : Str)
  | lst (xs : List D) | tup (xs : List D) | dct (kvs : List (D × D))
  | gen | fn (x : Str) | exc (c : Str) (d : D)
  /-- raised -/
  | thr (c : Str) (d : D)
  /-- read alone, of what stood at the call -/
  | bor (d : D)
  deriving Inhabited

mutual
def D.py : D → PyData
  | .non => .none
  | .bl b => .bool b
  | .int i => .int i
  | .str x => .str x
  | .lst xs => .list (pys xs)
  | .tup xs => .tuple (pys xs)
  | .dct kvs => .dict (pyKv kvs)
  | .gen => .none
  | .fn _ => .none
  | .exc _ _ => .none
  | .thr _ _ => .none
  | .bor _ => .none
def pys : List D → List PyData
  | [] => []
  | x :: xs => x.py :: pys xs
def pyKv : List (D × D) → List (PyData × PyData)
  | [] => []
  | (k, v) :: r => (k.py, v.py) :: pyKv r
end
theorem pys_map : ∀ xs : List D, pys xs = xs.map D.py
  | [] => rfl
  | x :: xs => by rw [pys, pys_map xs]; rfl

/-- data that == and repr serve: None, bools, ints, texts, lists and tuples, at most so deep -/
def D.cl : Nat → D → Bool
  | _, .non => true
  | _, .bl _ => true
  | _, .int i => decide (i.natAbs.log2 < 1920)
  | _, .str x => PyData.strOk x
  | n + 1, .lst xs => xs.all (D.cl n)
  | n + 1, .tup xs => xs.all (D.cl n)
  | _, _ => false
/-- a value that is no object -/
def D.imm : D → Bool
  | .non | .bl _ | .int _ | .str _ => true
  | _ => false
/-- an item of what is read alone -/
def wrapB (d : D) : D := if d.imm then d else .bor d
def D.isLst : D → Bool
  | .lst _ => true
  | _ => false

/-! ### what a def does: a state (the generator's three numbers), an exception, or a value; none: not said -/
abbrev Exn := Str × D
abbrev Gs := List Int
def M (α : Type) : Type := Gs → Option (Except Exn α × Gs)
def M.pure {α : Type} (a : α) : M α := fun g => some (.ok a, g)
def M.bind {α β : Type} (m : M α) (f : α → M β) : M β := fun g => match m g with
  | none => none
  | some (.error e, g') => some (.error e, g')
  | some (.ok a, g') => f a g'
instance : Monad M where
  pure := M.pure
  bind := M.bind
def stuck {α : Type} : M α := fun _ => none
def raiseM {α : Type} (c : Str) (d : D) : M α := fun g => some (.error (c, d), g)
theorem M.ext {α : Type} {m n : M α} (h : ∀ g, m g = n g) : m = n := funext h
instance : LawfulMonad M := LawfulMonad.mk' M
  (id_map := fun m => by
    funext g
    show M.bind m (fun a => M.pure a) g = m g
    unfold M.bind M.pure
    cases h : m g with
    | none => rfl
    | some r => obtain ⟨e, g'⟩ := r; cases e <;> rfl)
  (pure_bind := fun a f => rfl)
  (bind_assoc := fun m f k => by
    funext g
    show M.bind (M.bind m f) k g = M.bind m (fun a => M.bind (f a) k) g
    unfold M.bind
    cases h : m g with
    | none => rfl
    | some r => obtain ⟨e, g'⟩ := r; cases e <;> rfl)
theorem pure_def {α : Type} (a : α) : (pure a : M α) = M.pure a := rfl
theorem bind_def {α β : Type} (m : M α) (f : α → M β) : (m >>= f) = M.bind m f := rfl
theorem stuck_bind {α β : Type} (f : α → M β) : (stuck >>= f) = (stuck : M β) := rfl
/-- ok at a state -/
def Ok {α : Type} (m : M α) (g : Gs) (a : α) (g' : Gs) : Prop := m g = some (.ok a, g')
theorem ok_pure {α : Type} {a b : α} {g g' : Gs} : Ok (pure a) g b g' ↔ a = b ∧ g = g' := by
  show (some (Except.ok a, g) : Option (Except Exn α × Gs)) = some (.ok b, g') ↔ _
  constructor
  · intro h; cases h; exact ⟨rfl, rfl⟩
  · rintro ⟨rfl, rfl⟩; rfl
theorem ok_bind {α β : Type} {m : M α} {f : α → M β} {g g2 : Gs} {b : β} : Ok (m >>= f) g b g2 ↔ ∃ a g1, Ok m g a g1 ∧ Ok (f a) g1 b g2 := by
  show M.bind m f g = _ ↔ _
  unfold M.bind Ok
  cases h : m g with
  | none => constructor
            · intro q; cases q
            · rintro ⟨_, _, q, _⟩; cases q
  | some r =>
    obtain ⟨e, g'⟩ := r
    cases e with
    | error e => constructor
                 · intro q; cases q
                 · rintro ⟨_, _, q, _⟩; cases q
    | ok a => constructor
              · intro q; exact ⟨a, g', rfl, q⟩
              · rintro ⟨_, _, q, z⟩; cases q; exact z
theorem not_ok_stuck {α : Type} {g g' : Gs} {a : α} : ¬ Ok (stuck : M α) g a g' := fun h => by cases h

/-! ### values -/
def lim (n : Nat) : Bool := decide (n ≤ 16777216)
def big (i : Int) : Nat := i.natAbs.log2
def liftB (b : Option Bool) : M D := match b with
  | some b => pure (.bl b)
  | none => stuck

/-- a text's order -/
def strLt (x y : Str) : Bool := decide (x.cps.toList < y.cps.toList)

/-- == -/
def dEqB (d e : D) : Option Bool := match d, e with
  | .str x, .str y => some (decide (x = y))
  | .int i, .int j => some (decide (i = j))
  | .bl a, .bl b => some (decide (a = b))
  | d, e => if d.cl 60 && e.cl 60 then some (PyData.eqv d.py e.py) else none
def dEq (d e : D) : M D := liftB (dEqB d e)
def dNe (d e : D) : M D := liftB ((dEqB d e).map (!·))
def dIs (d : D) : M D := match d with
  | .non => pure (.bl true)
  | .fn _ | .gen | .exc _ _ => pure (.bl false)
  | _ => pure (.bl false)
def dIsNot (d : D) : M D := match d with
  | .non => pure (.bl false)
  | _ => pure (.bl true)

def dAdd (d e : D) : M D := match d, e with
  | .int i, .int j => pure (.int (i + j))
  | .str x, .str y => if lim (x.length + y.length) then pure (.str (x ++ y)) else stuck
  | .lst xs, .lst ys => if lim (xs.length + ys.length) then pure (.lst (xs ++ ys)) else stuck
  | _, _ => stuck
def dSub (d e : D) : M D := match d, e with
  | .int i, .int j => pure (.int (i - j))
  | _, _ => stuck
def dMul (d e : D) : M D := match d, e with
  | .int i, .int j => if big i + big j < 1000000 then pure (.int (i * j)) else stuck
  | .lst xs, .int k => if 0 ≤ k ∧ k < 1000000 ∧ lim (xs.length * k.toNat) = true then pure (.lst (List.replicate k.toNat xs).flatten) else stuck
  | _, _ => stuck
def dFdiv (d e : D) : M D := match d, e with
  | .int i, .int j => if 0 < j ∧ big j < 9000 then pure (.int (i / j)) else stuck
  | _, _ => stuck
def dMod (d e : D) : M D := match d, e with
  | .int i, .int j => if 0 < j then pure (.int (i % j)) else stuck
  | _, _ => stuck
def D.isNon : D → Bool
  | .non => true
  | .bor d => d.isNon
  | _ => false
def cmpB (d e : D) : Bool := d.cl 60 && e.cl 60 && PySem.W.alike d.py e.py && !d.isNon
def dLt (d e : D) : M D := match d, e with
  | .int i, .int j => pure (.bl (decide (i < j)))
  | d, e => if cmpB d e then pure (.bl (PySem.W.dataLt d.py e.py)) else stuck
def dLe (d e : D) : M D := match d, e with
  | .int i, .int j => pure (.bl (decide (i ≤ j)))
  | d, e => if cmpB d e then pure (.bl (!PySem.W.dataLt e.py d.py)) else stuck
def dGt (d e : D) : M D := match d, e with
  | .int i, .int j => pure (.bl (decide (j < i)))
  | d, e => if cmpB d e then pure (.bl (PySem.W.dataLt e.py d.py)) else stuck
def dGe (d e : D) : M D := match d, e with
  | .int i, .int j => pure (.bl (decide (j ≤ i)))
  | d, e => if cmpB d e then pure (.bl (!PySem.W.dataLt d.py e.py)) else stuck
def dNot (d : D) : M D := match d with
  | .bl b => pure (.bl (!b))
  | _ => stuck
def dAbs (d : D) : M D := match d with
  | .int i => pure (.int (if i < 0 then -i else i))
  | _ => stuck
def dLen (d : D) : M D := match d with
  | .lst xs => pure (.int xs.length)
  | .tup xs => pure (.int xs.length)
  | .str x => if lim x.length then pure (.int x.length) else stuck
  | _ => stuck

/-- a place in a row of n -/
def place (n : Nat) (i : Int) : Option Nat := if 0 ≤ i then (if i < n then some i.toNat else none) else if -(n : Int) ≤ i then some (i + n).toNat else none
def dIx (d e : D) : M D := match d, e with
  | .lst xs, .int i => match (place xs.length i).bind fun j => xs[j]? with
    | some v => pure v
    | none => stuck
  | .tup xs, .int i => match (place xs.length i).bind fun j => xs[j]? with
    | some v => pure v
    | none => stuck
  | _, _ => stuck
/-- a slice's end -/
def cutEnd (n d : Nat) : Option Int → Nat
  | none => d
  | some i => if i < 0 then (i + n).toNat else min i.toNat n
def cut {α : Type} (xs : List α) (lo hi : Option Int) : List α := (xs.drop (cutEnd xs.length 0 lo)).take (cutEnd xs.length xs.length hi - cutEnd xs.length 0 lo)
def dCut (d : D) (lo hi : Option Int) : M D := match d with
  | .lst xs => pure (.lst (cut xs lo hi))
  | _ => stuck
def dRev (d : D) : M D := match d with
  | .lst xs => pure (.lst xs.reverse)
  | _ => stuck

/-- x in xs -/
def inB (x : D) (ys : List D) : Option Bool :=
  if x.imm && ys.all D.imm then some (ys.any fun y => PyData.eqv y.py x.py)
  else if x.cl 60 && ys.all (D.cl 59) then some (ys.any fun y => PyData.eqv y.py x.py) else none
def dIn (x d : D) : M D := match d with
  | .lst ys => liftB (inB x ys)
  | .tup ys => if x.imm && ys.all D.imm then liftB (inB x ys) else stuck
  | _ => stuck
def dNotIn (x d : D) : M D := match d with
  | .lst ys => liftB ((inB x ys).map (!·))
  | .tup ys => if x.imm && ys.all D.imm then liftB ((inB x ys).map (!·)) else stuck
  | _ => stuck

/-- isinstance(d, T), T by its name -/
def D.ty : D → Option String
  | .non => some "NoneType"
  | .bl _ => some "bool"
  | .int _ => some "int"
  | .str _ => some "str"
  | .lst _ => some "list"
  | .tup _ => some "tuple"
  | .dct _ => some "dict"
  | _ => none
def isTy (d : D) (t : String) : Bool := match d, t with
  | .bl _, "bool" => true
  | .bl _, "int" => true
  | .int _, "int" => true
  | .str _, "str" => true
  | .lst _, "list" => true
  | .tup _, "tuple" => true
  | .dct _, "dict" => true
  | _, _ => false
def dIsI (d : D) (t : String) : M D := match d.ty with
  | some _ => pure (.bl (isTy d t))
  | none => stuck
def dIsI2 (d : D) (t u : String) : M D := match d.ty with
  | some _ => pure (.bl (isTy d t || isTy d u))
  | none => stuck

def bools? : List D → Option (List Bool)
  | [] => some []
  | .bl b :: r => (bools? r).map (b :: ·)
  | _ :: _ => none
def ints? : List D → Option (List Int)
  | [] => some []
  | .int i :: r => (ints? r).map (i :: ·)
  | _ :: _ => none
def strs? : List D → Option (List Str)
  | [] => some []
  | .str x :: r => (strs? r).map (x :: ·)
  | _ :: _ => none
def dAll (d : D) : M D := match d with
  | .lst xs => match bools? xs with
    | some bs => pure (.bl (bs.all id))
    | none => stuck
  | _ => stuck
def dAny (d : D) : M D := match d with
  | .lst xs => match bools? xs with
    | some bs => pure (.bl (bs.any id))
    | none => stuck
  | _ => stuck
def dSum (d : D) : M D := match d with
  | .lst xs => match ints? xs with
    | some ns => pure (.int ns.sum)
    | none => stuck
  | _ => stuck
def dList (d : D) : M D := match d with
  | .lst xs => pure (.lst xs)
  | .tup xs => pure (.lst xs)
  | _ => stuck
def dTuple (d : D) : M D := match d with
  | .lst xs => pure (.tup xs)
  | .tup xs => pure (.tup xs)
  | _ => stuck
/-- the place of the first like one -/
def idxOf? (x : D) : List D → Option Nat
  | [] => none
  | y :: ys => if PyData.eqv y.py x.py then some 0 else (idxOf? x ys).map (· + 1)
def dIndex (d x : D) : M D := match d with
  | .lst ys => if x.imm && ys.all D.imm then (match idxOf? x ys with
    | some j => pure (.int j)
    | none => stuck) else stuck
  | _ => stuck
def D.rp (d : D) : Bool := match d with
  | .dct [] => true
  | d => d.cl 60
def dRepr (d : D) : M D := if d.rp && lim d.py.shown.length then pure (.str d.py.shown) else stuck

/-- a flat list that is read alone -/
def dUnB (d : D) : M D := match d with
  | .bor (.lst xs) => if xs.all D.imm then pure (.lst xs) else stuck
  | d => pure d

/-! ### order, of data of one kind -/
/-- not greater -/
def leD (a b : D) : Bool := !PySem.W.dataLt b.py a.py
def D.tupled : D → Bool
  | .tup (_ :: _) => true
  | _ => false
def D.plainK : D → Bool
  | .non => false
  | .tup _ => false
  | _ => true
def sortableB (xs : List D) : Bool := (xs.all fun a => a.cl 60) && (xs.all fun a => xs.all fun b => PySem.W.alike a.py b.py) && (xs.all D.tupled || xs.all D.plainK)
def dSorted (d : D) : M D := match d with
  | .lst xs => if sortableB xs then pure (.lst (xs.mergeSort leD)) else stuck
  | _ => stuck

/-! ### slots -/
inductive Sl where
  | no
  | val (d : D)
  | own (xs : List D)
abbrev Dlt := List Sl
abbrev E := Dlt → M D
abbrev Es := Dlt → M (List D)
def wipeD (δ : Dlt) : List Nat → Dlt
  | [] => δ
  | i :: r => (wipeD δ r).set i .no
def eK (d : D) : E := fun _ => pure d
def eV (i : Nat) : E := fun δ => match δ[i]? with
  | some (.val d) => pure d
  | some (.own xs) => pure (.lst xs)
  | _ => stuck
def eF (f : D → M D) (a : E) : E := fun δ => a δ >>= f
def eO (f : D → D → M D) (a b : E) : E := fun δ => a δ >>= fun x => b δ >>= fun y => f x y
def esN : Es := fun _ => pure []
def esC (a : E) (r : Es) : Es := fun δ => a δ >>= fun x => r δ >>= fun xs => pure (x :: xs)
def eLst (es : Es) : E := fun δ => es δ >>= fun xs => if lim xs.length then pure (.lst xs) else stuck
def eTup (es : Es) : E := fun δ => es δ >>= fun xs => if lim xs.length then pure (.tup xs) else stuck
def eCall (f : List D → M D) (es : Es) : E := fun δ => es δ >>= f
def eAnd (a b : E) : E := fun δ => a δ >>= fun x => match x with
  | .bl true => b δ
  | .bl false => pure (.bl false)
  | _ => stuck
def eOr (a b : E) : E := fun δ => a δ >>= fun x => match x with
  | .bl false => b δ
  | .bl true => pure (.bl true)
  | _ => stuck
def eIf (c a b : E) : E := fun δ => c δ >>= fun x => match x with
  | .bl true => a δ
  | .bl false => b δ
  | _ => stuck
/-- an end of a slice -/
def eNo : Dlt → M (Option Int) := fun _ => pure none
def eAt (a : E) : Dlt → M (Option Int) := fun δ => a δ >>= fun x => match x with
  | .int i => pure (some i)
  | _ => stuck
def eCut (a : E) (lo hi : Dlt → M (Option Int)) : E := fun δ => a δ >>= fun x => lo δ >>= fun l => hi δ >>= fun h => dCut x l h

/-! ### targets, sources, comprehensions -/
abbrev G := D → Dlt → Option Dlt
def gN (i : Nat) : G := fun d δ => some (δ.set i (.val d))
def gGo : List G → List D → Dlt → Option Dlt
  | [], [], δ => some δ
  | g :: gs, d :: ds, δ => (g d δ).bind fun δ' => gGo gs ds δ'
  | _, _, _ => none
def gT (gs : List G) : G := fun d δ => match d with
  | .tup ds => gGo gs ds δ
  | _ => none
def liftG (o : Option Dlt) : M Dlt := match o with
  | some δ => pure δ
  | none => stuck
def rowOf (d : D) : M (List D) := match d with
  | .lst xs => pure xs
  | .bor (.lst xs) => pure (xs.map wrapB)
  | _ => stuck
def rowOfT (d : D) : M (List D) := match d with
  | .tup xs => pure xs
  | _ => stuck
def xL (a : E) : Es := fun δ => a δ >>= rowOf
def xT (a : E) : Es := fun δ => a δ >>= rowOfT
def xR (a : E) : Es := fun δ => a δ >>= fun x => match x with
  | .int j => if -1000000 < j ∧ j < 1000000 then pure ((List.range j.toNat).map fun k => .int (k : Nat)) else stuck
  | _ => stuck
def xR2 (a b : E) : Es := fun δ => a δ >>= fun x => b δ >>= fun y => match x, y with
  | .int i, .int j => if -1000000 < i ∧ i < 1000000 ∧ -1000000 < j ∧ j < 1000000 then pure ((List.range (j - i).toNat).map fun k => .int (i + (k : Nat))) else stuck
  | _, _ => stuck
def numFrom : Nat → List D → List D
  | _, [] => []
  | n, x :: xs => .tup [.int n, x] :: numFrom (n + 1) xs
def xE (a : E) : Es := fun δ => a δ >>= fun x => match x with
  | .lst xs => pure (numFrom 0 xs)
  | _ => stuck
def xV (a : E) : Es := fun δ => a δ >>= fun x => match x with
  | .lst xs => pure xs.reverse
  | _ => stuck
def zip2 : List D → List D → List D
  | x :: xs, y :: ys => .tup [x, y] :: zip2 xs ys
  | _, _ => []
def zip3 : List D → List D → List D → List D
  | x :: xs, y :: ys, z :: zs => .tup [x, y, z] :: zip3 xs ys zs
  | _, _, _ => []
def xZ (a b : E) : Es := fun δ => a δ >>= fun x => b δ >>= fun y => match x, y with
  | .lst xs, .lst ys => pure (zip2 xs ys)
  | _, _ => stuck
/-- strict: of one length -/
def xZs (a b : E) : Es := fun δ => a δ >>= fun x => b δ >>= fun y => match x, y with
  | .lst xs, .lst ys => if xs.length = ys.length then pure (zip2 xs ys) else stuck
  | _, _ => stuck
def xZ3 (a b c : E) : Es := fun δ => a δ >>= fun x => b δ >>= fun y => c δ >>= fun z => match x, y, z with
  | .lst xs, .lst ys, .lst zs => pure (zip3 xs ys zs)
  | _, _, _ => stuck
def lcGo (g : G) (tt te : E) (δ : Dlt) : List D → M (List D)
  | [] => pure []
  | x :: xs => liftG (g x δ) >>= fun δ' => tt δ' >>= fun b => match b with
    | .bl true => te δ' >>= fun y => lcGo g tt te δ xs >>= fun ys => pure (y :: ys)
    | .bl false => lcGo g tt te δ xs
    | _ => stuck
def eLc (vs : List Nat) (g : G) (src : Es) (tt te : E) : E := fun δ => src δ >>= fun xs => lcGo g tt te (wipeD δ vs) xs >>= fun ys => if lim ys.length then pure (.lst ys) else stuck
def lc2Go (g : G) (tt : E) (in1 : Es) (δ : Dlt) : List D → M (List D)
  | [] => pure []
  | x :: xs => liftG (g x δ) >>= fun δ' => tt δ' >>= fun b => match b with
    | .bl true => in1 δ' >>= fun zs => lc2Go g tt in1 δ xs >>= fun ys => pure (zs ++ ys)
    | .bl false => lc2Go g tt in1 δ xs
    | _ => stuck
def eLc2 (vs vs1 : List Nat) (g : G) (src : Es) (tt : E) (g1 : G) (src1 : Es) (tt1 te : E) : E := fun δ => src δ >>= fun xs =>
  lc2Go g tt (fun δ' => src1 δ' >>= fun zs => lcGo g1 tt1 te (wipeD δ' vs1) zs) (wipeD δ vs) xs >>= fun ys => if lim ys.length then pure (.lst ys) else stuck

/-! ### statements -/
inductive Fl where
  | nx (δ : Dlt)
  | rt (d : D)
  | bk (δ : Dlt)
  | ct (δ : Dlt)
abbrev S := Dlt → M Fl
def sSkip : S := fun δ => pure (.nx δ)
def sSeq (a b : S) : S := fun δ => a δ >>= fun r => match r with
  | .nx δ' => b δ'
  | r => pure r
def sAsg (g : G) (e : E) : S := fun δ => e δ >>= fun d => liftG (g d δ) >>= fun δ' => pure (.nx δ')
/-- a new list of one's own: x = [..], x = list(..) -/
def sOwn (i : Nat) (e : E) : S := fun δ => e δ >>= fun d => match d with
  | .lst xs => pure (.nx (δ.set i (.own xs)))
  | _ => stuck
/-- a list of one's own is shared from here on -/
def sFrz (i : Nat) : S := fun δ => match δ[i]? with
  | some (.own xs) => pure (.nx (δ.set i (.val (.lst xs))))
  | _ => stuck
/-- x.append(e) -/
def sApp (i : Nat) (e : E) : S := fun δ => e δ >>= fun d => match δ[i]? with
  | some (.own xs) => if lim (xs.length + 1) then pure (.nx (δ.set i (.own (xs ++ [d])))) else stuck
  | _ => stuck
def sPar (i j : Nat) (a b : E) : S := fun δ => a δ >>= fun x => b δ >>= fun y => pure (.nx ((δ.set i (.val x)).set j (.val y)))
def sIf (c : E) (a b : S) : S := fun δ => c δ >>= fun x => match x with
  | .bl true => a δ
  | .bl false => b δ
  | _ => stuck
def sRet (e : E) : S := fun δ => e δ >>= fun d => pure (.rt d)
def sRetN : S := fun _ => pure (.rt .non)
def sDo (e : E) : S := fun δ => e δ >>= fun _ => pure (.nx δ)
def sRaise (c : Str) (e : E) : S := fun δ => e δ >>= fun d => raiseM c d
def sBreak : S := fun δ => pure (.bk δ)
def sCont : S := fun δ => pure (.ct δ)
def forGo (g : G) (body : S) : List D → Dlt → M Fl
  | [], δ => pure (.nx δ)
  | x :: xs, δ => liftG (g x δ) >>= fun δ1 => body δ1 >>= fun r => match r with
    | .nx δ' => forGo g body xs δ'
    | .ct δ' => forGo g body xs δ'
    | .bk δ' => pure (.nx δ')
    | .rt d => pure (.rt d)
def sFor (g : G) (src : Es) (body : S) : S := fun δ => src δ >>= fun xs => forGo g body xs δ
def whGo (c : E) (body : S) : Nat → Dlt → M Fl
  | 0, _ => stuck
  | n + 1, δ => c δ >>= fun x => match x with
    | .bl true => body δ >>= fun r => match r with
      | .nx δ' => whGo c body n δ'
      | .ct δ' => whGo c body n δ'
      | .bk δ' => pure (.nx δ')
      | .rt d => pure (.rt d)
    | .bl false => pure (.nx δ)
    | _ => stuck
def sWh (n : Nat) (c : E) (body : S) : S := fun δ => whGo c body n δ
/-- a def: its slots, its parameters' number, its body -/
def startD (n : Nat) (ds : List D) : Dlt := ds.map Sl.val ++ List.replicate (n - ds.length) .no
def fn (n : Nat) (p : Nat) (body : S) : List D → M D := fun ds => if ds.length = p then (body (startD n ds) >>= fun r => match r with
  | .nx _ => pure .non
  | .rt d => pure d
  | _ => stuck) else stuck
end DL

/-! ## DCore -/
set_option Elab.async false
set_option autoImplicit false
set_option linter.all false
set_option maxRecDepth 100000
set_option maxHeartbeats 2000000
/-! DCore: plain data on the abstract heap; steps; readings that speak of plain data alone. -/
namespace DL
open PySem PySem.Spec PyProof.Rows L2

/-- where one stands: the written part, the module's names, the generator's address -/
structure C where
  K : PySem.W.Frag
  mg : Str → Option Value
  ga : Option Addr
  bo : Hp

/-- at a: an error of the class at C that has been caught, its dict at dd -/
def exq (a C dd : Addr) : HO := .ext fun h => ∃ (oe : Obj) (vs : Array Value), h.get? a = some oe ∧ Zc (.ref C) (some dd) oe ∧ oe.data = .fields vs
mutual
/-- the value v stands for the datum d, by the objects of F alone -/
inductive Rep (c : C) : Hp → V → D → Prop
  | non {F : Hp} : Rep c F .non .non
  | bl {F : Hp} (b : Bool) : Rep c F (.bl b) (.bl b)
  | int {F : Hp} (i : Int) : Rep c F (.int i) (.int i)
  | str {F : Hp} (x : Str) : Rep c F (.str x) (.str x)
  | lst {F : Hp} {a : Addr} {vs : List V} {ds : List D} : F a = some (.lst vs) → RepAll c F vs ds → Rep c F (.ref a) (.lst ds)
  | tup {F : Hp} {a : Addr} {vs : List V} {ds : List D} : F a = some (.tup vs) → RepAll c F vs ds → Rep c F (.ref a) (.tup ds)
  | dct0 {F : Hp} {a : Addr} : F a = some (.dK []) → Rep c F (.ref a) (.dct [])
  | gen {F : Hp} {a : Addr} : c.ga = some a → Rep c F (.ref a) .gen
  | fn {F : Hp} {a : Addr} {x : Str} : c.mg x = some (.ref a) → Rep c F (.ref a) (.fn x)
  | exc {F : Hp} {a C dd : Addr} {x : Str} {u : V} {d : D} : c.mg x = some (.ref C) → F a = some (exq a C dd) → F dd = some (.xd [(PySem.Str.ofString "value", u)]) → Rep c F u d → Rep c F (.ref a) (.exc x d)
  | bor {F : Hp} {v : V} {d : D} : Rep c c.bo v d → Rep c F v (.bor d)
inductive RepAll (c : C) : Hp → List V → List D → Prop
  | nil {F : Hp} : RepAll c F [] []
  | cons {F : Hp} {v : V} {vs : List V} {d : D} {ds : List D} : Rep c F v d → RepAll c F vs ds → RepAll c F (v :: vs) (d :: ds)
end
section
variable {c : C} {F F' H H' : Hp}
mutual
theorem Rep.mono (s : Same F F') : ∀ (d : D) (v : V), Rep c F v d → Rep c F' v d
  | .non, _, h => by cases h; exact .non
  | .bl b, _, h => by cases h; exact .bl b
  | .int i, _, h => by cases h; exact .int i
  | .str x, _, h => by cases h; exact .str x
  | .lst ds, _, h => by
    cases h with
    | lst e q => exact .lst (s _ _ e) (RepAll.mono s ds _ q)
  | .tup ds, _, h => by
    cases h with
    | tup e q => exact .tup (s _ _ e) (RepAll.mono s ds _ q)
  | .dct kvs, _, h => by
    cases h with
    | dct0 e => exact .dct0 (s _ _ e)
  | .gen, _, h => by
    cases h with
    | gen e => exact .gen e
  | .fn x, _, h => by
    cases h with
    | fn e => exact .fn e
  | .exc _ d, _, h => by
    cases h with
    | exc e1 e2 e3 q => exact .exc e1 (s _ _ e2) (s _ _ e3) (Rep.mono s d _ q)
  | .thr _ _, _, h => by cases h
  | .bor d, _, h => by
    cases h with
    | bor q => exact .bor q
theorem RepAll.mono (s : Same F F') : ∀ (ds : List D) (vs : List V), RepAll c F vs ds → RepAll c F' vs ds
  | [], _, h => by cases h; exact .nil
  | d :: ds, _, h => by
    cases h with
    | cons q r => exact .cons (Rep.mono s d _ q) (RepAll.mono s ds _ r)
end
theorem Rep.up (s : Same F F') {d : D} {v : V} (h : Rep c F v d) : Rep c F' v d := Rep.mono s d v h
theorem RepAll.up (s : Same F F') {ds : List D} {vs : List V} (h : RepAll c F vs ds) : RepAll c F' vs ds := RepAll.mono s ds vs h
theorem RepAll.length : ∀ {vs : List V} {ds : List D}, RepAll c F vs ds → vs.length = ds.length
  | _, _, .nil => rfl
  | _, _, .cons _ t => by simp [RepAll.length t]
theorem RepAll.append : ∀ {vs us : List V} {ds es : List D}, RepAll c F vs ds → RepAll c F us es → RepAll c F (vs ++ us) (ds ++ es)
  | _, _, _, _, .nil, s => s
  | _, _, _, _, .cons r t, s => .cons r (RepAll.append t s)
theorem RepAll.get : ∀ {vs : List V} {ds : List D} {i : Nat} {d : D}, RepAll c F vs ds → ds[i]? = some d → ∃ v, vs[i]? = some v ∧ Rep c F v d
  | _, _, _, _, .nil, e => by simp at e
  | _, _, 0, _, .cons r _, e => by simp at e; subst e; exact ⟨_, rfl, r⟩
  | _, _, i + 1, d, .cons _ t, e => by
    obtain ⟨v, h1, h2⟩ := RepAll.get (i := i) (d := d) t (by simpa using e)
    exact ⟨v, by simpa using h1, h2⟩
theorem RepAll.getV : ∀ {vs : List V} {ds : List D} {i : Nat} {v : V}, RepAll c F vs ds → vs[i]? = some v → ∃ d, ds[i]? = some d ∧ Rep c F v d
  | _, _, _, _, .nil, e => by simp at e
  | _, _, 0, _, .cons r _, e => by simp at e; subst e; exact ⟨_, rfl, r⟩
  | _, _, i + 1, d, .cons _ t, e => by
    obtain ⟨v, h1, h2⟩ := RepAll.getV (i := i) (v := d) t (by simpa using e)
    exact ⟨v, by simpa using h1, h2⟩
theorem RepAll.take : ∀ {vs : List V} {ds : List D} (n : Nat), RepAll c F vs ds → RepAll c F (vs.take n) (ds.take n)
  | _, _, 0, _ => by simp; exact .nil
  | _, _, _ + 1, .nil => .nil
  | _, _, n + 1, .cons r t => .cons r (RepAll.take n t)
theorem RepAll.drop : ∀ {vs : List V} {ds : List D} (n : Nat), RepAll c F vs ds → RepAll c F (vs.drop n) (ds.drop n)
  | _, _, 0, r => r
  | _, _, _ + 1, .nil => .nil
  | _, _, n + 1, .cons _ t => RepAll.drop n t
theorem RepAll.reverse {vs : List V} {ds : List D} (h : RepAll c F vs ds) : RepAll c F vs.reverse ds.reverse := by
  induction vs generalizing ds with
  | nil => cases h; exact .nil
  | cons v vs ih =>
    cases h with
    | cons r t =>
      rw [List.reverse_cons, List.reverse_cons]
      exact (ih t).append (.cons r .nil)
theorem RepAll.ints : ∀ ns : List Int, RepAll c F (ns.map V.int) (ns.map D.int)
  | [] => .nil
  | n :: ns => .cons (.int n) (RepAll.ints ns)
theorem RepAll.ofInts : ∀ {ns : List Int} {vs : List V}, RepAll c F vs (ns.map D.int) → vs = ns.map V.int
  | [], _, h => by cases h; rfl
  | n :: ns, _, h => by
    cases h with
    | cons r t => cases r; rw [RepAll.ofInts t]; rfl
theorem ints_map : ∀ {xs : List D} {ns : List Int}, ints? xs = some ns → xs = ns.map D.int
  | [], _, h => by cases h; rfl
  | .int i :: r, _, h => by
    unfold ints? at h
    obtain ⟨ms, e, rfl⟩ := Option.map_eq_some_iff.mp h
    rw [ints_map e]
    rfl
theorem bools_map : ∀ {xs : List D} {ns : List Bool}, bools? xs = some ns → xs = ns.map D.bl
  | [], _, h => by cases h; rfl
  | .bl i :: r, _, h => by
    unfold bools? at h
    obtain ⟨ms, e, rfl⟩ := Option.map_eq_some_iff.mp h
    rw [bools_map e]
    rfl
theorem RepAll.ofBools : ∀ {ns : List Bool} {vs : List V}, RepAll c F vs (ns.map D.bl) → vs = ns.map V.bl
  | [], _, h => by cases h; rfl
  | n :: ns, _, h => by
    cases h with
    | cons r t => cases r; rw [RepAll.ofBools t]; rfl
end

/-- the generator's list -/
structure GenOk (c : C) (F H : Hp) (g : Gs) : Prop where
  gen : ∀ a, c.ga = some a → F a = none ∧ H a = some (.lst (g.map V.int))
  bo : Same c.bo H
  nb : ∀ a, c.ga = some a → c.bo a = none
/-- from (F, H) on: what was relied on stands, what was tracked stands but for the generator, what is newly relied on is new -/
structure Stp (c : C) (F H F' H' : Hp) (g : Gs) : Prop where
  sub : Same F F'
  ext : ∀ a o, c.ga ≠ some a → H a = some o → H' a = some o
  new : ∀ a, F' a ≠ none → F a = none → H a = none
  le : Same F' H'
  gen : GenOk c F' H' g
section
variable {c : C} {F H F1 H1 F2 H2 : Hp} {g g1 g2 : Gs}
theorem Stp.refl (le : Same F H) (gen : GenOk c F H g) : Stp c F H F H g := ⟨Same.refl F, fun _ _ _ e => e, fun _ h1 h2 => absurd h2 h1, le, gen⟩
theorem Stp.trans (x : Stp c F H F1 H1 g1) (y : Stp c F1 H1 F2 H2 g2) : Stp c F H F2 H2 g2 := by
  refine ⟨x.sub.trans y.sub, fun a o n e => y.ext a o n (x.ext a o n e), fun a h1 h2 => ?_, y.le, y.gen⟩
  by_cases h : F1 a = none
  · have q := y.new a h1 h
    cases e : H a with
    | none => rfl
    | some o =>
      by_cases n : c.ga = some a
      · exact absurd (y.gen.gen a n).1 h1
      · rw [x.ext a o n e] at q; cases q
  · exact x.new a h h2
/-- a new object is laid and relied on -/
theorem Stp.lay {p : Addr} {o : HO} (le : Same F H) (gen : GenOk c F H g) (hp : H p = none) : Stp c F H (upd F p o) (upd H p o) g := by
  have fp : F p = none := by
    cases e : F p with
    | none => rfl
    | some u => rw [le p u e] at hp; cases hp
  refine ⟨fun b u e => ?_, fun a u _ e => ?_, fun a h1 h2 => ?_, fun b u e => ?_, ⟨fun a n => ?_, fun b u e => by rw [upd_ne (ne_of_none (gen.bo b u e) hp)]; exact gen.bo b u e, gen.nb⟩⟩
  · rw [upd_ne (ne_of_none e fp)]; exact e
  · rw [upd_ne (ne_of_none e hp)]; exact e
  · by_cases h : a = p
    · rw [h]; exact hp
    · rw [upd_ne h] at h1; exact absurd h2 h1
  · by_cases h : b = p
    · subst h; rw [upd_same] at e ⊢; exact e
    · rw [upd_ne h] at e ⊢; exact le b u e
  · obtain ⟨q1, q2⟩ := gen.gen a n
    have h : a ≠ p := ne_of_none q2 hp
    rw [upd_ne h, upd_ne h]; exact ⟨q1, q2⟩
/-- a new object is laid, not relied on -/
theorem Stp.tmp {p : Addr} {o : HO} (le : Same F H) (gen : GenOk c F H g) (hp : H p = none) : Stp c F H F (upd H p o) g := by
  refine ⟨Same.refl F, fun a u _ e => ?_, fun a h1 h2 => absurd h2 h1, fun b u e => ?_, ⟨fun a n => ?_, fun b u e => by rw [upd_ne (ne_of_none (gen.bo b u e) hp)]; exact gen.bo b u e, gen.nb⟩⟩
  · rw [upd_ne (ne_of_none e hp)]; exact e
  · rw [upd_ne (ne_of_none (le b u e) hp)]; exact le b u e
  · obtain ⟨q1, q2⟩ := gen.gen a n
    have h : a ≠ p := ne_of_none q2 hp
    rw [upd_ne h]; exact ⟨q1, q2⟩
end

/-- a value that is read now: relied on, or a list of one's own whose items are relied on -/
def RepB (c : C) (F H : Hp) (v : V) (d : D) : Prop := Rep c F v d ∨ ∃ a vs ds, v = .ref a ∧ d = .lst ds ∧ H a = some (.lst vs) ∧ c.ga ≠ some a ∧ RepAll c F vs ds
theorem RepB.step {c : C} {F H F' H' : Hp} {g : Gs} {v : V} {d : D} (r : RepB c F H v d) (s : Stp c F H F' H' g) : RepB c F' H' v d := by
  rcases r with r | ⟨a, vs, ds, e1, e2, e3, e4, r⟩
  · exact .inl (r.up s.sub)
  · exact .inr ⟨a, vs, ds, e1, e2, s.ext _ _ e4 e3, e4, r.up s.sub⟩
theorem Rep.b {c : C} {F H : Hp} {v : V} {d : D} (r : Rep c F v d) : RepB c F H v d := .inl r
/-- the list that is read -/
theorem RepB.lst {c : C} {F H : Hp} {v : V} {ds : List D} (r : RepB c F H v (.lst ds)) (le : Same F H) : ∃ a vs, v = .ref a ∧ H a = some (.lst vs) ∧ RepAll c F vs ds := by
  rcases r with r | ⟨a, vs, ds', e1, e2, e3, e4, r⟩
  · cases r with
    | lst e q => exact ⟨_, _, rfl, le _ _ e, q⟩
  · cases e2
    exact ⟨a, vs, e1, e3, r⟩
theorem RepB.rep {c : C} {F H : Hp} {v : V} {d : D} (r : RepB c F H v d) (h : d.isLst = false) : Rep c F v d := by
  rcases r with r | ⟨a, vs, ds', e1, e2, e3, e4, r⟩
  · exact r
  · subst e2; cases h

/-- the slots and the heap at a place of a def that was entered at H0 -/
structure Wd (c : C) (H0 F H : Hp) (σ : L2.St) (δ : Dlt) (g : Gs) : Prop where
  le : Same F H
  gen : GenOk c F H g
  len : δ.length = σ.length
  val : ∀ (i : Nat) (d : D), δ[i]? = some (Sl.val d) → ∃ v, σ[i]? = some (some v) ∧ Rep c F v d
  own : ∀ (i : Nat) (xs : List D), δ[i]? = some (Sl.own xs) → ∃ a vs, σ[i]? = some (some (V.ref a)) ∧ H a = some (.lst vs) ∧ F a = none ∧ H0 a = none ∧ c.ga ≠ some a ∧ RepAll c F vs xs
  apart : ∀ (i j : Nat) (xs ys : List D), i ≠ j → δ[i]? = some (Sl.own xs) → δ[j]? = some (Sl.own ys) → σ[i]? ≠ σ[j]?
  bo0 : Same c.bo H0
section
variable {c : C} {H0 F H F' H' : Hp} {σ : L2.St} {δ : Dlt} {g g' : Gs}
theorem Wd.step (w : Wd c H0 F H σ δ g) (s : Stp c F H F' H' g') : Wd c H0 F' H' σ δ g' := by
  refine ⟨s.le, s.gen, w.len, fun i d e => ?_, fun i xs e => ?_, w.apart, w.bo0⟩
  · obtain ⟨v, e1, r⟩ := w.val i d e
    exact ⟨v, e1, r.up s.sub⟩
  · obtain ⟨a, vs, e1, e2, e3, e4, e5, r⟩ := w.own i xs e
    refine ⟨a, vs, e1, s.ext _ _ e5 e2, ?_, e4, e5, r.up s.sub⟩
    by_cases h : F' a = none
    · exact h
    · have q := s.new a h e3
      rw [e2] at q; cases q
theorem Wd.set {i : Nat} {v : V} {d : D} (w : Wd c H0 F H σ δ g) (r : Rep c F v d) : Wd c H0 F H (σ.set i (some v)) (δ.set i (.val d)) g := by
  refine ⟨w.le, w.gen, by simp [w.len], fun j e h => ?_, fun j xs h => ?_, fun j k xs ys ne h1 h2 => ?_, w.bo0⟩
  · by_cases hj : i = j
    · subst hj
      by_cases hl : i < δ.length
      · rw [List.getElem?_set_self hl] at h
        cases h
        exact ⟨v, by rw [List.getElem?_set_self (by rw [← w.len]; exact hl)], r⟩
      · rw [List.getElem?_eq_none (by simpa using hl)] at h; cases h
    · rw [List.getElem?_set_ne hj] at h ⊢
      exact w.val j e h
  · by_cases hj : i = j
    · subst hj
      by_cases hl : i < δ.length
      · rw [List.getElem?_set_self hl] at h; cases h
      · rw [List.getElem?_eq_none (by simpa using hl)] at h; cases h
    · rw [List.getElem?_set_ne hj] at h ⊢
      exact w.own j xs h
  · have nj : ∀ (k : Nat) (zs : List D), (δ.set i (Sl.val d))[k]? = some (Sl.own zs) → i ≠ k := fun k zs h e => by
      subst e
      by_cases hl : i < δ.length
      · rw [List.getElem?_set_self hl] at h; cases h
      · rw [List.getElem?_eq_none (by simpa using hl)] at h; cases h
    have a1 := nj j xs h1
    have a2 := nj k ys h2
    rw [List.getElem?_set_ne a1] at h1 ⊢
    rw [List.getElem?_set_ne a2] at h2 ⊢
    exact w.apart j k xs ys ne h1 h2
theorem Wd.forget {i : Nat} {x : Option V} (w : Wd c H0 F H σ δ g) : Wd c H0 F H (σ.set i x) (δ.set i .no) g := by
  have nj : ∀ (k : Nat) (s : Sl), (δ.set i Sl.no)[k]? = some s → s ≠ .no → i ≠ k := fun k s h hs e => by
    subst e
    by_cases hl : i < δ.length
    · rw [List.getElem?_set_self hl] at h; cases h; exact hs rfl
    · rw [List.getElem?_eq_none (by simpa using hl)] at h; cases h
  refine ⟨w.le, w.gen, by simp [w.len], fun j e h => ?_, fun j xs h => ?_, fun j k xs ys ne h1 h2 => ?_, w.bo0⟩
  · have a := nj j _ h (by simp)
    rw [List.getElem?_set_ne a] at h ⊢
    exact w.val j e h
  · have a := nj j _ h (by simp)
    rw [List.getElem?_set_ne a] at h ⊢
    exact w.own j xs h
  · have a1 := nj j _ h1 (by simp)
    have a2 := nj k _ h2 (by simp)
    rw [List.getElem?_set_ne a1] at h1 ⊢
    rw [List.getElem?_set_ne a2] at h2 ⊢
    exact w.apart j k xs ys ne h1 h2
theorem Wd.wipe (w : Wd c H0 F H σ δ g) : ∀ vs : List Nat, Wd c H0 F H (L2.wipe σ vs) (wipeD δ vs) g
  | [] => w
  | i :: r => (w.wipe r).forget
/-- a new list of one's own -/
theorem Wd.setOwn {i : Nat} {a : Addr} {vs : List V} {xs : List D} (w : Wd c H0 F H σ δ g) (e2 : H a = some (.lst vs)) (e3 : F a = none) (e4 : H0 a = none) (e5 : c.ga ≠ some a) (r : RepAll c F vs xs)
    (e6 : ∀ (j : Nat) (ys : List D), j ≠ i → δ[j]? = some (Sl.own ys) → σ[j]? ≠ some (some (V.ref a))) : Wd c H0 F H (σ.set i (some (.ref a))) (δ.set i (.own xs)) g := by
  refine ⟨w.le, w.gen, by simp [w.len], fun j e h => ?_, fun j ys h => ?_, fun j k ys zs ne h1 h2 => ?_, w.bo0⟩
  · by_cases hj : i = j
    · subst hj
      by_cases hl : i < δ.length
      · rw [List.getElem?_set_self hl] at h; cases h
      · rw [List.getElem?_eq_none (by simpa using hl)] at h; cases h
    · rw [List.getElem?_set_ne hj] at h ⊢
      exact w.val j e h
  · by_cases hj : i = j
    · subst hj
      by_cases hl : i < δ.length
      · rw [List.getElem?_set_self hl] at h
        cases h
        exact ⟨a, vs, by rw [List.getElem?_set_self (by rw [← w.len]; exact hl)], e2, e3, e4, e5, r⟩
      · rw [List.getElem?_eq_none (by simpa using hl)] at h; cases h
    · rw [List.getElem?_set_ne hj] at h ⊢
      exact w.own j ys h
  · have inl : ∀ (k : Nat) (s : Sl), (δ.set i (Sl.own xs))[k]? = some s → k < σ.length := fun k s h => by
      have := List.getElem?_eq_some_iff.mp h
      obtain ⟨hl, _⟩ := this
      rw [List.length_set] at hl
      rw [← w.len]; exact hl
    have l1 := inl j _ h1
    have l2 := inl k _ h2
    by_cases hj : i = j
    · subst hj
      rw [List.getElem?_set_ne ne] at h2 ⊢
      rw [List.getElem?_set_self l1]
      exact fun e => e6 k zs (Ne.symm ne) h2 e.symm
    · by_cases hk : i = k
      · subst hk
        rw [List.getElem?_set_ne hj] at h1 ⊢
        rw [List.getElem?_set_self l2]
        exact e6 j ys (Ne.symm hj) h1
      · rw [List.getElem?_set_ne hj] at h1 ⊢
        rw [List.getElem?_set_ne hk] at h2 ⊢
        exact w.apart j k ys zs ne h1 h2
end

/-! ### readings -/
def tP (c : C) (f : E) : TE := fun σ H Q => ∃ H0 F δ g d g', Wd c H0 F H σ δ g ∧ Ok (f δ) g d g' ∧ ∀ v F' H', Stp c F H F' H' g' → Rep c F' v d → Q v H'
def tR (c : C) (f : E) : TE := fun σ H Q => ∃ H0 F δ g d g', Wd c H0 F H σ δ g ∧ Ok (f δ) g d g' ∧ ∀ v F' H', Stp c F H F' H' g' → RepB c F' H' v d → Q v H'
def tT (c : C) (f : E) : TT := fun σ H Q => ∃ H0 F δ g b g', Wd c H0 F H σ δ g ∧ Ok (f δ) g (.bl b) g' ∧ ∀ F' H', Stp c F H F' H' g' → Q b H'
def tAs (c : C) (f : Es) : TA := fun σ H Q => ∃ H0 F δ g ds g', Wd c H0 F H σ δ g ∧ Ok (f δ) g ds g' ∧ ∀ vs F' H', Stp c F H F' H' g' → RepAll c F' vs ds → Q vs H'
/-- the same with values that are read now -/
inductive RepBs (c : C) (F H : Hp) : List V → List D → Prop
  | nil : RepBs c F H [] []
  | cons {v : V} {vs : List V} {d : D} {ds : List D} : RepB c F H v d → RepBs c F H vs ds → RepBs c F H (v :: vs) (d :: ds)
theorem RepBs.step {c : C} {F H F' H' : Hp} {g : Gs} (s : Stp c F H F' H' g) : ∀ {vs : List V} {ds : List D}, RepBs c F H vs ds → RepBs c F' H' vs ds
  | _, _, .nil => .nil
  | _, _, .cons r t => .cons (r.step s) (RepBs.step s t)
def tRs (c : C) (f : Es) : TA := fun σ H Q => ∃ H0 F δ g ds g', Wd c H0 F H σ δ g ∧ Ok (f δ) g ds g' ∧ ∀ vs F' H', Stp c F H F' H' g' → RepBs c F' H' vs ds → Q vs H'

theorem _root_.L2.PE.imp {X : Cx} {e : Expr} {t t' : TE} (h : PE X e t) (i : ∀ σ H Q, t' σ H Q → t σ H Q) : PE X e t' := ⟨fun pins s σ H Q I q => h.run pins s σ H Q I (i σ H Q q)⟩
theorem _root_.L2.PT.imp {X : Cx} {e : Expr} {t t' : TT} (h : PT X e t) (i : ∀ σ H Q, t' σ H Q → t σ H Q) : PT X e t' := ⟨fun pins s σ H Q I q => h.run pins s σ H Q I (i σ H Q q)⟩
theorem _root_.L2.PA.imp {X : Cx} {e : List Expr} {t t' : TA} (h : PA X e t) (i : ∀ σ H Q, t' σ H Q → t σ H Q) : PA X e t' := ⟨fun pos pins s σ H Q I q => h.run pos pins s σ H Q I (i σ H Q q)⟩
theorem _root_.L2.PS.imp {X : Cx} {e : Stmt} {t t' : TS} (h : PS X e t) (i : ∀ D σ H, t' D σ H → t D σ H) : PS X e t' := ⟨fun pins s σ H D I q => h.run pins s σ H D I (i D σ H q)⟩
theorem _root_.L2.PSs.imp {X : Cx} {e : List Stmt} {t t' : TS} (h : PSs X e t) (i : ∀ D σ H, t' D σ H → t D σ H) : PSs X e t' := ⟨fun pins s σ H D I q => h.run pins s σ H D I (i D σ H q)⟩
section
variable {X : Cx} {c : C} {a b e : Expr} {es : List Expr} {fa fb f : E} {fs : Es}
/-- what is relied on may be read -/
theorem _root_.L2.PE.rd (h : PE X e (tP c f)) : PE X e (tR c f) := h.imp fun σ H Q ⟨H0, F, δ, g, d, g', w, o, q⟩ => ⟨H0, F, δ, g, d, g', w, o, fun v F' H' s r => q v F' H' s r.b⟩
/-- a value that is no list -/
theorem _root_.L2.PE.sol (h : PE X e (tR c f)) : PE X e (tP c (eF (fun d => if d.isLst then stuck else pure d) f)) := h.imp fun σ H Q ⟨H0, F, δ, g, d, g', w, o, q⟩ => by
  obtain ⟨x, g1, o1, o2⟩ := ok_bind.mp o
  cases hx : x.isLst with
  | true => rw [hx] at o2; exact absurd o2 not_ok_stuck
  | false =>
    rw [hx] at o2
    obtain ⟨rfl, rfl⟩ := ok_pure.mp o2
    exact ⟨H0, F, δ, g, x, g1, w, o1, fun v F' H' s r => q v F' H' s (r.rep hx)⟩

theorem d_k {v : V} {d : D} (h : PE X e (tC v)) (r : ∀ F, Rep c F v d) : PE X e (tP c (eK d)) := h.imp fun σ H Q ⟨H0, F, δ, g, x, g', w, o, q⟩ => by
  obtain ⟨rfl, rfl⟩ := ok_pure.mp o
  exact q v F H (.refl w.le w.gen) (r F)
theorem d_non {j pos} : PE X (.Constant .none j pos) (tP c (eK .non)) := d_k pe_non fun _ => .non
theorem d_bl {b j pos} : PE X (.Constant (.bool b) j pos) (tP c (eK (.bl b))) := d_k pe_bl fun _ => .bl b
theorem d_int {i j pos} : PE X (.Constant (.int i) j pos) (tP c (eK (.int i))) := d_k pe_int fun _ => .int i
theorem d_str {x j pos} : PE X (.Constant (.str x) j pos) (tP c (eK (.str x))) := d_k pe_str fun _ => .str x
/-- a name that is read -/
theorem d_rv {i : Nat} (h : PE X e (tVar i)) : PE X e (tR c (eV i)) := h.imp fun σ H Q ⟨H0, F, δ, g, d, g', w, o, q⟩ => by
  unfold eV at o
  split at o
  · rename_i d' e1
    obtain ⟨rfl, rfl⟩ := ok_pure.mp o
    obtain ⟨v, e2, r⟩ := w.val i d' e1
    exact ⟨v, e2, q v F H (.refl w.le w.gen) r.b⟩
  · rename_i xs e1
    obtain ⟨rfl, rfl⟩ := ok_pure.mp o
    obtain ⟨a, vs, e2, e3, e4, e5, e6, r⟩ := w.own i xs e1
    exact ⟨_, e2, q _ F H (.refl w.le w.gen) (.inr ⟨a, vs, xs, rfl, rfl, e3, e6, r⟩)⟩
  · exact absurd o not_ok_stuck
/-- a name whose value is handed on: not a list of one's own -/
def eW (i : Nat) : E := fun δ => match δ[i]? with
  | some (.val d) => pure d
  | _ => stuck
theorem d_v {i : Nat} (h : PE X e (tVar i)) : PE X e (tP c (eW i)) := h.imp fun σ H Q ⟨H0, F, δ, g, d, g', w, o, q⟩ => by
  unfold eW at o
  split at o
  · rename_i d' e1
    obtain ⟨rfl, rfl⟩ := ok_pure.mp o
    obtain ⟨v, e2, r⟩ := w.val i d' e1
    exact ⟨v, e2, q v F H (.refl w.le w.gen) r⟩
  · exact absurd o not_ok_stuck
end
end DL

/-! ## DOps -/
set_option Elab.async false
set_option autoImplicit false
set_option linter.all false
set_option maxRecDepth 100000
set_option maxHeartbeats 2000000
/-! DOps: the operations on values, in terms of plain data. -/
namespace DL
open PySem PySem.Spec PyProof.Rows L2

def uD (c : C) (f : D → M D) : V → Hp → VK → Prop := fun x H Q => ∃ F d d' g g', Same F H ∧ GenOk c F H g ∧ RepB c F H x d ∧ Ok (f d) g d' g' ∧ ∀ v F' H', Stp c F H F' H' g' → Rep c F' v d' → Q v H'
def oD (c : C) (f : D → D → M D) : R2 := fun x y H Q => ∃ F d e d' g g', Same F H ∧ GenOk c F H g ∧ RepB c F H x d ∧ RepB c F H y e ∧ Ok (f d e) g d' g' ∧ ∀ v F' H', Stp c F H F' H' g' → Rep c F' v d' → Q v H'
/-- a call with one value, with two -/
def c1 (c : C) (f : D → M D) : List V → Hp → VK → Prop := fun xs H Q => ∃ x, xs = [x] ∧ uD c f x H Q
def c2 (c : C) (f : D → D → M D) : List V → Hp → VK → Prop := fun xs H Q => ∃ x y, xs = [x, y] ∧ oD c f x y H Q
theorem lim_le {n : Nat} (h : lim n = true) : n ≤ sizeLine := by
  have q : n ≤ 16777216 := of_decide_eq_true h
  rw [sizeLine_eq]; exact q

section
variable {X : Cx} {c : C}
/-! ### arithmetic -/
theorem add_d : OpR X (binaryOp .Add) (oD c dAdd) := by
  intro pins s σ H x y v u Q I rx ry h
  obtain ⟨F, d, e, d', g, g', le, gen, r1, r2, o, q⟩ := h
  unfold dAdd at o
  split at o
  · obtain ⟨rfl, rfl⟩ := ok_pure.mp o
    have a1 := r1.rep rfl
    have a2 := r2.rep rfl
    cases a1; cases a2
    exact op_add pins s σ H _ _ v u Q I rx ry ⟨_, _, rfl, rfl, q _ F H (.refl le gen) (.int _)⟩
  · split at o
    · rename_i hl
      obtain ⟨rfl, rfl⟩ := ok_pure.mp o
      have a1 := r1.rep rfl
      have a2 := r2.rep rfl
      cases a1; cases a2
      exact op_add_str pins s σ H _ _ v u Q I rx ry ⟨_, _, rfl, rfl, lim_le hl, q _ F H (.refl le gen) (.str _)⟩
    · exact absurd o not_ok_stuck
  · split at o
    · rename_i hl
      obtain ⟨rfl, rfl⟩ := ok_pure.mp o
      obtain ⟨a, vs, rfl, ea, ra⟩ := r1.lst le
      obtain ⟨b, us, rfl, eb, rb⟩ := r2.lst le
      refine op_cat pins s σ H _ _ v u Q I rx ry ⟨_, _, vs, us, rfl, rfl, ea, eb, ?_, fun p hp => ?_⟩
      · rw [ra.length, rb.length]; exact lim_le hl
      · have st := Stp.lay (o := .lst (vs ++ us)) le gen hp
        exact q _ _ _ st (.lst upd_same ((ra.append rb).up st.sub))
    · exact absurd o not_ok_stuck
  · exact absurd o not_ok_stuck
theorem sub_d : OpR X (binaryOp .Sub) (oD c dSub) := by
  intro pins s σ H x y v u Q I rx ry h
  obtain ⟨F, d, e, d', g, g', le, gen, r1, r2, o, q⟩ := h
  unfold dSub at o
  split at o
  · obtain ⟨rfl, rfl⟩ := ok_pure.mp o
    have a1 := r1.rep rfl
    have a2 := r2.rep rfl
    cases a1; cases a2
    exact op_sub pins s σ H _ _ v u Q I rx ry ⟨_, _, rfl, rfl, q _ F H (.refl le gen) (.int _)⟩
  · exact absurd o not_ok_stuck
theorem flat_rep {F : Hp} {vs : List V} {ds : List D} (r : RepAll c F vs ds) : ∀ k : Nat, RepAll c F (List.replicate k vs).flatten (List.replicate k ds).flatten
  | 0 => .nil
  | k + 1 => by
    rw [List.replicate_succ, List.replicate_succ, List.flatten_cons, List.flatten_cons]
    exact r.append (flat_rep r k)
theorem mul_d : OpR X (binaryOp .Mult) (oD c dMul) := by
  intro pins s σ H x y v u Q I rx ry h
  obtain ⟨F, d, e, d', g, g', le, gen, r1, r2, o, q⟩ := h
  unfold dMul at o
  split at o
  · split at o
    · rename_i hl
      obtain ⟨rfl, rfl⟩ := ok_pure.mp o
      have a1 := r1.rep rfl
      have a2 := r2.rep rfl
      cases a1; cases a2
      exact op_mulW pins s σ H _ _ v u Q I rx ry ⟨_, _, rfl, rfl, hl, q _ F H (.refl le gen) (.int _)⟩
    · exact absurd o not_ok_stuck
  · split at o
    · rename_i hl
      obtain ⟨h1, h2, h3⟩ := hl
      obtain ⟨rfl, rfl⟩ := ok_pure.mp o
      obtain ⟨a, vs, rfl, ea, ra⟩ := r1.lst le
      have a2 := r2.rep rfl
      cases a2
      refine op_rep pins s σ H _ _ v u Q I rx ry ⟨_, _, vs, rfl, rfl, ea, by omega, by omega, ?_, fun p hp => ?_⟩
      · rw [ra.length]; exact lim_le h3
      · exact q _ _ _ (Stp.lay le gen hp) (.lst upd_same ((flat_rep ra _).up (Stp.lay le gen hp).sub))
    · exact absurd o not_ok_stuck
  · exact absurd o not_ok_stuck
theorem fdiv_d : OpR X (binaryOp .FloorDiv) (oD c dFdiv) := by
  intro pins s σ H x y v u Q I rx ry h
  obtain ⟨F, d, e, d', g, g', le, gen, r1, r2, o, q⟩ := h
  unfold dFdiv at o
  split at o
  · split at o
    · rename_i hl
      obtain ⟨rfl, rfl⟩ := ok_pure.mp o
      have a1 := r1.rep rfl
      have a2 := r2.rep rfl
      cases a1; cases a2
      exact op_fdivW pins s σ H _ _ v u Q I rx ry ⟨_, _, rfl, rfl, hl, q _ F H (.refl le gen) (.int _)⟩
    · exact absurd o not_ok_stuck
  · exact absurd o not_ok_stuck
theorem mod_d : OpR X (binaryOp .Mod) (oD c dMod) := by
  intro pins s σ H x y v u Q I rx ry h
  obtain ⟨F, d, e, d', g, g', le, gen, r1, r2, o, q⟩ := h
  unfold dMod at o
  split at o
  · split at o
    · rename_i hl
      obtain ⟨rfl, rfl⟩ := ok_pure.mp o
      have a1 := r1.rep rfl
      have a2 := r2.rep rfl
      cases a1; cases a2
      exact op_mod pins s σ H _ _ v u Q I rx ry ⟨_, _, rfl, rfl, hl, q _ F H (.refl le gen) (.int _)⟩
    · exact absurd o not_ok_stuck
  · exact absurd o not_ok_stuck

/-! ### data of the library -/
mutual
theorem dp_of (K : PySem.W.Frag) {F H : Hp} (le : Same F H) : ∀ (n : Nat) (d : D) (v : V), d.cl n = true → Rep c F v d → Dp K H v d.py
  | _, .non, _, _, r => by cases r; exact .non
  | _, .bl b, _, _, r => by cases r; exact .bl b
  | _, .int i, _, _, r => by cases r; exact .int i
  | _, .str x, _, _, r => by cases r; exact .str x
  | 0, .lst ds, _, h, _ => by simp [D.cl] at h
  | 0, .tup ds, _, h, _ => by simp [D.cl] at h
  | n + 1, .lst ds, _, h, r => by
    cases r with
    | lst e q => exact .lst (SqL.of (le _ _ e)) (dps_of K le n ds _ (by simpa [D.cl] using h) q)
  | n + 1, .tup ds, _, h, r => by
    cases r with
    | tup e q => exact .tup (SqT.of (le _ _ e)) (dps_of K le n ds _ (by simpa [D.cl] using h) q)
  | _, .dct _, _, h, _ => by simp [D.cl] at h
  | _, .gen, _, h, _ => by simp [D.cl] at h
  | _, .fn _, _, h, _ => by simp [D.cl] at h
  | _, .exc _ _, _, h, _ => by simp [D.cl] at h
  | _, .thr _ _, _, h, _ => by simp [D.cl] at h
  | _, .bor _, _, h, _ => by simp [D.cl] at h
theorem dps_of (K : PySem.W.Frag) {F H : Hp} (le : Same F H) : ∀ (n : Nat) (ds : List D) (vs : List V), (∀ d ∈ ds, d.cl n = true) → RepAll c F vs ds → DpAll K H vs (pys ds)
  | _, [], _, _, r => by cases r; exact .nil
  | n, d :: ds, _, h, r => by
    cases r with
    | cons r1 r2 => exact .cons (dp_of K le n d _ (h d List.mem_cons_self) r1) (dps_of K le n ds _ (fun e he => h e (List.mem_cons_of_mem _ he)) r2)
end
theorem dp_b {K : PySem.W.Frag} {F H : Hp} (le : Same F H) {n : Nat} {d : D} {v : V} (h : d.cl n = true) (r : RepB c F H v d) : Dp K H v d.py := by
  rcases r with r | ⟨a, vs, ds, rfl, rfl, e, _, r⟩
  · exact dp_of K le n d v h r
  · cases n with
    | zero => simp [D.cl] at h
    | succ n => exact .lst (SqL.of e) (dps_of K le n ds _ (by simpa [D.cl] using h) r)
mutual
theorem cl_lay : ∀ (n : Nat) (d : D), d.cl n = true → d.py.canLay0 = true ∧ d.py.depth ≤ n ∧ d.py.showable = true ∧ d.py.hasDict = false
  | _, .non, _ => by simp [D.py, PyData.canLay0, PyData.depth, PyData.showable, PyData.hasDict]
  | _, .bl b, _ => by simp [D.py, PyData.canLay0, PyData.depth, PyData.showable, PyData.hasDict]
  | _, .int i, h => by
    have q : i.natAbs.log2 < 1920 := by simpa [D.cl] using h
    simp [D.py, PyData.canLay0, PyData.depth, PyData.showable, PyData.hasDict, q]
  | _, .str x, h => by
    have q : PyData.strOk x = true := by simpa [D.cl] using h
    simp [D.py, PyData.canLay0, PyData.depth, PyData.showable, PyData.hasDict, q]
  | 0, .lst ds, h => by simp [D.cl] at h
  | 0, .tup ds, h => by simp [D.cl] at h
  | n + 1, .lst ds, h => by
    obtain ⟨h1, h2, h3, h4⟩ := cl_lays n ds (by simpa [D.cl] using h)
    simp only [D.py, PyData.canLay0, PyData.depth, PyData.showable, PyData.hasDict]
    exact ⟨h1, by omega, h3, h4⟩
  | n + 1, .tup ds, h => by
    obtain ⟨h1, h2, h3, h4⟩ := cl_lays n ds (by simpa [D.cl] using h)
    simp only [D.py, PyData.canLay0, PyData.depth, PyData.showable, PyData.hasDict]
    exact ⟨h1, by omega, h3, h4⟩
  | _, .dct _, h => by simp [D.cl] at h
  | _, .gen, h => by simp [D.cl] at h
  | _, .fn _, h => by simp [D.cl] at h
  | _, .exc _ _, h => by simp [D.cl] at h
  | _, .thr _ _, h => by simp [D.cl] at h
  | _, .bor _, h => by simp [D.cl] at h
theorem cl_lays : ∀ (n : Nat) (ds : List D), (∀ d ∈ ds, d.cl n = true) → PyData.canLayAll0 (pys ds) = true ∧ PyData.depthAll (pys ds) ≤ n ∧ PyData.showableAll (pys ds) = true ∧ PyData.hasDictAll (pys ds) = false
  | _, [], _ => by simp [pys, PyData.canLayAll0, PyData.depthAll, PyData.showableAll, PyData.hasDictAll]
  | n, d :: ds, h => by
    obtain ⟨h1, h2, h3, h4⟩ := cl_lay n d (h d List.mem_cons_self)
    obtain ⟨k1, k2, k3, k4⟩ := cl_lays n ds fun e he => h e (List.mem_cons_of_mem _ he)
    simp only [pys, PyData.canLayAll0, PyData.depthAll, PyData.showableAll, PyData.hasDictAll, h1, k1, h3, k3, h4, k4]
    exact ⟨rfl, by omega, rfl, rfl⟩
end
theorem cl_shaped {n : Nat} {d : D} (h : d.cl n = true) (hn : n ≤ 64) : SeqAt.shaped d.py = true := by
  obtain ⟨h1, h2, _⟩ := cl_lay n d h
  unfold SeqAt.shaped
  rw [h1, decide_eq_true (show d.py.depth ≤ 64 by omega)]
  rfl

/-! ### order -/
theorem reads_of {F : Hp} {H : Hp} {pins : List (Addr × Obj)} {s : Shared} {σ : L2.St} (I : Inv X pins σ H s) (le : Same F H) {n : Nat} {d : D} {v : V} {u : Value} (h : d.cl n = true) (r : RepB c F H v d) (rv : RelV v u) : ∃ as, Reads s.heap u d.py as :=
  Dp.reads I d.py v u (dp_b le h r) rv
theorem py_non {d : D} {n : Nat} (h : d.cl n = true) (hn : d.isNon = false) : d.py ≠ .none := by
  cases d with
  | non => cases hn
  | dct _ => simp [D.cl] at h
  | gen => simp [D.cl] at h
  | fn _ => simp [D.cl] at h
  | exc _ _ => simp [D.cl] at h
  | thr _ _ => simp [D.cl] at h
  | bor _ => simp [D.cl] at h
  | bl _ => simp [D.py]
  | int _ => simp [D.py]
  | str _ => simp [D.py]
  | lst _ => simp [D.py]
  | tup _ => simp [D.py]
theorem cmp_run {op : CmpOp} {p : Int → Int → Bool} {k : PyData → PyData → Bool} {f : D → D → M D} (ho : OpR X (compareOp op) (rI0 fun i j => .bl (p i j)))
    (hd : ∀ (A : Around) (E : Value → Shared → Prop) (s : Shared) (a b : Value) (da db : PyData) (as bs : List Addr) (Q : Value → Shared → Prop), Reads s.heap a da as → Reads s.heap b db bs → PySem.W.alike da db = true → da ≠ .none →
      A.units + min da.depth db.depth < cLine → Q (.bool (k da db)) s → wpAny (model X.prog X.w) A (compareOp op a b) Q E s)
    (hu : X.A.units + 64 < cLine)
    (hf : ∀ d e g d' g', Ok (f d e) g d' g' → (∃ i j, d = .int i ∧ e = .int j ∧ d' = .bl (p i j) ∧ g = g') ∨ (cmpB d e = true ∧ d' = .bl (k d.py e.py) ∧ g = g')) : OpR X (compareOp op) (oD c f) := by
  intro pins s σ H x y v u Q I rx ry h
  obtain ⟨F, d, e, d', g, g', le, gen, r1, r2, o, q⟩ := h
  rcases hf _ _ _ _ _ o with ⟨i, j, rfl, rfl, rfl, rfl⟩ | ⟨hc, rfl, rfl⟩
  · have a1 := r1.rep rfl
    have a2 := r2.rep rfl
    cases a1; cases a2
    exact ho pins s σ H _ _ v u Q I rx ry ⟨_, _, rfl, rfl, q _ F H (.refl le gen) (.bl _)⟩
  · simp only [cmpB, Bool.and_eq_true, Bool.not_eq_true'] at hc
    obtain ⟨⟨⟨h1, h2⟩, h3⟩, h4⟩ := hc
    obtain ⟨as, ra⟩ := reads_of I le h1 r1 rx
    obtain ⟨bs, rb⟩ := reads_of I le h2 r2 ry
    have dd := (cl_lay 60 d h1).2.1
    exact hd X.A X.xe s v u _ _ as bs _ ra rb h3 (py_non h1 h4) (by have := Nat.min_le_left d.py.depth e.py.depth; omega) ⟨.bl _, H, I, rfl, q _ F H (.refl le gen) (.bl _)⟩
theorem lt_d (hu : X.A.units + 64 < cLine) : OpR X (compareOp .Lt) (oD c dLt) := cmp_run (k := PySem.W.dataLt) op_lt (fun _ _ _ _ _ _ _ _ _ _ a b h1 h2 h3 h4 => PySem.W.lt_data a b h1 h2 h3 h4) hu fun d e g d' g' o => by
  unfold dLt at o
  split at o
  · obtain ⟨rfl, rfl⟩ := ok_pure.mp o
    exact .inl ⟨_, _, rfl, rfl, rfl, rfl⟩
  · split at o
    · rename_i hc
      obtain ⟨rfl, rfl⟩ := ok_pure.mp o
      exact .inr ⟨hc, rfl, rfl⟩
    · exact absurd o not_ok_stuck
theorem gt_d (hu : X.A.units + 64 < cLine) : OpR X (compareOp .Gt) (oD c dGt) := cmp_run (k := fun a b => PySem.W.dataLt b a) op_gt (fun _ _ _ _ _ _ _ _ _ _ a b h1 h2 h3 h4 => PySem.W.gt_data a b h1 h2 h3 h4) hu fun d e g d' g' o => by
  unfold dGt at o
  split at o
  · obtain ⟨rfl, rfl⟩ := ok_pure.mp o
    exact .inl ⟨_, _, rfl, rfl, rfl, rfl⟩
  · split at o
    · rename_i hc
      obtain ⟨rfl, rfl⟩ := ok_pure.mp o
      exact .inr ⟨hc, rfl, rfl⟩
    · exact absurd o not_ok_stuck
theorem le_d (hu : X.A.units + 64 < cLine) : OpR X (compareOp .LtE) (oD c dLe) := cmp_run (k := fun a b => !PySem.W.dataLt b a) op_le (fun _ _ _ _ _ _ _ _ _ _ a b h1 h2 h3 h4 => PySem.W.le_data a b h1 h2 h3 h4) hu fun d e g d' g' o => by
  unfold dLe at o
  split at o
  · obtain ⟨rfl, rfl⟩ := ok_pure.mp o
    exact .inl ⟨_, _, rfl, rfl, rfl, rfl⟩
  · split at o
    · rename_i hc
      obtain ⟨rfl, rfl⟩ := ok_pure.mp o
      exact .inr ⟨hc, rfl, rfl⟩
    · exact absurd o not_ok_stuck
theorem ge_d (hu : X.A.units + 64 < cLine) : OpR X (compareOp .GtE) (oD c dGe) := cmp_run (k := fun a b => !PySem.W.dataLt a b) op_ge (fun _ _ _ _ _ _ _ _ _ _ a b h1 h2 h3 h4 => PySem.W.ge_data a b h1 h2 h3 h4) hu fun d e g d' g' o => by
  unfold dGe at o
  split at o
  · obtain ⟨rfl, rfl⟩ := ok_pure.mp o
    exact .inl ⟨_, _, rfl, rfl, rfl, rfl⟩
  · split at o
    · rename_i hc
      obtain ⟨rfl, rfl⟩ := ok_pure.mp o
      exact .inr ⟨hc, rfl, rfl⟩
    · exact absurd o not_ok_stuck

/-! ### == -/
theorem eqB_run {op : CmpOp} {k : Bool → Bool} (hs : OpR X (compareOp op) (fun x y H Q => scal x y = true ∧ Q (.bl (k (decide (x = y)))) H))
    (hd : OpR X (compareOp op) (fun x y H Q => ∃ d e, Dp X.K H x d ∧ Dp X.K H y e ∧ SeqAt.shaped d = true ∧ SeqAt.shaped e = true ∧ Q (.bl (k (PyData.eqv d e))) H)) :
    OpR X (compareOp op) (oD c fun d e => liftB ((dEqB d e).map k)) := by
  intro pins s σ H x y v u Q I rx ry h
  obtain ⟨F, d, e, d', g, g', le, gen, r1, r2, o, q⟩ := h
  have o : Ok (liftB ((dEqB d e).map k)) g d' g' := o
  cases hb : dEqB d e with
  | none => rw [hb] at o; exact absurd o not_ok_stuck
  | some b =>
    rw [hb] at o
    obtain ⟨rfl, rfl⟩ := ok_pure.mp o
    unfold dEqB at hb
    split at hb
    · cases hb
      have a1 := r1.rep rfl
      have a2 := r2.rep rfl
      cases a1; cases a2
      refine hs pins s σ H _ _ v u Q I rx ry ⟨rfl, ?_⟩
      have q' := q (.bl (k (decide (_ = _)))) F H (.refl le gen) (.bl _)
      rw [show decide (V.str _ = V.str _) = decide (_ = _) from decide_eq_decide.mpr ⟨fun e => V.str.inj e, fun e => by rw [e]⟩]
      exact q'
    · cases hb
      have a1 := r1.rep rfl
      have a2 := r2.rep rfl
      cases a1; cases a2
      refine hs pins s σ H _ _ v u Q I rx ry ⟨rfl, ?_⟩
      have q' := q (.bl (k (decide (_ = _)))) F H (.refl le gen) (.bl _)
      rw [show decide (V.int _ = V.int _) = decide (_ = _) from decide_eq_decide.mpr ⟨fun e => V.int.inj e, fun e => by rw [e]⟩]
      exact q'
    · cases hb
      have a1 := r1.rep rfl
      have a2 := r2.rep rfl
      cases a1; cases a2
      refine hs pins s σ H _ _ v u Q I rx ry ⟨rfl, ?_⟩
      have q' := q (.bl (k (decide (_ = _)))) F H (.refl le gen) (.bl _)
      rw [show decide (V.bl _ = V.bl _) = decide (_ = _) from decide_eq_decide.mpr ⟨fun e => V.bl.inj e, fun e => by rw [e]⟩]
      exact q'
    · split at hb
      · rename_i hc
        rw [Bool.and_eq_true] at hc
        cases hb
        exact hd pins s σ H _ _ v u Q I rx ry ⟨d.py, e.py, dp_b le hc.1 r1, dp_b le hc.2 r2, cl_shaped hc.1 (by decide), cl_shaped hc.2 (by decide), q _ F H (.refl le gen) (.bl _)⟩
      · cases hb
theorem eq_d (hu : X.A.units + 64 < cLine) : OpR X (compareOp .Eq) (oD c dEq) := by
  have h := eqB_run (c := c) (k := id) (X := X) (op := .Eq) op_eq (op_eqD hu)
  have e : (fun d e => liftB ((dEqB d e).map id)) = dEq := by
    funext d e
    unfold dEq
    cases dEqB d e <;> rfl
  rw [e] at h
  exact h
theorem ne_d (hu : X.A.units + 64 < cLine) : OpR X (compareOp .NotEq) (oD c dNe) := eqB_run (c := c) (k := (!·)) (X := X) (op := .NotEq) op_ne (op_neD hu)
end
end DL

/-! ## DOps2 -/
set_option Elab.async false
set_option autoImplicit false
set_option linter.all false
set_option maxRecDepth 100000
set_option maxHeartbeats 2000000
/-! DOps2: subscripts, slices, in, calls of built-ins, in terms of plain data. -/
namespace DL
open PySem PySem.Spec PyProof.Rows L2
section
variable {X : Cx} {c : C}

/-! ### subscripts, slices -/
theorem ix_d : IxR X (oD c dIx) := by
  intro value slice pins s σ H x y v u Q I rx ry h hs
  obtain ⟨F, d, e, d', g, g', le, gen, r1, r2, o, q⟩ := h
  unfold dIx at o
  split at o
  · rename_i xs i
    split at o
    · rename_i w hw
      obtain ⟨rfl, rfl⟩ := ok_pure.mp o
      obtain ⟨a, vs, rfl, ea, ra⟩ := r1.lst le
      have a2 := r2.rep rfl
      cases a2
      obtain ⟨j, hj, hw⟩ := Option.bind_eq_some_iff.mp hw
      obtain ⟨z, hz, rz⟩ := ra.get hw
      refine ix_list value slice pins s σ H _ _ v u Q I rx ry ⟨a, vs, i, z, rfl, rfl, SqL.of ea, ?_, q z F H (.refl le gen) rz⟩ hs
      show (ixN vs.length i).bind _ = _
      rw [ra.length]
      exact (congrArg (fun o => Option.bind o fun j => vs[j]?) hj).trans hz
    · exact absurd o not_ok_stuck
  · rename_i xs i
    split at o
    · rename_i w hw
      obtain ⟨rfl, rfl⟩ := ok_pure.mp o
      have a1 := r1.rep rfl
      have a2 := r2.rep rfl
      cases a2
      cases a1 with
      | @tup _ a vs _ ea ra =>
        obtain ⟨j, hj, hw⟩ := Option.bind_eq_some_iff.mp hw
        obtain ⟨z, hz, rz⟩ := ra.get hw
        refine ix_tup value slice pins s σ H _ _ v u Q I rx ry ⟨a, vs, i, z, rfl, rfl, SqT.of (le _ _ ea), ?_, q z F H (.refl le gen) rz⟩ hs
        show (ixN vs.length i).bind _ = _
        rw [ra.length]
        exact (congrArg (fun o => Option.bind o fun j => vs[j]?) hj).trans hz
    · exact absurd o not_ok_stuck
  · exact absurd o not_ok_stuck
theorem cut_eq (vs : List V) (lo hi : Option Int) : cutV vs lo hi = cut vs lo hi := by
  have e : ∀ n d o, HT.sIx n d o = cutEnd n d o := fun n d o => by cases o <;> rfl
  unfold cutV cut
  rw [e, e]
theorem cut_rep {F : Hp} {vs : List V} {ds : List D} (r : RepAll c F vs ds) (lo hi : Option Int) : RepAll c F (cut vs lo hi) (cut ds lo hi) := by
  unfold cut
  rw [r.length]
  exact (r.drop _).take _
def sD (c : C) : V → Option Int → Option Int → Hp → VK → Prop := fun x lo hi H Q => ∃ F d d' g g', Same F H ∧ GenOk c F H g ∧ RepB c F H x d ∧ Ok (dCut d lo hi) g d' g' ∧ ∀ v F' H', Stp c F H F' H' g' → Rep c F' v d' → Q v H'
theorem sl_d : SlR X (sD c) := by
  intro pins s σ H x v vl vu lo hi sl Q I rx hs pl pu h
  obtain ⟨F, d, d', g, g', le, gen, r1, o, q⟩ := h
  unfold dCut at o
  split at o
  · obtain ⟨rfl, rfl⟩ := ok_pure.mp o
    obtain ⟨a, vs, rfl, ea, ra⟩ := r1.lst le
    refine sl_list pins s σ H _ v vl vu lo hi sl Q I rx hs pl pu ⟨a, vs, rfl, SqL.of ea, fun p hp => ?_⟩
    rw [cut_eq]
    exact q _ _ _ (Stp.lay le gen hp) (.lst upd_same ((cut_rep ra lo hi).up (Stp.lay (o := .lst (cut vs lo hi)) le gen hp).sub))
  · exact absurd o not_ok_stuck

/-! ### in -/
theorem imm_flat {F : Hp} {v : V} {d : D} (h : d.imm = true) (r : Rep c F v d) : flatV v = true := by
  cases d <;> first | (cases h; done) | (cases r; rfl)
theorem imm_rep {F H : Hp} {v : V} {d : D} (h : d.imm = true) (r : RepB c F H v d) : Rep c F v d := r.rep (by cases d <;> first | rfl | (cases h; done))
theorem imms_flat {F : Hp} : ∀ {vs : List V} {ds : List D}, ds.all D.imm = true → RepAll c F vs ds → vs.all flatV = true
  | _, [], _, r => by cases r; rfl
  | _, d :: ds, h, r => by
    cases r with
    | cons r1 r2 =>
      rw [List.all_cons, Bool.and_eq_true] at h ⊢
      exact ⟨imm_flat h.1 r1, imms_flat h.2 r2⟩
theorem eqV_py {F : Hp} {y x : V} {e d : D} (he : e.imm = true) (hd : d.imm = true) (ry : Rep c F y e) (rx : Rep c F x d) : eqV y x = PyData.eqv e.py d.py := by
  cases e <;> first | (cases he; done) | (cases ry <;> cases d <;> first | (cases hd; done) | (cases rx <;> simp [eqV, D.py, PyData.eqv]))
theorem inV_py {F : Hp} {x : V} {d : D} (hd : d.imm = true) (rx : Rep c F x d) : ∀ {vs : List V} {ds : List D}, ds.all D.imm = true → RepAll c F vs ds → inV x vs = ds.any fun y => PyData.eqv y.py d.py
  | _, [], _, r => by cases r; rfl
  | _, e :: ds, h, r => by
    cases r with
    | cons r1 r2 =>
      rw [List.all_cons, Bool.and_eq_true] at h
      have ih := inV_py hd rx h.2 r2
      unfold inV at ih ⊢
      rw [List.any_cons, List.any_cons, eqV_py h.1 hd r1 rx, ih]
theorem any_pys (d : PyData) : ∀ ys : List D, ((pys ys).any fun z => PyData.eqv z d) = ys.any fun y => PyData.eqv y.py d
  | [] => rfl
  | y :: ys => by rw [pys, List.any_cons, List.any_cons, any_pys d ys]
theorem in_run {op : CmpOp} {neg : Bool} {k : Bool → Bool} (hk : ∀ b, (if neg then !b else b) = k b) (hf : OpR X (compareOp op) (rIn X.K neg))
    (hd : OpR X (compareOp op) (fun x y H Q => ∃ d ds, Dp X.K H x d ∧ Dp X.K H y (.list ds) ∧ SeqAt.shaped d = true ∧ SeqAt.shaped (.list ds) = true ∧ Q (.bl (k (ds.any fun z => PyData.eqv z d))) H))
    {f : D → D → M D} (ff : ∀ x d, f x d = match d with
      | .lst ys => liftB ((inB x ys).map k)
      | .tup ys => if x.imm && ys.all D.imm then liftB ((inB x ys).map k) else stuck
      | _ => stuck) : OpR X (compareOp op) (oD c f) := by
  intro pins s σ H x y v u Q I rx ry h
  obtain ⟨F, d, e, d', g, g', le, gen, r1, r2, o, q⟩ := h
  rw [ff] at o
  split at o
  · rename_i ys
    cases hb : inB d ys with
    | none => rw [hb] at o; exact absurd o not_ok_stuck
    | some b =>
      rw [hb] at o
      obtain ⟨rfl, rfl⟩ := ok_pure.mp o
      unfold inB at hb
      obtain ⟨a, vs, rfl, ea, ra⟩ := r2.lst le
      split at hb
      · rename_i hc
        rw [Bool.and_eq_true] at hc
        cases hb
        have a1 := imm_rep hc.1 r1
        refine hf pins s σ H _ _ v u Q I rx ry ⟨a, vs, rfl, .inl (SqL.of ea), imm_flat hc.1 a1, imms_flat hc.2 ra, ?_⟩
        rw [inV_py hc.1 a1 hc.2 ra, hk]
        exact q _ F H (.refl le gen) (.bl _)
      · split at hb
        · rename_i hc
          rw [Bool.and_eq_true] at hc
          cases hb
          have hl : (D.lst ys).cl 60 = true := by simpa [D.cl] using hc.2
          refine hd pins s σ H _ _ v u Q I rx ry ⟨d.py, pys ys, dp_b le hc.1 r1, dp_b le hl r2, cl_shaped hc.1 (by decide), cl_shaped hl (by decide), ?_⟩
          rw [any_pys]
          exact q _ F H (.refl le gen) (.bl _)
        · cases hb
  · rename_i ys
    split at o
    · rename_i hc
      cases hb : inB d ys with
      | none => rw [hb] at o; exact absurd o not_ok_stuck
      | some b =>
        rw [hb] at o
        obtain ⟨rfl, rfl⟩ := ok_pure.mp o
        unfold inB at hb
        rw [if_pos hc] at hb
        rw [Bool.and_eq_true] at hc
        cases hb
        have a1 := imm_rep hc.1 r1
        have a2 := r2.rep rfl
        cases a2 with
        | tup ea ra =>
          refine hf pins s σ H _ _ v u Q I rx ry ⟨_, _, rfl, .inr (SqT.of (le _ _ ea)), imm_flat hc.1 a1, imms_flat hc.2 ra, ?_⟩
          rw [inV_py hc.1 a1 hc.2 ra, hk]
          exact q _ F H (.refl le gen) (.bl _)
    · exact absurd o not_ok_stuck
  · exact absurd o not_ok_stuck
theorem in_d (hu : X.A.units + 65 < cLine) : OpR X (compareOp .In) (oD c dIn) := in_run (k := id) (neg := false) (fun b => rfl) op_in_seq (op_inD hu) fun x d => by
  have e : ∀ o : Option Bool, o.map id = o := fun o => by cases o <;> rfl
  simp only [e, dIn]
  all_goals (cases d <;> rfl)
theorem notIn_d (hu : X.A.units + 65 < cLine) : OpR X (compareOp .NotIn) (oD c dNotIn) := in_run (k := (!·)) (neg := true) (fun b => rfl) op_notIn_seq (op_notInD hu) fun x d => by
  unfold dNotIn
  cases d <;> rfl

/-! ### is None -/
theorem isN_rep : ∀ (d : D) {F : Hp} {v : V}, Rep c F v d → decide (v = V.non) = d.isNon
  | .bor d, _, _, r => by
    cases r with
    | bor q => exact isN_rep d q
  | .non, _, _, r => by cases r; rfl
  | .bl _, _, _, r => by cases r; rfl
  | .int _, _, _, r => by cases r; rfl
  | .str _, _, _, r => by cases r; rfl
  | .lst _, _, _, r => by cases r; rfl
  | .tup _, _, _, r => by cases r; rfl
  | .dct _, _, _, r => by cases r; rfl
  | .gen, _, _, r => by cases r; rfl
  | .fn _, _, _, r => by cases r; rfl
  | .exc _ _, _, _, r => by cases r; rfl
  | .thr _ _, _, _, r => by cases r
theorem isN_val {F H : Hp} {v : V} {d : D} (r : RepB c F H v d) : decide (v = V.non) = d.isNon := by
  rcases r with r | ⟨a, vs, ds, rfl, rfl, _⟩
  · exact isN_rep d r
  · rfl

/-! ### calls of built-ins -/
theorem len_c : CallR X (.builtin "len") (c1 c dLen) := by
  intro pins s σ H xs us Q I r h
  obtain ⟨x, rfl, F, d, d', g, g', le, gen, rb, o, q⟩ := h
  unfold dLen at o
  split at o
  · obtain ⟨rfl, rfl⟩ := ok_pure.mp o
    obtain ⟨a, vs, rfl, ea, ra⟩ := rb.lst le
    refine call_len_seq pins s σ H _ us Q I r ⟨a, vs, rfl, .inl (SqL.of ea), ?_⟩
    rw [ra.length]
    exact q _ F H (.refl le gen) (.int _)
  · obtain ⟨rfl, rfl⟩ := ok_pure.mp o
    have a1 := rb.rep rfl
    cases a1 with
    | tup ea ra =>
      refine call_len_seq pins s σ H _ us Q I r ⟨_, _, rfl, .inr (SqT.of (le _ _ ea)), ?_⟩
      rw [ra.length]
      exact q _ F H (.refl le gen) (.int _)
  · split at o
    · rename_i hl
      obtain ⟨rfl, rfl⟩ := ok_pure.mp o
      have a1 := rb.rep rfl
      cases a1
      exact call_len_str pins s σ H _ us Q I r ⟨_, rfl, lim_le hl, q _ F H (.refl le gen) (.int _)⟩
    · exact absurd o not_ok_stuck
  · exact absurd o not_ok_stuck
theorem abs_c : CallR X (.builtin "abs") (c1 c dAbs) := by
  intro pins s σ H xs us Q I r h
  obtain ⟨x, rfl, F, d, d', g, g', le, gen, rb, o, q⟩ := h
  unfold dAbs at o
  split at o
  · obtain ⟨rfl, rfl⟩ := ok_pure.mp o
    have a1 := rb.rep rfl
    cases a1
    exact call_abs pins s σ H _ us Q I r ⟨_, rfl, q _ F H (.refl le gen) (.int _)⟩
  · exact absurd o not_ok_stuck
/-- int(n) -/
def dInt (d : D) : M D := match d with
  | .int i => pure (.int i)
  | _ => stuck
theorem int_c : CallR X (.type "int") (c1 c dInt) := by
  intro pins s σ H xs us Q I r h
  obtain ⟨x, rfl, F, d, d', g, g', le, gen, rb, o, q⟩ := h
  unfold dInt at o
  split at o
  · obtain ⟨rfl, rfl⟩ := ok_pure.mp o
    have a1 := rb.rep rfl
    cases a1
    exact call_int1 pins s σ H _ us Q I r (.inl ⟨_, rfl, q _ F H (.refl le gen) (.int _)⟩)
  · exact absurd o not_ok_stuck
def dMax2 (d e : D) : M D := match d, e with
  | .int i, .int j => pure (.int (if j > i then j else i))
  | _, _ => stuck
def dMin2 (d e : D) : M D := match d, e with
  | .int i, .int j => pure (.int (if j < i then j else i))
  | _, _ => stuck
theorem max2_c (hc : X.calm = true) : CallR X (.builtin "max") (c2 c dMax2) := by
  intro pins s σ H xs us Q I r h
  obtain ⟨x, y, rfl, F, d, e, d', g, g', le, gen, r1, r2, o, q⟩ := h
  unfold dMax2 at o
  split at o
  · obtain ⟨rfl, rfl⟩ := ok_pure.mp o
    have a1 := r1.rep rfl
    have a2 := r2.rep rfl
    cases a1; cases a2
    exact call_max2 hc pins s σ H _ us Q I r ⟨_, _, rfl, q _ F H (.refl le gen) (.int _)⟩
  · exact absurd o not_ok_stuck
theorem min2_c (hc : X.calm = true) : CallR X (.builtin "min") (c2 c dMin2) := by
  intro pins s σ H xs us Q I r h
  obtain ⟨x, y, rfl, F, d, e, d', g, g', le, gen, r1, r2, o, q⟩ := h
  unfold dMin2 at o
  split at o
  · obtain ⟨rfl, rfl⟩ := ok_pure.mp o
    have a1 := r1.rep rfl
    have a2 := r2.rep rfl
    cases a1; cases a2
    exact call_min2 hc pins s σ H _ us Q I r ⟨_, _, rfl, q _ F H (.refl le gen) (.int _)⟩
  · exact absurd o not_ok_stuck
theorem all_c (hc : X.calm = true) : CallR X (.builtin "all") (c1 c dAll) := by
  intro pins s σ H xs us Q I r h
  obtain ⟨x, rfl, F, d, d', g, g', le, gen, rb, o, q⟩ := h
  unfold dAll at o
  split at o
  · split at o
    · rename_i bs hb
      obtain ⟨rfl, rfl⟩ := ok_pure.mp o
      obtain ⟨a, vs, rfl, ea, ra⟩ := rb.lst le
      rw [bools_map hb] at ra
      obtain rfl := ra.ofBools
      exact cr_all hc pins s σ H _ us Q I r ⟨a, bs, rfl, SqL.of ea, q _ F H (.refl le gen) (.bl _)⟩
    · exact absurd o not_ok_stuck
  · exact absurd o not_ok_stuck
theorem any_c (hc : X.calm = true) : CallR X (.builtin "any") (c1 c dAny) := by
  intro pins s σ H xs us Q I r h
  obtain ⟨x, rfl, F, d, d', g, g', le, gen, rb, o, q⟩ := h
  unfold dAny at o
  split at o
  · split at o
    · rename_i bs hb
      obtain ⟨rfl, rfl⟩ := ok_pure.mp o
      obtain ⟨a, vs, rfl, ea, ra⟩ := rb.lst le
      rw [bools_map hb] at ra
      obtain rfl := ra.ofBools
      exact cr_any hc pins s σ H _ us Q I r ⟨a, bs, rfl, SqL.of ea, q _ F H (.refl le gen) (.bl _)⟩
    · exact absurd o not_ok_stuck
  · exact absurd o not_ok_stuck
theorem sum_c (hc : X.calm = true) : CallR X (.builtin "sum") (c1 c dSum) := by
  intro pins s σ H xs us Q I r h
  obtain ⟨x, rfl, F, d, d', g, g', le, gen, rb, o, q⟩ := h
  unfold dSum at o
  split at o
  · split at o
    · rename_i bs hb
      obtain ⟨rfl, rfl⟩ := ok_pure.mp o
      obtain ⟨a, vs, rfl, ea, ra⟩ := rb.lst le
      rw [ints_map hb] at ra
      obtain rfl := ra.ofInts
      exact cr_sum hc pins s σ H _ us Q I r ⟨a, bs, rfl, SqL.of ea, q _ F H (.refl le gen) (.int _)⟩
    · exact absurd o not_ok_stuck
  · exact absurd o not_ok_stuck
theorem list_c : CallR X (.type "list") (c1 c dList) := by
  intro pins s σ H xs us Q I r h
  obtain ⟨x, rfl, F, d, d', g, g', le, gen, rb, o, q⟩ := h
  unfold dList at o
  split at o
  · obtain ⟨rfl, rfl⟩ := ok_pure.mp o
    obtain ⟨a, vs, rfl, ea, ra⟩ := rb.lst le
    exact call_list_of pins s σ H _ us Q I r ⟨a, vs, rfl, .inl (SqL.of ea), fun p hp => q _ _ _ (Stp.lay le gen hp) (.lst upd_same (ra.up (Stp.lay (o := .lst vs) le gen hp).sub))⟩
  · obtain ⟨rfl, rfl⟩ := ok_pure.mp o
    have a1 := rb.rep rfl
    cases a1 with
    | tup ea ra => exact call_list_of pins s σ H _ us Q I r ⟨_, _, rfl, .inr (SqT.of (le _ _ ea)), fun p hp => q _ _ _ (Stp.lay le gen hp) (.lst upd_same (ra.up (Stp.lay (o := .lst _) le gen hp).sub))⟩
  · exact absurd o not_ok_stuck
theorem tuple_c : CallR X (.type "tuple") (c1 c dTuple) := by
  intro pins s σ H xs us Q I r h
  obtain ⟨x, rfl, F, d, d', g, g', le, gen, rb, o, q⟩ := h
  unfold dTuple at o
  split at o
  · obtain ⟨rfl, rfl⟩ := ok_pure.mp o
    obtain ⟨a, vs, rfl, ea, ra⟩ := rb.lst le
    exact call_tuple_of pins s σ H _ us Q I r ⟨a, vs, rfl, .inl ⟨SqL.of ea, fun p hp => q _ _ _ (Stp.lay le gen hp) (.tup upd_same (ra.up (Stp.lay (o := .tup vs) le gen hp).sub))⟩⟩
  · obtain ⟨rfl, rfl⟩ := ok_pure.mp o
    have a1 := rb.rep rfl
    cases a1 with
    | tup ea ra => exact call_tuple_of pins s σ H _ us Q I r ⟨_, _, rfl, .inr ⟨SqT.of (le _ _ ea), q _ F H (.refl le gen) (.tup ea ra)⟩⟩
  · exact absurd o not_ok_stuck

/-! ### repr -/
theorem repr_c (hg : X.A.guards = some []) (hu : X.A.units + 65 < cLine) : CallR X (.builtin "repr") (c1 c dRepr) := by
  intro pins s σ H xs us Q I rv h
  obtain ⟨x, rfl, F, d, d', g, g', le, gen, r, o, q⟩ := h
  obtain ⟨u, rfl, rx⟩ := Vals.one rv
  unfold dRepr at o
  split at o
  · rename_i hh
    obtain ⟨rfl, rfl⟩ := ok_pure.mp o
    rw [Bool.and_eq_true] at hh
    have hz : d.py.shown.length ≤ sizeLine := lim_le hh.2
    have q : Q (.str d.py.shown) H := q _ F H (.refl le gen) (.str _)
    have big : ∀ a, u = .ref a → d.cl 60 = true → wpAny (model X.prog X.w) X.A (call (.builtin "repr") [u]) (EP X pins σ Q) X.xe s := fun a e hc => by
      obtain ⟨as, ra⟩ := reads_of I le hc r rx
      obtain ⟨_, h2, h3, h4⟩ := cl_lay 60 d hc
      subst e
      exact repr_of_reads' ra h3 (PyData.noDict_hsm h4) hg (by omega) (fun _ _ e => e) (fun h' w tk hk => ⟨.str d.py.shown, H, I.kept hk, ⟨_, rfl⟩, q⟩) hz
    cases d with
    | lst ds =>
      obtain ⟨a, vs, rfl, _⟩ := r.lst le
      exact big a rx hh.1
    | tup ds =>
      have a1 := r.rep rfl
      cases a1
      exact big _ rx hh.1
    | non =>
      have a1 := r.rep rfl
      cases a1
      cases rx
      exact PySem.P.repr_of_none ⟨.str D.non.py.shown, H, I.tok _, ⟨_, rfl⟩, q⟩
    | bl b =>
      have a1 := r.rep rfl
      cases a1
      cases rx
      refine PySem.P.repr_of_bool ⟨.str (D.bl b).py.shown, H, I.tok _, ⟨s.toks, ?_⟩, q⟩
      cases b <;> rfl
    | int i =>
      have a1 := r.rep rfl
      cases a1
      obtain ⟨t, rfl⟩ := rx
      have hc : i.natAbs.log2 < 1920 := by simpa [D.rp, D.cl] using hh.1
      exact PySem.P.repr_of_int hc ⟨.str (D.int i).py.shown, H, I.tok _, ⟨_, rfl⟩, q⟩
    | str z =>
      have a1 := r.rep rfl
      cases a1
      obtain ⟨t, rfl⟩ := rx
      exact PySem.P.repr_of_str ⟨.str (D.str z).py.shown, H, I.tok _, ⟨_, rfl⟩, q⟩ hz
    | dct kvs =>
      have a1 := r.rep rfl
      cases a1 with
      | @dct0 _ a ea =>
        obtain ⟨_, hs, vs, kv, o, es, ep, e1, e2, e3, _, e4, _⟩ := I.hok a _ (le _ _ ea)
        cases rx
        cases kv
        have en : es.toList = [] := by
          cases e5 : es.toList with
          | nil => rfl
          | cons x r => rw [e5] at e4; cases e4
        have rd : Reads s.heap (.ref a) (.dict []) ([a] ++ [] ++ []) := Reads.dict e1 e2.1 e3 (by rw [en]; exact .nil) (by rw [en]; exact .nil)
        refine repr_of_reads' rd rfl (fun _ hm => ?_) hg (by simp [PyData.depth, PyData.depthKv]; omega) (fun _ _ e => e) (fun h' w tk hk => ⟨.str (D.dct []).py.shown, H, I.kept hk, ⟨_, rfl⟩, q⟩) hz
        have ha : sysModules = a := by simpa using hm
        rw [ha] at hs
        simp at hs
    | gen => simp [D.rp, D.cl] at hh
    | fn _ => simp [D.rp, D.cl] at hh
    | exc _ _ => simp [D.rp, D.cl] at hh
    | thr _ _ => simp [D.rp, D.cl] at hh
    | bor _ => simp [D.rp, D.cl] at hh
  · exact absurd o not_ok_stuck

/-! ### isinstance -/
theorem kitB_of : ∀ (a b : String), a ∈ ["NoneType", "bool", "int", "str", "list", "tuple", "dict"] → b ∈ ["bool", "int", "str", "list", "tuple", "dict"] → ∃ r, kitB a b = some r ∧ (∀ d : D, d.ty = some a → r = isTy d b) := by
  intro a b ha hb
  simp only [List.mem_cons, List.mem_nil_iff, or_false] at ha hb
  rcases ha with rfl | rfl | rfl | rfl | rfl | rfl | rfl <;> rcases hb with rfl | rfl | rfl | rfl | rfl | rfl <;>
    first
    | exact ⟨true, by decide +kernel, fun d hd => by cases d <;> first | rfl | (simp [D.ty] at hd)⟩
    | exact ⟨false, by decide +kernel, fun d hd => by cases d <;> first | rfl | (simp [D.ty] at hd)⟩
end
end DL

/-! ## DOps3 -/
set_option Elab.async false
set_option autoImplicit false
set_option linter.all false
set_option maxRecDepth 100000
set_option maxHeartbeats 2000000
/-! DOps3: isinstance, list.index, sorted, in terms of plain data. -/
namespace DL
open PySem PySem.Spec PyProof.Rows L2
section
variable {X : Cx} {c : C}
/-! ### isinstance -/
theorem tyx_of (K : PySem.W.Frag) {F H : Hp} (le : Same F H) {v : V} {d : D} {t : String} (h : d.ty = some t) (r : RepB c F H v d) : TyX K H v (.type t) := by
  rcases r with r | ⟨a, vs, ds, rfl, rfl, e, _⟩
  · cases r with
    | non => cases h; exact .base .non
    | bl b => cases h; exact .base (.bl b)
    | int i => cases h; exact .base (.int i)
    | str x => cases h; exact .base (.str x)
    | lst e _ => cases h; exact .base (.lst (le _ _ e))
    | tup e _ => cases h; exact .base (.tup (le _ _ e))
    | dct0 e => cases h; exact .base (.dK (le _ _ e))
    | gen _ => cases h
    | fn _ => cases h
    | exc _ _ _ _ => cases h
    | bor _ => cases h
  · cases h; exact .base (.lst e)
theorem ty_mem {d : D} {t : String} (h : d.ty = some t) : t ∈ ["NoneType", "bool", "int", "str", "list", "tuple", "dict"] := by
  cases d <;> first | (cases h; done) | (cases h; decide)
/-- isinstance(x, T) -/
def isi1 (c : C) (t : String) : List V → Hp → VK → Prop := fun xs H Q => ∃ x, xs = [x, .ty t] ∧ uD c (fun d => dIsI d t) x H Q
theorem isi_c {t : String} (ht : t ∈ ["bool", "int", "str", "list", "tuple", "dict"]) : CallR X (.builtin "isinstance") (isi1 c t) := by
  intro pins s σ H xs us Q I rv h
  obtain ⟨x, rfl, F, d, d', g, g', le, gen, r, o, q⟩ := h
  have o : Ok (dIsI d t) g d' g' := o
  unfold dIsI at o
  split at o
  · rename_i ty hty
    obtain ⟨rfl, rfl⟩ := ok_pure.mp o
    obtain ⟨b, hb, hb2⟩ := kitB_of ty t (ty_mem hty) ht
    refine call_isi pins s σ H _ us Q I rv ⟨x, .ty t, .type ty, .type t, b, rfl, .ty t, tyx_of X.K le hty r, kit_ty hb, ?_⟩
    rw [hb2 d hty]
    exact q _ F H (.refl le gen) (.bl _)
  · exact absurd o not_ok_stuck
/-- isinstance(x, (T, U)) -/
def isi2 (c : C) (t u : String) : List V → Hp → VK → Prop := fun xs H Q => ∃ x p, xs = [x, .ref p] ∧ H p = some (.tup [.ty t, .ty u]) ∧ uD c (fun d => dIsI2 d t u) x H Q
theorem isi2_c {t u : String} (ht : t ∈ ["bool", "int", "str", "list", "tuple", "dict"]) (hu : u ∈ ["bool", "int", "str", "list", "tuple", "dict"]) : CallR X (.builtin "isinstance") (isi2 c t u) := by
  intro pins s σ H xs us Q I rv h
  obtain ⟨x, p, rfl, hp, F, d, d', g, g', le, gen, r, o, q⟩ := h
  have o : Ok (dIsI2 d t u) g d' g' := o
  unfold dIsI2 at o
  split at o
  · rename_i ty hty
    obtain ⟨rfl, rfl⟩ := ok_pure.mp o
    obtain ⟨b, hb, hb2⟩ := kitB_of ty t (ty_mem hty) ht
    obtain ⟨b', hb', hb2'⟩ := kitB_of ty u (ty_mem hty) hu
    have e1 := hb2 d hty
    have e2 := hb2' d hty
    refine call_isiT pins s σ H _ us Q I rv ⟨x, p, [.ty t, .ty u], .type ty, [.type t, .type u], isTy d t || isTy d u, rfl, hp, .cons (.ty t) (.cons (.ty u) .nil), tyx_of X.K le hty r, ?_, q _ F H (.refl le gen) (.bl _)⟩
    refine kitAny_cons (kit_ty hb) (fun e => kitAny_cons (kit_ty hb') (fun e' => ?_) (fun e' => ?_)) fun e => ?_
    · rw [← e1, ← e2, e, e']; exact kitAny_nil
    · rw [← e1, ← e2, e']; simp
    · rw [← e1, e]; rfl
  · exact absurd o not_ok_stuck

/-! ### list.index -/
theorem idxOf_spec {x : D} : ∀ {ys : List D} {j : Nat}, idxOf? x ys = some j → ∃ y, ys[j]? = some y ∧ PyData.eqv y.py x.py = true ∧ ∀ (m : Nat) (z : D), m < j → ys[m]? = some z → PyData.eqv z.py x.py = false
  | [], _, h => by cases h
  | y :: ys, j, h => by
    unfold idxOf? at h
    split at h
    · rename_i e
      cases h
      exact ⟨y, rfl, e, fun m z hm => absurd hm (Nat.not_lt_zero _)⟩
    · rename_i e
      obtain ⟨k, hk, rfl⟩ := Option.map_eq_some_iff.mp h
      obtain ⟨z, h1, h2, h3⟩ := idxOf_spec hk
      refine ⟨z, by simpa using h1, h2, fun m w hm hw => ?_⟩
      cases m with
      | zero =>
        have e2 : y = w := by simpa using hw
        subst e2
        simpa using e
      | succ m => exact h3 m w (by omega) (by simpa using hw)
def m1 (c : C) (f : D → D → M D) : V → List V → Hp → VK → Prop := fun x xs H Q => ∃ y, xs = [y] ∧ oD c f x y H Q
theorem index_m : MtR X "list.index" (m1 c dIndex) := by
  intro pins s σ H x xs v us Q I rx rxs h
  obtain ⟨y, rfl, F, d, e, d', g, g', le, gen, r1, r2, o, q⟩ := h
  unfold dIndex at o
  split at o
  · rename_i ys
    split at o
    · rename_i hc
      rw [Bool.and_eq_true] at hc
      split at o
      · rename_i j hj
        obtain ⟨rfl, rfl⟩ := ok_pure.mp o
        obtain ⟨a, vs, rfl, ea, ra⟩ := r1.lst le
        have a2 := imm_rep hc.1 r2
        obtain ⟨z, h1, h2, h3⟩ := idxOf_spec hj
        obtain ⟨w, hw, rw⟩ := ra.get h1
        have mem : ∀ {k : Nat} {u : D}, ys[k]? = some u → u.imm = true := fun {k u} hk => List.all_eq_true.mp hc.2 u (List.mem_of_getElem? hk)
        refine mt_index pins s σ H _ _ v us Q I rx rxs ⟨a, vs, y, j, w, rfl, rfl, SqL.of ea, imm_flat hc.1 a2, imms_flat hc.2 ra, hw, ?_, fun m u hm hu => ?_, q _ F H (.refl le gen) (.int _)⟩
        · rw [eqV_py (mem h1) hc.1 rw a2]; exact h2
        · obtain ⟨t, ht, rt⟩ := ra.getV hu
          rw [eqV_py (mem ht) hc.1 rt a2]; exact h3 m t hm ht
      · exact absurd o not_ok_stuck
    · exact absurd o not_ok_stuck
  · exact absurd o not_ok_stuck

/-! ### sorted -/
theorem repAll_of {F : Hp} : ∀ {ps : List (V × D)}, (∀ p ∈ ps, Rep c F p.1 p.2) → RepAll c F (ps.map (·.1)) (ps.map (·.2))
  | [], _ => .nil
  | p :: ps, h => .cons (h p List.mem_cons_self) (repAll_of fun q hq => h q (List.mem_cons_of_mem _ hq))
theorem repAll_mem {F : Hp} : ∀ {vs : List V} {ds : List D}, RepAll c F vs ds → ∀ p ∈ vs.zip ds, Rep c F p.1 p.2
  | _, _, .nil, p, hp => by simp at hp
  | _, _, .cons r t, p, hp => by
    rcases List.mem_cons.mp hp with rfl | hp
    · exact r
    · exact repAll_mem t p hp
theorem each_of : ∀ {vs : List V} {ds : List D} {its : List Value}, vs.length = ds.length → Vals vs its → PySem.W.EachIs (fun (v : Value) (b : V × D) => RelV b.1 v) its (vs.zip ds)
  | [], [], _, _, .nil => .nil
  | v :: vs, d :: ds, _, h, .cons r t => .cons r (each_of (by simpa using h) t)
theorem each_vals : ∀ {its : List Value} {bs : List (V × D)}, PySem.W.EachIs (fun (v : Value) (b : V × D) => RelV b.1 v) its bs → Vals (bs.map (·.1)) its
  | _, _, .nil => .nil
  | _, _, .cons r t => .cons r (each_vals t)
theorem each_both {α β : Type} {R S : α → β → Prop} : ∀ {as : List α} {bs : List β}, PySem.W.EachIs R as bs → (∀ a b, a ∈ as → b ∈ bs → R a b → S a b) → PySem.W.EachIs S as bs
  | _, _, .nil, _ => .nil
  | _, _, .cons r t, h => .cons (h _ _ List.mem_cons_self List.mem_cons_self r) (each_both t fun a b ha hb => h a b (List.mem_cons_of_mem _ ha) (List.mem_cons_of_mem _ hb))
theorem sorted_c (hu : X.A.units + 65 < cLine) : CallR X (.builtin "sorted") (c1 c dSorted) := by
  intro pins s σ H xs us Q I rv h
  obtain ⟨x, rfl, F, d, d', g, g', le, gen, r, o, q⟩ := h
  unfold dSorted at o
  split at o
  · rename_i ds
    split at o
    · rename_i hs
      obtain ⟨rfl, rfl⟩ := ok_pure.mp o
      obtain ⟨a, vs, rfl, ea, ra⟩ := r.lst le
      rw [Vals.ref1 rv]
      obtain ⟨its, rvs, pl, hz⟩ := I.list (SqL.of ea)
      unfold sortableB at hs
      rw [Bool.and_eq_true, Bool.and_eq_true] at hs
      obtain ⟨⟨h1, h2⟩, h3⟩ := hs
      have cl : ∀ e ∈ ds, e.cl 60 = true := fun e he => List.all_eq_true.mp h1 e he
      have hal : PySem.W.AllAlike ((vs.zip ds).map fun b => b.2.py) := by
        intro e he f hf
        obtain ⟨p, hp, rfl⟩ := List.mem_map.mp he
        obtain ⟨p', hp', rfl⟩ := List.mem_map.mp hf
        exact List.all_eq_true.mp (List.all_eq_true.mp h2 _ (List.of_mem_zip hp).2) _ (List.of_mem_zip hp').2
      have hk : PySem.W.Sortable ((vs.zip ds).map fun b => b.2.py) := by
        rw [Bool.or_eq_true] at h3
        rcases h3 with h3 | h3
        · refine .inl fun e he => ?_
          obtain ⟨p, hp, rfl⟩ := List.mem_map.mp he
          have t := List.all_eq_true.mp h3 _ (List.of_mem_zip hp).2
          generalize p.2 = z at t
          cases z with
          | tup l => cases l with
            | nil => cases t
            | cons y l => exact ⟨y.py, pys l, by simp [D.py, pys]⟩
          | _ => cases t
        · refine .inr fun e he => ?_
          obtain ⟨p, hp, rfl⟩ := List.mem_map.mp he
          have t := List.all_eq_true.mp h3 _ (List.of_mem_zip hp).2
          have k := cl _ (List.of_mem_zip hp).2
          generalize p.2 = z at t k
          cases z with
          | tup l => cases t
          | non => cases t
          | dct _ => simp [D.cl] at k
          | gen => simp [D.cl] at k
          | fn _ => simp [D.cl] at k
          | exc _ _ => simp [D.cl] at k
          | thr _ _ => simp [D.cl] at k
          | bor _ => simp [D.cl] at k
          | bl _ => simp [D.py]
          | int _ => simp [D.py]
          | str _ => simp [D.py]
          | lst _ => simp [D.py]
      have er := each_of ra.length rvs
      refine PySem.W.sorted_data (R := fun v (b : V × D) => RelV b.1 v) (enc := fun b : V × D => b.2.py) (bs := vs.zip ds) pl.isList er (each_both er fun v b _ hb rb => ?_) hal hk ?_ (fun b hb => ?_) fun out hl eo => ?_
      · exact reads_of I le (cl _ (List.of_mem_zip hb).2) (.inl (repAll_mem ra b hb)) rb
      · rw [List.length_zip, ra.length, Nat.min_self, ← ra.length]; exact hz
      · have := (cl_lay 60 b.2 (cl _ (List.of_mem_zip hb).2)).2.1
        show X.A.units + 2 + b.2.py.depth < cLine
        omega
      · obtain ⟨e, he⟩ := sortedAll_at s.heap its out.toArray
        have lenb : ((vs.zip ds).mergeSort (PySem.W.dataLe false fun b : V × D => b.2.py)).length ≤ sizeLine := by
          rw [List.length_mergeSort, List.length_zip, ra.length, Nat.min_self, ← ra.length]; exact hz
        have hp : H (s.heap.objs.size + 1) = none := I.hok.fresh (Nat.le_succ _)
        have st := Stp.lay (o := .lst (((vs.zip ds).mergeSort (PySem.W.dataLe false fun b : V × D => b.2.py)).map (·.1))) le gen hp
        refine ⟨.ref (s.heap.objs.size + 1), _, I.laid (t' := s.toks) (o := .lst (((vs.zip ds).mergeSort (PySem.W.dataLe false fun b : V × D => b.2.py)).map (·.1))) (fun b o e => sortedAll_old e) (Nat.le_succ _) ⟨by rw [List.length_map]; exact lenb, out, e, each_vals eo, he⟩, rfl, q _ _ _ st (.lst upd_same ?_)⟩
        have fin := repAll_of (c := c) (F := F) (ps := (vs.zip ds).mergeSort (PySem.W.dataLe false fun b : V × D => b.2.py)) fun p hp => repAll_mem ra p (List.mem_mergeSort.mp hp)
        have e2 : ((vs.zip ds).mergeSort (PySem.W.dataLe false fun b : V × D => b.2.py)).map (·.2) = ds.mergeSort leD := by
          rw [List.map_mergeSort (s := leD) (f := fun b : V × D => b.2)]
          · congr 1
            rw [List.map_snd_zip]
            exact Nat.le_of_eq ra.length.symm
          · intro p _ p' _
            rfl
        rw [e2] at fin
        exact fin.up st.sub
    · exact absurd o not_ok_stuck
  · exact absurd o not_ok_stuck
end
end DL

/-! ## DExp -/
set_option Elab.async false
set_option autoImplicit false
set_option linter.all false
set_option maxRecDepth 100000
set_option maxHeartbeats 2000000
/-! DExp: expressions, by plain data. -/
namespace DL
open PySem PySem.Spec PyProof.Rows L2
section
variable {X : Cx} {c : C} {a b e : Expr} {es : List Expr} {fa fb f : E} {fs : Es} {pos : Pos}

/-! ### two operands, one -/
theorem two_imp {h : D → D → M D} : ∀ σ H Q, tP c (eO h fa fb) σ H Q → tOp (oD c h) (tR c fa) (tR c fb) σ H Q := fun σ H Q ⟨H0, F, δ, g, d, g', w, o, q⟩ => by
  obtain ⟨x, g1, o1, o⟩ := ok_bind.mp o
  obtain ⟨y, g2, o2, o3⟩ := ok_bind.mp o
  exact ⟨H0, F, δ, g, x, g1, w, o1, fun v F1 H1 s1 r1 => ⟨H0, F1, δ, g1, y, g2, w.step s1, o2, fun u F2 H2 s2 r2 =>
    ⟨F2, x, y, d, g2, g', s2.le, s2.gen, r1.step s2, r2, o3, fun z F3 H3 s3 r3 => q z F3 H3 ((s1.trans s2).trans s3) r3⟩⟩⟩
theorem d_op {op : Operator} {h : D → D → M D} (ho : OpR X (binaryOp op) (oD c h)) (ha : PE X a (tR c fa)) (hb : PE X b (tR c fb)) : PE X (.BinOp a op b pos) (tP c (eO h fa fb)) := (pe_op ho ha hb).imp two_imp
theorem d_cmp {op : CmpOp} {h : D → D → M D} (ho : OpR X (compareOp op) (oD c h)) (ha : PE X a (tR c fa)) (hb : PE X b (tR c fb)) (hm : behindInMarks op b = false := by rfl) : PE X (.Compare a [op] [b] pos) (tP c (eO h fa fb)) := (pe_cmpR ho ha hb hm).imp two_imp
theorem d_ix (ha : PE X a (tR c fa)) (hb : PE X b (tR c fb)) (hs : PlainIx b := by exact fun _ _ => rfl) : PE X (.Subscript a b pos) (tP c (eO dIx fa fb)) := (pe_ix ix_d ha hb hs).imp two_imp
/-- a test: a value that is True or False -/
theorem d_test (h : PE X e (tR c f)) (he : ∀ whole, isTrue e X.env whole = (do let v ← whole; standAt e.pos; holding [v] (truthy v)) := by intro _; rfl) : PT X e (tT c f) := (pt_val h he).imp fun σ H Q ⟨H0, F, δ, g, d, g', w, o, q⟩ =>
  ⟨H0, F, δ, g, .bl d, g', w, o, fun v F' H' s r => by
    have r := r.rep rfl
    cases r
    exact ⟨d, rfl, q F' H' s⟩⟩
theorem dt_cmp {op : CmpOp} {h : D → D → M D} (ho : OpR X (compareOp op) (oD c h)) (ha : PE X a (tR c fa)) (hb : PE X b (tR c fb)) (hm : behindInMarks op b = false := by rfl) : PT X (.Compare a [op] [b] pos) (tT c (eO h fa fb)) := (pt_cmpR ho ha hb hm).imp fun σ H Q ⟨H0, F, δ, g, d, g', w, o, q⟩ =>
  two_imp σ H _ ⟨H0, F, δ, g, .bl d, g', w, o, fun v F' H' s r => by
    cases r
    exact ⟨d, rfl, q F' H' s⟩⟩
theorem dt_not (ha : PT X a (tT c fa)) : PT X (.UnaryOp .Not a pos) (tT c (eF dNot fa)) := (pt_not ha).imp fun σ H Q ⟨H0, F, δ, g, d, g', w, o, q⟩ => by
  obtain ⟨x, g1, o1, o2⟩ := ok_bind.mp o
  unfold dNot at o2
  split at o2
  · obtain ⟨e, rfl⟩ := ok_pure.mp o2
    cases e
    exact ⟨H0, F, δ, g, _, g1, w, o1, q⟩
  · exact absurd o2 not_ok_stuck
theorem dw_one_and (ha : PT X a (tT c fa)) : PW X (.BoolOp .And [a] pos) (tT c fa) := pw_and1 ha
theorem dw_one_or (ha : PT X a (tT c fa)) : PW X (.BoolOp .Or [a] pos) (tT c fa) := pw_or1 ha
theorem _root_.L2.PW.imp {X : Cx} {e : Expr} {t t' : TT} (h : PW X e t) (i : ∀ σ H Q, t' σ H Q → t σ H Q) : PW X e t' := ⟨fun wh pins s σ H Q I q => h.run wh pins s σ H Q I (i σ H Q q)⟩
theorem dw_and {b : Expr} {rest : List Expr} (ha : PT X a (tT c fa)) (hb : PW X (.BoolOp .And (b :: rest) pos) (tT c fb)) : PW X (.BoolOp .And (a :: b :: rest) pos) (tT c (eAnd fa fb)) := (pw_and ha hb).imp fun σ H Q ⟨H0, F, δ, g, d, g', w, o, q⟩ => by
  obtain ⟨x, g1, o1, o2⟩ := ok_bind.mp o
  split at o2
  · exact ⟨H0, F, δ, g, true, g1, w, o1, fun F1 H1 s1 => by
      refine iteT ?_
      exact ⟨H0, F1, δ, g1, d, g', w.step s1, o2, fun F2 H2 s2 => q F2 H2 (s1.trans s2)⟩⟩
  · obtain ⟨e, rfl⟩ := ok_pure.mp o2
    cases e
    exact ⟨H0, F, δ, g, false, g1, w, o1, fun F1 H1 s1 => by
      refine iteF ?_
      exact q F1 H1 s1⟩
  · exact absurd o2 not_ok_stuck
theorem dw_or {b : Expr} {rest : List Expr} (ha : PT X a (tT c fa)) (hb : PW X (.BoolOp .Or (b :: rest) pos) (tT c fb)) : PW X (.BoolOp .Or (a :: b :: rest) pos) (tT c (eOr fa fb)) := (pw_or ha hb).imp fun σ H Q ⟨H0, F, δ, g, d, g', w, o, q⟩ => by
  obtain ⟨x, g1, o1, o2⟩ := ok_bind.mp o
  split at o2
  · exact ⟨H0, F, δ, g, false, g1, w, o1, fun F1 H1 s1 => by
      refine iteF ?_
      exact ⟨H0, F1, δ, g1, d, g', w.step s1, o2, fun F2 H2 s2 => q F2 H2 (s1.trans s2)⟩⟩
  · obtain ⟨e, rfl⟩ := ok_pure.mp o2
    cases e
    exact ⟨H0, F, δ, g, true, g1, w, o1, fun F1 H1 s1 => by
      refine iteT ?_
      exact q F1 H1 s1⟩
  · exact absurd o2 not_ok_stuck
/-- and, or, not as values -/
theorem d_one {op} (ha : PE X a (tP c fa)) : PE X (.BoolOp op [a] pos) (tP c fa) := pe_one ha
theorem d_and {b : Expr} {rest : List Expr} (ha : PE X a (tR c fa)) (hb : PE X (.BoolOp .And (b :: rest) pos) (tP c fb)) : PE X (.BoolOp .And (a :: b :: rest) pos) (tP c (eAnd fa fb)) := (pe_and ha hb).imp fun σ H Q ⟨H0, F, δ, g, d, g', w, o, q⟩ => by
  obtain ⟨x, g1, o1, o2⟩ := ok_bind.mp o
  split at o2
  · exact ⟨H0, F, δ, g, .bl true, g1, w, o1, fun v F1 H1 s1 r => by
      have r := r.rep rfl
      cases r
      refine ⟨true, rfl, ?_⟩
      refine iteT ?_
      exact ⟨H0, F1, δ, g1, d, g', w.step s1, o2, fun v F2 H2 s2 r => q v F2 H2 (s1.trans s2) r⟩⟩
  · obtain ⟨e, rfl⟩ := ok_pure.mp o2
    cases e
    exact ⟨H0, F, δ, g, .bl false, g1, w, o1, fun v F1 H1 s1 r => by
      have r := r.rep rfl
      cases r
      refine ⟨false, rfl, ?_⟩
      refine iteF ?_
      exact q _ F1 H1 s1 (.bl false)⟩
  · exact absurd o2 not_ok_stuck
theorem d_or {b : Expr} {rest : List Expr} (ha : PE X a (tR c fa)) (hb : PE X (.BoolOp .Or (b :: rest) pos) (tP c fb)) : PE X (.BoolOp .Or (a :: b :: rest) pos) (tP c (eOr fa fb)) := (pe_or ha hb).imp fun σ H Q ⟨H0, F, δ, g, d, g', w, o, q⟩ => by
  obtain ⟨x, g1, o1, o2⟩ := ok_bind.mp o
  split at o2
  · exact ⟨H0, F, δ, g, .bl false, g1, w, o1, fun v F1 H1 s1 r => by
      have r := r.rep rfl
      cases r
      refine ⟨false, rfl, ?_⟩
      refine iteF ?_
      exact ⟨H0, F1, δ, g1, d, g', w.step s1, o2, fun v F2 H2 s2 r => q v F2 H2 (s1.trans s2) r⟩⟩
  · obtain ⟨e, rfl⟩ := ok_pure.mp o2
    cases e
    exact ⟨H0, F, δ, g, .bl true, g1, w, o1, fun v F1 H1 s1 r => by
      have r := r.rep rfl
      cases r
      refine ⟨true, rfl, ?_⟩
      refine iteT ?_
      exact q _ F1 H1 s1 (.bl true)⟩
  · exact absurd o2 not_ok_stuck
theorem d_not (ha : PE X a (tR c fa)) : PE X (.UnaryOp .Not a pos) (tP c (eF dNot fa)) := (pe_not ha).imp fun σ H Q ⟨H0, F, δ, g, d, g', w, o, q⟩ => by
  obtain ⟨x, g1, o1, o2⟩ := ok_bind.mp o
  unfold dNot at o2
  split at o2
  · obtain ⟨e, rfl⟩ := ok_pure.mp o2
    subst e
    exact ⟨H0, F, δ, g, _, g1, w, o1, fun v F1 H1 s1 r => by
      have r := r.rep rfl
      cases r
      exact ⟨_, rfl, q _ F1 H1 s1 (.bl _)⟩⟩
  · exact absurd o2 not_ok_stuck
theorem d_if {t : Expr} {ft : E} (ht : PT X t (tT c ft)) (ha : PE X a (tP c fa)) (hb : PE X b (tP c fb)) : PE X (.IfExp t a b pos) (tP c (eIf ft fa fb)) := (pe_ifExp ht ha hb).imp fun σ H Q ⟨H0, F, δ, g, d, g', w, o, q⟩ => by
  obtain ⟨x, g1, o1, o2⟩ := ok_bind.mp o
  split at o2
  · exact ⟨H0, F, δ, g, true, g1, w, o1, fun F1 H1 s1 => by
      refine iteT ?_
      exact ⟨H0, F1, δ, g1, d, g', w.step s1, o2, fun v F2 H2 s2 r => q v F2 H2 (s1.trans s2) r⟩⟩
  · exact ⟨H0, F, δ, g, false, g1, w, o1, fun F1 H1 s1 => by
      refine iteF ?_
      exact ⟨H0, F1, δ, g1, d, g', w.step s1, o2, fun v F2 H2 s2 r => q v F2 H2 (s1.trans s2) r⟩⟩
  · exact absurd o2 not_ok_stuck
def dIsN (d : D) : M D := pure (.bl d.isNon)
def dNotN (d : D) : M D := pure (.bl (!d.isNon))
theorem d_isN {j pos'} (ha : PE X a (tR c fa)) : PE X (.Compare a [.Is] [.Constant .none j pos'] pos) (tP c (eF dIsN fa)) := (pe_cmp (pc_isN ha) rfl).imp fun σ H Q ⟨H0, F, δ, g, d, g', w, o, q⟩ => by
  obtain ⟨x, g1, o1, o2⟩ := ok_bind.mp o
  obtain ⟨rfl, rfl⟩ := ok_pure.mp o2
  exact ⟨H0, F, δ, g, x, g1, w, o1, fun v F1 H1 s1 r => by dsimp only; rw [isN_val r]; exact q _ F1 H1 s1 (.bl _)⟩
theorem d_notN {j pos'} (ha : PE X a (tR c fa)) : PE X (.Compare a [.IsNot] [.Constant .none j pos'] pos) (tP c (eF dNotN fa)) := (pe_cmp (pc_notN ha) rfl).imp fun σ H Q ⟨H0, F, δ, g, d, g', w, o, q⟩ => by
  obtain ⟨x, g1, o1, o2⟩ := ok_bind.mp o
  obtain ⟨rfl, rfl⟩ := ok_pure.mp o2
  exact ⟨H0, F, δ, g, x, g1, w, o1, fun v F1 H1 s1 r => by dsimp only; rw [isN_val r]; exact q _ F1 H1 s1 (.bl _)⟩
theorem dt_isN {j pos'} (ha : PE X a (tR c fa)) : PT X (.Compare a [.Is] [.Constant .none j pos'] pos) (tT c (eF dIsN fa)) := (pt_cmp (pc_isN ha) rfl).imp fun σ H Q ⟨H0, F, δ, g, d, g', w, o, q⟩ => by
  obtain ⟨x, g1, o1, o2⟩ := ok_bind.mp o
  obtain ⟨e, rfl⟩ := ok_pure.mp o2
  cases e
  exact ⟨H0, F, δ, g, x, g1, w, o1, fun v F1 H1 s1 r => by dsimp only; rw [isN_val r]; exact ⟨_, rfl, q F1 H1 s1⟩⟩
theorem dt_notN {j pos'} (ha : PE X a (tR c fa)) : PT X (.Compare a [.IsNot] [.Constant .none j pos'] pos) (tT c (eF dNotN fa)) := (pt_cmp (pc_notN ha) rfl).imp fun σ H Q ⟨H0, F, δ, g, d, g', w, o, q⟩ => by
  obtain ⟨x, g1, o1, o2⟩ := ok_bind.mp o
  obtain ⟨e, rfl⟩ := ok_pure.mp o2
  cases e
  exact ⟨H0, F, δ, g, x, g1, w, o1, fun v F1 H1 s1 r => by dsimp only; rw [isN_val r]; exact ⟨_, rfl, q F1 H1 s1⟩⟩

/-! ### displays, arguments -/
theorem das_nil : PA X [] (tAs c esN) := pa_nil.imp fun σ H Q ⟨H0, F, δ, g, d, g', w, o, q⟩ => by
  obtain ⟨rfl, rfl⟩ := ok_pure.mp o
  exact q [] F H (.refl w.le w.gen) .nil
theorem das_cons (ha : PE X e (tP c f)) (hr : PA X es (tAs c fs)) (hs : starEach (e :: es) X.env = (false, eval e X.env) :: starEach es X.env := by rfl) : PA X (e :: es) (tAs c (esC f fs)) := (pa_cons ha hr hs).imp fun σ H Q ⟨H0, F, δ, g, d, g', w, o, q⟩ => by
  obtain ⟨x, g1, o1, o⟩ := ok_bind.mp o
  obtain ⟨xs, g2, o2, o⟩ := ok_bind.mp o
  obtain ⟨rfl, rfl⟩ := ok_pure.mp o
  exact ⟨H0, F, δ, g, x, g1, w, o1, fun v F1 H1 s1 r1 => ⟨H0, F1, δ, g1, xs, g2, w.step s1, o2, fun vs F2 H2 s2 r2 => q _ F2 H2 (s1.trans s2) (.cons (r1.up s2.sub) r2)⟩⟩
theorem d_lst (h : PA X es (tAs c fs)) : PE X (.List es pos) (tP c (eLst fs)) := (pe_lst h).imp fun σ H Q ⟨H0, F, δ, g, d, g', w, o, q⟩ => by
  obtain ⟨xs, g1, o1, o⟩ := ok_bind.mp o
  split at o
  · rename_i hl
    obtain ⟨rfl, rfl⟩ := ok_pure.mp o
    refine ⟨H0, F, δ, g, xs, g1, w, o1, fun vs F1 H1 s1 r1 => ⟨by rw [r1.length]; exact lim_le hl, fun p hp => ?_⟩⟩
    have st := Stp.lay (o := .lst vs) s1.le s1.gen hp
    exact q _ _ _ (s1.trans st) (.lst upd_same (r1.up st.sub))
  · exact absurd o not_ok_stuck
theorem d_tup {x1} (h : PA X es (tAs c fs)) : PE X (.Tuple es x1 pos) (tP c (eTup fs)) := (pe_tup h).imp fun σ H Q ⟨H0, F, δ, g, d, g', w, o, q⟩ => by
  obtain ⟨xs, g1, o1, o⟩ := ok_bind.mp o
  split at o
  · rename_i hl
    obtain ⟨rfl, rfl⟩ := ok_pure.mp o
    refine ⟨H0, F, δ, g, xs, g1, w, o1, fun vs F1 H1 s1 r1 => ⟨by rw [r1.length]; exact lim_le hl, fun p hp => ?_⟩⟩
    have st := Stp.lay (o := .tup vs) s1.le s1.gen hp
    exact q _ _ _ (s1.trans st) (.tup upd_same (r1.up st.sub))
  · exact absurd o not_ok_stuck
/-- {} -/
theorem d_dct0 : PE X (.Dict [] [] pos) (tP c (eK (.dct []))) := pe_dnewK.imp fun σ H Q ⟨H0, F, δ, g, d, g', w, o, q⟩ => by
  obtain ⟨rfl, rfl⟩ := ok_pure.mp o
  intro p hp
  exact q _ _ _ (Stp.lay w.le w.gen hp) (.dct0 upd_same)

/-! ### slices -/
def tOs (c : C) (f : Dlt → M (Option Int)) : TO := fun σ H Q => ∃ H0 F δ g d g', Wd c H0 F H σ δ g ∧ Ok (f δ) g d g' ∧ ∀ F' H', Stp c F H F' H' g' → Q d H'
theorem _root_.L2.PO.imp {X : Cx} {e : Option Expr} {t t' : TO} (h : PO X e t) (i : ∀ σ H Q, t' σ H Q → t σ H Q) : PO X e t' := ⟨fun pins s σ H Q I q => h.run pins s σ H Q I (i σ H Q q)⟩
theorem do_none : PO X none (tOs c eNo) := po_none.imp fun σ H Q ⟨H0, F, δ, g, d, g', w, o, q⟩ => by
  obtain ⟨rfl, rfl⟩ := ok_pure.mp o
  exact q F H (.refl w.le w.gen)
theorem do_some (ha : PE X e (tR c f)) : PO X (some e) (tOs c (eAt f)) := (po_some ha).imp fun σ H Q ⟨H0, F, δ, g, d, g', w, o, q⟩ => by
  obtain ⟨x, g1, o1, o⟩ := ok_bind.mp o
  split at o
  · obtain ⟨rfl, rfl⟩ := ok_pure.mp o
    exact ⟨H0, F, δ, g, _, g1, w, o1, fun v F1 H1 s1 r1 => by
      have r := r1.rep rfl
      cases r
      exact ⟨_, rfl, q F1 H1 s1⟩⟩
  · exact absurd o not_ok_stuck
theorem d_cut {lo hi : Option Expr} {fl fh : Dlt → M (Option Int)} {p2 : Pos} (ha : PE X e (tR c f)) (hl : PO X lo (tOs c fl)) (hh : PO X hi (tOs c fh)) : PE X (.Subscript e (.Slice lo hi none p2) pos) (tP c (eCut f fl fh)) := (pe_slice sl_d ha hl hh).imp fun σ H Q ⟨H0, F, δ, g, d, g', w, o, q⟩ => by
  obtain ⟨x, g1, o1, o⟩ := ok_bind.mp o
  obtain ⟨l, g2, o2, o⟩ := ok_bind.mp o
  obtain ⟨u, g3, o3, o⟩ := ok_bind.mp o
  exact ⟨H0, F, δ, g, x, g1, w, o1, fun v F1 H1 s1 r1 => ⟨H0, F1, δ, g1, l, g2, w.step s1, o2, fun F2 H2 s2 => ⟨H0, F2, δ, g2, u, g3, (w.step s1).step s2, o3, fun F3 H3 s3 =>
    ⟨F3, x, d, g3, g', s3.le, s3.gen, (r1.step s2).step s3, o, fun z F4 H4 s4 r4 => q z F4 H4 (((s1.trans s2).trans s3).trans s4) r4⟩⟩⟩⟩
theorem d_rev {k : Nat} {p1 p2 p3 : Pos} (ha : PE X e (tR c f)) : PE X (.Subscript e (.Slice none none (some (.UnaryOp .USub (.Constant (.int 1) k p1) p2)) p3) pos) (tP c (eF dRev f)) := (pe_revL ha).imp fun σ H Q ⟨H0, F, δ, g, d, g', w, o, q⟩ => by
  obtain ⟨x, g1, o1, o⟩ := ok_bind.mp o
  unfold dRev at o
  split at o
  · obtain ⟨rfl, rfl⟩ := ok_pure.mp o
    refine ⟨H0, F, δ, g, _, g1, w, o1, fun v F1 H1 s1 r1 => ?_⟩
    obtain ⟨a, vs, rfl, ea, ra⟩ := r1.lst s1.le
    refine ⟨a, vs, rfl, SqL.of ea, fun p hp => ?_⟩
    have st := Stp.lay (o := .lst vs.reverse) s1.le s1.gen hp
    exact q _ _ _ (s1.trans st) (.lst upd_same (ra.reverse.up st.sub))
  · exact absurd o not_ok_stuck

/-! ### calls of built-ins -/
theorem one_imp {h : D → M D} : ∀ σ H Q, tP c (eF h fa) σ H Q → tCB (c1 c h) (tCons (tR c fa) tNil) σ H Q := fun σ H Q ⟨H0, F, δ, g, d, g', w, o, q⟩ => by
  obtain ⟨x, g1, o1, o⟩ := ok_bind.mp o
  exact ⟨H0, F, δ, g, x, g1, w, o1, fun v F1 H1 s1 r1 => ⟨v, rfl, F1, x, d, g1, g', s1.le, s1.gen, r1, o, fun z F2 H2 s2 r2 => q z F2 H2 (s1.trans s2) r2⟩⟩
theorem pair_imp {h : D → D → M D} : ∀ σ H Q, tP c (eO h fa fb) σ H Q → tCB (c2 c h) (tCons (tR c fa) (tCons (tR c fb) tNil)) σ H Q := fun σ H Q ⟨H0, F, δ, g, d, g', w, o, q⟩ => by
  obtain ⟨x, g1, o1, o⟩ := ok_bind.mp o
  obtain ⟨y, g2, o2, o⟩ := ok_bind.mp o
  exact ⟨H0, F, δ, g, x, g1, w, o1, fun v F1 H1 s1 r1 => ⟨H0, F1, δ, g1, y, g2, w.step s1, o2, fun u F2 H2 s2 r2 => ⟨v, u, rfl, F2, x, y, d, g2, g', s2.le, s2.gen, r1.step s2, r2, o, fun z F3 H3 s3 r3 => q z F3 H3 ((s1.trans s2).trans s3) r3⟩⟩⟩
variable {x : Str} {p : Pos} {id T : String}
theorem d_b1 {h : D → M D} (hc : CallR X (.builtin id) (c1 c h)) (hm : X.mg x = none) (hv : bootBuiltins x = some (.builtin id)) (ha : PE X a (tR c fa)) (hg : Gl X x := by rfl) (hn : x ≠ "__name__" := by decide) (hdb : (x == ("__debug__" : Str)) = false := by decide)
    (he : starEach [a] X.env = (false, eval a X.env) :: starEach [] X.env := by rfl) : PE X (.Call (.Name x p) [a] [] pos) (tP c (eF h fa)) := (pe_callB hc hg hm hv (pa_cons ha pa_nil he) hn hdb he rfl).imp one_imp
theorem d_b2 {h : D → D → M D} (hc : CallR X (.builtin id) (c2 c h)) (hm : X.mg x = none) (hv : bootBuiltins x = some (.builtin id)) (ha : PE X a (tR c fa)) (hb : PE X b (tR c fb)) (hg : Gl X x := by rfl) (hn : x ≠ "__name__" := by decide) (hdb : (x == ("__debug__" : Str)) = false := by decide)
    (he : starEach [a, b] X.env = (false, eval a X.env) :: starEach [b] X.env := by rfl) (he2 : starEach [b] X.env = (false, eval b X.env) :: starEach [] X.env := by rfl) (hpl : (backTo pos (starEach [b] X.env)).any (·.1) = false := by rfl) :
    PE X (.Call (.Name x p) [a, b] [] pos) (tP c (eO h fa fb)) := (pe_callB hc hg hm hv (pa_cons ha (pa_cons hb pa_nil he2) he) hn hdb he hpl).imp pair_imp
theorem d_t1 {h : D → M D} (hc : CallR X (.type T) (c1 c h)) (hm : X.mg x = none) (hv : bootBuiltins x = some (.type T)) (ha : PE X a (tR c fa)) (hg : Gl X x := by rfl) (hn : x ≠ "__name__" := by decide) (hdb : (x == ("__debug__" : Str)) = false := by decide)
    (he : starEach [a] X.env = (false, eval a X.env) :: starEach [] X.env := by rfl) : PE X (.Call (.Name x p) [a] [] pos) (tP c (eF h fa)) := (pe_callTy hc hg hm hv (pa_cons ha pa_nil he) hn hdb he rfl).imp one_imp
/-- isinstance(a, T) -/
theorem d_isi {t : String} {y : Str} {p2 : Pos} (ht : t ∈ ["bool", "int", "str", "list", "tuple", "dict"]) (hm : X.mg "isinstance" = none) (hv : bootBuiltins "isinstance" = some (.builtin "isinstance")) (hy : X.mg y = none) (hvy : bootBuiltins y = some (.type t))
    (ha : PE X a (tR c fa)) (hg : Gl X "isinstance" := by rfl) (hgy : Gl X y := by rfl) (hn : y ≠ "__name__" := by decide) (hdb : (y == ("__debug__" : Str)) = false := by decide)
    (he : starEach [a, .Name y p2] X.env = (false, eval a X.env) :: starEach [.Name y p2] X.env := by rfl) :
    PE X (.Call (.Name "isinstance" p) [a, .Name y p2] [] pos) (tP c (eF (fun d => dIsI d t) fa)) :=
  (pe_callB (isi_c (c := c) ht) hg hm hv (pa_cons ha (pa_cons (pe_bltn (v := .ty t) hgy hy hvy rfl hn hdb) pa_nil) he) (by decide) (by decide) he rfl).imp fun σ H Q ⟨H0, F, δ, g, d, g', w, o, q⟩ => by
    obtain ⟨x, g1, o1, o⟩ := ok_bind.mp o
    exact ⟨H0, F, δ, g, x, g1, w, o1, fun v F1 H1 s1 r1 => ⟨v, rfl, F1, x, d, g1, g', s1.le, s1.gen, r1, o, fun z F2 H2 s2 r2 => q z F2 H2 (s1.trans s2) r2⟩⟩
/-- isinstance(a, (T, U)) -/
theorem d_isi2 {t u : String} {y z : Str} {p2 p3 p4 : Pos} {k} (ht : t ∈ ["bool", "int", "str", "list", "tuple", "dict"]) (hu : u ∈ ["bool", "int", "str", "list", "tuple", "dict"]) (hm : X.mg "isinstance" = none) (hv : bootBuiltins "isinstance" = some (.builtin "isinstance"))
    (hy : X.mg y = none) (hvy : bootBuiltins y = some (.type t)) (hz : X.mg z = none) (hvz : bootBuiltins z = some (.type u))
    (ha : PE X a (tR c fa)) (hg : Gl X "isinstance" := by rfl) (hgy : Gl X y := by rfl) (hgz : Gl X z := by rfl) (hn : y ≠ "__name__" := by decide) (hdb : (y == ("__debug__" : Str)) = false := by decide) (hnz : z ≠ "__name__" := by decide) (hdbz : (z == ("__debug__" : Str)) = false := by decide)
    (he : starEach [a, .Tuple [.Name y p2, .Name z p3] k p4] X.env = (false, eval a X.env) :: starEach [.Tuple [.Name y p2, .Name z p3] k p4] X.env := by rfl) :
    PE X (.Call (.Name "isinstance" p) [a, .Tuple [.Name y p2, .Name z p3] k p4] [] pos) (tP c (eF (fun d => dIsI2 d t u) fa)) :=
  (pe_callB (isi2_c (c := c) ht hu) hg hm hv (pa_cons ha (pa_cons (pe_tup (pa_cons (pe_bltn (v := .ty t) hgy hy hvy rfl hn hdb) (pa_cons (pe_bltn (v := .ty u) hgz hz hvz rfl hnz hdbz) pa_nil))) pa_nil) he) (by decide) (by decide) he rfl).imp fun σ H Q ⟨H0, F, δ, g, d, g', w, o, q⟩ => by
    obtain ⟨x, g1, o1, o⟩ := ok_bind.mp o
    exact ⟨H0, F, δ, g, x, g1, w, o1, fun v F1 H1 s1 r1 => ⟨by show 2 ≤ sizeLine; decide, fun p hp => ⟨v, p, rfl, upd_same, F1, x, d, g1, g', (Stp.tmp s1.le s1.gen hp).le, (Stp.tmp s1.le s1.gen hp).gen, r1.step (Stp.tmp s1.le s1.gen hp), o,
      fun z F2 H2 s2 r2 => q z F2 H2 ((s1.trans (Stp.tmp s1.le s1.gen hp)).trans s2) r2⟩⟩⟩
/-- xs.index(e) -/
theorem d_index {apos : Pos} (ha : PE X a (tR c fa)) (hb : PE X b (tR c fb)) (hbase : attributeBase a "index" X.env (eval a X.env) = eval a X.env := by rfl)
    (hfew : ((backTo pos (starEach [b] X.env)).all (fun x => !x.1) && (backToKw pos (keywordEach [] X.env)).all (fun x => x.1.isSome) && decide ([b].length + ([] : List Keyword).length + (if ([] : List Keyword).isEmpty then 0 else 1) < 30)) = true := by rfl)
    (hline : (apos.endLine == pos.line) = true := by rfl) (hs : starEach [b] X.env = (false, eval b X.env) :: starEach [] X.env := by rfl) :
    PE X (.Call (.Attribute a "index" apos) [b] [] pos) (tP c (eO dIndex fa fb)) :=
  (pe_bm PySem.F.plainAttrs_list PySem.F.slot_list_index PySem.F.type_list_index (index_m (c := c)) ha (pa_cons hb pa_nil hs) hbase hfew hline hs rfl).imp fun σ H Q ⟨H0, F, δ, g, d, g', w, o, q⟩ => by
    obtain ⟨x, g1, o1, o⟩ := ok_bind.mp o
    obtain ⟨y, g2, o2, o⟩ := ok_bind.mp o
    refine ⟨H0, F, δ, g, x, g1, w, o1, fun v F1 H1 s1 r1 => ⟨?_, ⟨H0, F1, δ, g1, y, g2, w.step s1, o2, fun u F2 H2 s2 r2 => ⟨u, rfl, F2, x, y, d, g2, g', s2.le, s2.gen, r1.step s2, r2, o, fun z F3 H3 s3 r3 => q z F3 H3 ((s1.trans s2).trans s3) r3⟩⟩⟩⟩
    cases x with
    | lst ds =>
      obtain ⟨a, vs, rfl, ea, _⟩ := r1.lst s1.le
      exact .inl ⟨rfl, _, SqL.of ea⟩
    | _ => exact absurd o not_ok_stuck
end
end DL

/-! ## DIt -/
set_option Elab.async false
set_option autoImplicit false
set_option linter.all false
set_option maxRecDepth 100000
set_option maxHeartbeats 2000000
/-! DIt: targets, what a loop walks, list comprehensions, by plain data. -/
namespace DL
open PySem PySem.Spec PyProof.Rows L2

/-! ### targets -/
theorem wipe_set {σ : L2.St} {i : Nat} {x : Option V} : ∀ {vs : List Nat}, i ∈ vs → wipe (σ.set i x) vs = wipe σ vs
  | [], h => by cases h
  | j :: vs, h => by
    unfold wipe
    by_cases hi : i ∈ vs
    · rw [wipe_set hi]
    · have e : i = j := by
        rcases List.mem_cons.mp h with e | e
        · exact e
        · exact absurd e hi
      subst e
      have comm : ∀ (ws : List Nat), i ∉ ws → wipe (σ.set i x) ws = (wipe σ ws).set i x := by
        intro ws
        induction ws with
        | nil => intro _; rfl
        | cons k ws ih =>
          intro hk
          simp only [List.mem_cons, not_or] at hk
          show (wipe (σ.set i x) ws).set k none = ((wipe σ ws).set k none).set i x
          rw [ih hk.2, List.set_comm _ _ (fun e => hk.1 (by rw [e]))]
      rw [comm vs hi, List.set_set]
theorem wipe_wipe (σ : L2.St) : ∀ vs : List Nat, wipe (wipe σ vs) vs = wipe σ vs
  | [] => rfl
  | i :: vs => by
    show (wipe ((wipe σ vs).set i none) vs).set i none = (wipe σ vs).set i none
    have h : ∀ (τ : L2.St), (wipe (τ.set i none) vs).set i none = (wipe τ vs).set i none := fun τ => by
      by_cases hi : i ∈ vs
      · rw [wipe_set hi]
      · have comm : ∀ (ws : List Nat), i ∉ ws → wipe (τ.set i none) ws = (wipe τ ws).set i none := by
          intro ws
          induction ws with
          | nil => intro _; rfl
          | cons k ws ih =>
            intro hk
            simp only [List.mem_cons, not_or] at hk
            show (wipe (τ.set i none) ws).set k none = ((wipe τ ws).set k none).set i none
            rw [ih hk.2, List.set_comm _ _ (fun e => hk.1 (by rw [e]))]
        rw [comm vs hi, List.set_set]
    rw [h, wipe_wipe σ vs]

/-- what a target's slots are; the datum goes to them -/
def gD (c : C) (gd : G) (is : List Nat) : TG := fun v σ H Q => ∃ H0 F δ g d δ', Wd c H0 F H σ δ g ∧ Rep c F v d ∧ gd d δ = some δ' ∧
  ∀ σ', Wd c H0 F H σ' δ' g → (∀ vs : List Nat, (∀ i ∈ is, i ∈ vs) → wipe σ' vs = wipe σ vs) → (∀ (i : Nat) (xs : List D), δ'[i]? = some (Sl.own xs) → δ[i]? = some (Sl.own xs) ∧ σ'[i]? = σ[i]?) → Q σ' H
def gsD (c : C) (gs : List G) (is : List Nat) : TGs := fun us σ H Q => ∃ H0 F δ g ds δ', Wd c H0 F H σ δ g ∧ RepAll c F us ds ∧ gGo gs ds δ = some δ' ∧
  ∀ σ', Wd c H0 F H σ' δ' g → (∀ vs : List Nat, (∀ i ∈ is, i ∈ vs) → wipe σ' vs = wipe σ vs) → (∀ (i : Nat) (xs : List D), δ'[i]? = some (Sl.own xs) → δ[i]? = some (Sl.own xs) ∧ σ'[i]? = σ[i]?) → Q σ' H
theorem _root_.L2.PG.imp {X : Cx} {e : Expr} {t t' : TG} (h : PG X e t) (i : ∀ v σ H Q, t' v σ H Q → t v σ H Q) : PG X e t' := ⟨fun pins s σ H v u Q I r q => h.run pins s σ H v u Q I r (i v σ H Q q)⟩
theorem _root_.L2.PGs.imp {X : Cx} {e : List Expr} {t t' : TGs} (h : PGs X e t) (i : ∀ v σ H Q, t' v σ H Q → t v σ H Q) : PGs X e t' := ⟨fun pins s σ H v u Q I r q => h.run pins s σ H v u Q I r (i v σ H Q q)⟩
section
variable {X : Cx} {c : C} {e : Expr} {es : List Expr} {pos : Pos}
theorem dg_name {i : Nat} (h : PG X e (gName i)) : PG X e (gD c (gN i) [i]) := h.imp fun v σ H Q ⟨H0, F, δ, g, d, δ', w, r, o, q⟩ => by
  cases o
  refine q _ (w.set r) (fun vs hv => wipe_set (hv i (List.mem_singleton.mpr rfl))) fun j xs hj => ?_
  by_cases e : i = j
  · subst e
    by_cases hl : i < δ.length
    · rw [List.getElem?_set_self hl] at hj; cases hj
    · rw [List.getElem?_eq_none (by simpa using hl)] at hj; cases hj
  · rw [List.getElem?_set_ne e] at hj ⊢
    exact ⟨hj, rfl⟩
theorem dgs_nil : PGs X [] (gsD c [] []) := pgs_nil.imp fun vs σ H Q ⟨H0, F, δ, g, ds, δ', w, r, o, q⟩ => by
  cases ds with
  | nil =>
    cases r
    cases o
    exact ⟨rfl, q σ w (fun _ _ => rfl) fun i xs h => ⟨h, rfl⟩⟩
  | cons d ds => cases o
theorem dgs_cons {gd : G} {gs : List G} {is js : List Nat} (h1 : PG X e (gD c gd is)) (h2 : PGs X es (gsD c gs js)) (hs : (assignEach (e :: es) X.env).map (·.2) = assign e X.env :: (assignEach es X.env).map (·.2) := by rfl) : PGs X (e :: es) (gsD c (gd :: gs) (is ++ js)) :=
  (pgs_cons h1 h2 hs).imp fun us σ H Q ⟨H0, F, δ, g, ds, δ', w, r, o, q⟩ => by
    cases r with
    | nil => cases o
    | @cons _ v vs d ds r rs =>
      unfold gGo at o
      obtain ⟨δ1, o1, o2⟩ := Option.bind_eq_some_iff.mp o
      refine ⟨v, vs, rfl, H0, F, δ, g, d, δ1, w, r, o1, fun σ1 w1 k1 l1 => ⟨H0, F, δ1, g, ds, δ', w1, rs, o2, fun σ2 w2 k2 l2 => q σ2 w2 (fun vs hv => ?_) fun i xs hi => ?_⟩⟩
      · rw [k2 vs fun i hi => hv i (List.mem_append_right _ hi), k1 vs fun i hi => hv i (List.mem_append_left _ hi)]
      · obtain ⟨a1, a2⟩ := l2 i xs hi
        obtain ⟨b1, b2⟩ := l1 i xs a1
        exact ⟨b1, a2.trans b2⟩
theorem dg_tup {gs : List G} {is : List Nat} {k : Nat} (hc : X.calm = true) (h : PGs X es (gsD c gs is)) (hn : (assignEach es X.env).length = gs.length := by rfl) (hst : (assignEach es X.env).findIdx? (·.1) = none := by rfl) : PG X (.Tuple es k pos) (gD c (gT gs) is) :=
  (pg_tup hc h hn hst).imp fun v σ H Q ⟨H0, F, δ, g, d, δ', w, r, o, q⟩ => by
    unfold gT at o
    split at o
    · rename_i ds
      cases r with
      | @tup _ a vs _ ea ra =>
        refine ⟨a, vs, rfl, SqT.of (w.le _ _ ea), ?_, H0, F, δ, g, ds, δ', w, ra, o, q⟩
        have hl : ∀ (gs : List G) (ds : List D) (δ δ' : Dlt), gGo gs ds δ = some δ' → gs.length = ds.length := by
          intro gs
          induction gs with
          | nil => intro ds δ δ' h; cases ds with
            | nil => rfl
            | cons _ _ => cases h
          | cons g gs ih =>
            intro ds δ δ' h
            cases ds with
            | nil => cases h
            | cons d ds =>
              unfold gGo at h
              obtain ⟨δ1, _, o2⟩ := Option.bind_eq_some_iff.mp h
              simp [ih ds δ1 δ' o2]
        rw [ra.length, hl gs ds δ δ' o]
    · cases o
end

/-! ### what is walked -/
/-- J gives ds one by one, as long as what is relied on stands, and the objects at bs -/
structure WalkD (c : C) (J : It) (bs : List Addr) (F H : Hp) (ds : List D) : Prop where
  bk : ∀ b ∈ bs, H b ≠ none ∧ c.ga ≠ some b
  goes : ∀ (i : Nat) (F1 H1 : Hp), i < ds.length → Same F F1 → Same F1 H1 → (∀ b ∈ bs, H1 b = H b) → Same c.bo H1 → J.go i H1
  stops : ∀ (F1 H1 : Hp), Same F F1 → Same F1 H1 → (∀ b ∈ bs, H1 b = H b) → Same c.bo H1 → J.stop ds.length H1
  yields : ∀ (i : Nat) (F1 H1 : Hp) (g : Gs) (x : V) (H2 : Hp), i < ds.length → Same F F1 → Same F1 H1 → (∀ b ∈ bs, H1 b = H b) → GenOk c F1 H1 g → J.yld i H1 x H2 → ∃ F2 d, ds[i]? = some d ∧ Stp c F1 H1 F2 H2 g ∧ Rep c F2 x d
def iD (c : C) (src : Es) : TI := fun σ H R => ∃ H0 F δ g ds g', Wd c H0 F H σ δ g ∧ Ok (src δ) g ds g' ∧ ∀ J F' H', Stp c F H F' H' g' → WalkD c J [] F' H' ds → R J H'
def iB (c : C) (src : Es) : TI := fun σ H R => ∃ H0 F δ g ds g', Wd c H0 F H σ δ g ∧ Ok (src δ) g ds g' ∧ ∀ J bs F' H', Stp c F H F' H' g' → WalkD c J bs F' H' ds → R J H'
theorem _root_.L2.PI.imp {X : Cx} {tg e : Expr} {t t' : TI} (h : PI X tg e t) (i : ∀ σ H Q, t' σ H Q → t σ H Q) : PI X tg e t' := ⟨fun pins s σ H Q I q => h.run pins s σ H Q I (i σ H Q q)⟩
section
variable {X : Cx} {c : C} {tg e e2 : Expr} {f f2 : E} {src : Es} {pos p tpos : Pos} {elts : List Expr} {kk : Nat}
theorem _root_.L2.PI.b (h : PI X tg e (iD c src)) : PI X tg e (iB c src) := h.imp fun σ H R ⟨H0, F, δ, g, ds, g', w, o, q⟩ => ⟨H0, F, δ, g, ds, g', w, o, fun J F' H' s k => q J [] F' H' s k⟩
theorem walk_lst {K : PySem.W.Frag} {a : Addr} {vs : List V} {F H : Hp} {ds : List D} {bs : List Addr} (h : ∀ F1 H1, Same F F1 → Same F1 H1 → (∀ b ∈ bs, H1 b = H b) → H1 a = some (.lst vs)) (hb : ∀ b ∈ bs, H b ≠ none ∧ c.ga ≠ some b) (r : RepAll c F vs ds) : WalkD c (Itl K a) bs F H ds := by
  refine ⟨hb, fun i F1 H1 hi s1 s2 s3 _ => ?_, fun F1 H1 s1 s2 s3 _ => ⟨vs, SqL.of (h F1 H1 s1 s2 s3), Nat.le_of_eq r.length⟩, fun i F1 H1 g x H2 hi s1 s2 s3 gen hy => ?_⟩
  · obtain ⟨v, hv, _⟩ := r.get (List.getElem?_eq_getElem hi)
    exact ⟨vs, v, SqL.of (h F1 H1 s1 s2 s3), hv⟩
  · obtain ⟨rfl, hx⟩ := hy
    obtain ⟨d, hd, rd⟩ := r.getV (hx vs (SqL.of (h F1 _ s1 s2 s3)))
    exact ⟨F1, d, hd, .refl s2 gen, rd.up s1⟩
theorem wrapB_rep {F : Hp} : ∀ {vs : List V} {ds : List D}, RepAll c c.bo vs ds → RepAll c F vs (ds.map wrapB)
  | _, _, .nil => .nil
  | _, _, .cons (d := d) r t => by
    refine .cons ?_ (wrapB_rep t)
    unfold wrapB
    split
    · rename_i h
      cases d with
      | non => cases r; exact .non
      | bl b => cases r; exact .bl b
      | int i => cases r; exact .int i
      | str x => cases r; exact .str x
      | _ => cases h
    · exact .bor r
theorem walk_bor {K : PySem.W.Frag} {a : Addr} {vs : List V} {F H : Hp} {ds : List D} (h : c.bo a = some (.lst vs)) (r : RepAll c c.bo vs ds) : WalkD c (Itl K a) [] F H (ds.map wrapB) := by
  have r2 : RepAll c F vs (ds.map wrapB) := wrapB_rep r
  refine ⟨fun _ z => (nomatch z), fun i F1 H1 hi s1 s2 s3 sb => ?_, fun F1 H1 s1 s2 s3 sb => ⟨vs, SqL.of (sb _ _ h), Nat.le_of_eq r2.length⟩, fun i F1 H1 g x H2 hi s1 s2 s3 gen hy => ?_⟩
  · obtain ⟨v, hv, _⟩ := r2.get (List.getElem?_eq_getElem hi)
    exact ⟨vs, v, SqL.of (sb _ _ h), hv⟩
  · obtain ⟨rfl, hx⟩ := hy
    obtain ⟨d, hd, rd⟩ := r2.getV (hx vs (SqL.of (gen.bo _ _ h)))
    exact ⟨F1, d, hd, .refl s2 gen, rd.up s1⟩
/-- for x in xs -/
theorem di_lst (h : PE X e (tP c f)) : PI X tg e (iD c (xL f)) := (pi_list h).imp fun σ H R ⟨H0, F, δ, g, ds, g', w, o, q⟩ => by
  obtain ⟨x, g1, o1, o⟩ := ok_bind.mp o
  unfold rowOf at o
  split at o
  · obtain ⟨rfl, rfl⟩ := ok_pure.mp o
    refine ⟨H0, F, δ, g, _, g1, w, o1, fun v F1 H1 s1 r1 => ?_⟩
    cases r1 with
    | @lst _ a vs _ ea ra => exact ⟨a, rfl, ⟨vs, SqL.of (s1.le _ _ ea)⟩, q _ F1 H1 s1 (walk_lst (fun F2 H2 t1 t2 _ => t2 _ _ (t1 _ _ ea)) (fun _ z => nomatch z) ra)⟩
  · obtain ⟨rfl, rfl⟩ := ok_pure.mp o
    refine ⟨H0, F, δ, g, _, g1, w, o1, fun v F1 H1 s1 r1 => ?_⟩
    cases r1 with
    | bor r1 =>
      cases r1 with
      | @lst _ a vs _ ea ra => exact ⟨a, rfl, ⟨vs, SqL.of (s1.gen.bo _ _ ea)⟩, q _ F1 H1 s1 (walk_bor ea ra)⟩
  · exact absurd o not_ok_stuck
theorem di_rd (h : PE X e (tR c f)) : PI X tg e (iB c (xL f)) := (pi_list h).imp fun σ H R ⟨H0, F, δ, g, ds, g', w, o, q⟩ => by
  obtain ⟨x, g1, o1, o⟩ := ok_bind.mp o
  unfold rowOf at o
  split at o
  · obtain ⟨rfl, rfl⟩ := ok_pure.mp o
    refine ⟨H0, F, δ, g, _, g1, w, o1, fun v F1 H1 s1 r1 => ?_⟩
    rcases r1 with r1 | ⟨a, vs, ds', rfl, e2, ea, na, ra⟩
    · cases r1 with
      | @lst _ a vs _ ea ra => exact ⟨a, rfl, ⟨vs, SqL.of (s1.le _ _ ea)⟩, q _ [] F1 H1 s1 (walk_lst (fun F2 H2 t1 t2 _ => t2 _ _ (t1 _ _ ea)) (fun _ z => nomatch z) ra)⟩
    · cases e2
      exact ⟨a, rfl, ⟨vs, SqL.of ea⟩, q _ [a] F1 H1 s1 (walk_lst (fun F2 H2 t1 t2 t3 => (t3 a (List.mem_singleton.mpr rfl)).trans ea) (fun b hb => by
        rw [List.mem_singleton.mp hb]
        exact ⟨(fun z => by rw [ea] at z; cases z), na⟩) ra)⟩
  · obtain ⟨rfl, rfl⟩ := ok_pure.mp o
    refine ⟨H0, F, δ, g, _, g1, w, o1, fun v F1 H1 s1 r1 => ?_⟩
    have r1 := r1.rep rfl
    cases r1 with
    | bor r1 =>
      cases r1 with
      | @lst _ a vs _ ea ra => exact ⟨a, rfl, ⟨vs, SqL.of (s1.gen.bo _ _ ea)⟩, q _ [] F1 H1 s1 (walk_bor ea ra)⟩
  · exact absurd o not_ok_stuck
/-- for x in t -/
theorem di_tup (h : PE X e (tP c f)) : PI X tg e (iD c (xT f)) := (pi_tup h).imp fun σ H R ⟨H0, F, δ, g, ds, g', w, o, q⟩ => by
  obtain ⟨x, g1, o1, o⟩ := ok_bind.mp o
  unfold rowOfT at o
  split at o
  · obtain ⟨rfl, rfl⟩ := ok_pure.mp o
    refine ⟨H0, F, δ, g, _, g1, w, o1, fun v F1 H1 s1 r1 => ?_⟩
    cases r1 with
    | @tup _ a vs _ ea ra =>
      refine ⟨a, rfl, ⟨vs, SqT.of (s1.le _ _ ea)⟩, q _ F1 H1 s1 ⟨fun _ z => (nomatch z), fun i F2 H2 hi t1 t2 _ _ => ?_, fun F2 H2 t1 t2 _ _ => ⟨vs, SqT.of (t2 _ _ (t1 _ _ ea)), Nat.le_of_eq ra.length⟩, fun i F2 H2 g x H3 hi t1 t2 _ gen hy => ?_⟩⟩
      · obtain ⟨v, hv, _⟩ := ra.get (List.getElem?_eq_getElem hi)
        exact ⟨vs, v, SqT.of (t2 _ _ (t1 _ _ ea)), hv⟩
      · obtain ⟨rfl, hx⟩ := hy
        obtain ⟨d, hd, rd⟩ := ra.getV (hx vs (SqT.of (t2 _ _ (t1 _ _ ea))))
        exact ⟨F2, d, hd, .refl t2 gen, rd.up t1⟩
  · exact absurd o not_ok_stuck
theorem walk_rng {lo : Int} {n : Nat} {F H : Hp} : WalkD c (Itr lo n) [] F H ((List.range n).map fun k => .int (lo + (k : Nat))) := by
  refine ⟨fun _ z => (nomatch z), fun i F1 H1 hi _ _ _ _ => (show i < n by simpa using hi), fun F1 H1 _ _ _ _ => ?_, fun i F1 H1 g x H2 hi s1 s2 _ gen hy => ?_⟩
  · show n ≤ _
    simp
  · obtain ⟨rfl, rfl⟩ := hy
    have hi' : i < n := by simpa using hi
    exact ⟨F1, .int (lo + i), by simp [hi'], .refl s2 gen, .int _⟩
/-- for k in range(n) -/
theorem di_r1 (hm : X.mg "range" = none) (h : PE X e (tR c f)) (hg : Gl X "range" := by rfl) (hs : starEach [e] X.env = [(false, eval e X.env)] := by rfl) : PI X tg (.Call (.Name "range" p) [e] [] pos) (iD c (xR f)) :=
  (pi_range1 hg hm (pa_cons h pa_nil (by rw [hs]; rfl)) hs).imp fun σ H R ⟨H0, F, δ, g, ds, g', w, o, q⟩ => by
    obtain ⟨x, g1, o1, o⟩ := ok_bind.mp o
    split at o
    · split at o
      · rename_i hj
        obtain ⟨rfl, rfl⟩ := ok_pure.mp o
        refine ⟨H0, F, δ, g, _, g1, w, o1, fun v F1 H1 s1 r1 => ?_⟩
        have r1 := r1.rep rfl
        cases r1
        refine ⟨_, rfl, by omega, by omega, q _ F1 H1 s1 ?_⟩
        have wk := fun n => walk_rng (c := c) (lo := 0) (n := n) (F := F1) (H := H1)
        simp only [Int.zero_add] at wk
        exact wk _
      · exact absurd o not_ok_stuck
    · exact absurd o not_ok_stuck
/-- for k in range(a, b) -/
theorem di_r2 (hm : X.mg "range" = none) (h : PE X e (tR c f)) (h2 : PE X e2 (tR c f2)) (hg : Gl X "range" := by rfl) (hs : starEach [e, e2] X.env = [(false, eval e X.env), (false, eval e2 X.env)] := by rfl)
    (hs2 : starEach [e2] X.env = [(false, eval e2 X.env)] := by rfl) : PI X tg (.Call (.Name "range" p) [e, e2] [] pos) (iD c (xR2 f f2)) :=
  (pi_range2 hg hm (pa_cons h (pa_cons h2 pa_nil (by rw [hs2]; rfl)) (by rw [hs, hs2])) hs hs2).imp fun σ H R ⟨H0, F, δ, g, ds, g', w, o, q⟩ => by
    obtain ⟨x, g1, o1, o⟩ := ok_bind.mp o
    obtain ⟨y, g2, o2, o⟩ := ok_bind.mp o
    split at o
    · split at o
      · rename_i hj
        obtain ⟨rfl, rfl⟩ := ok_pure.mp o
        refine ⟨H0, F, δ, g, _, g1, w, o1, fun v F1 H1 s1 r1 => ⟨H0, F1, δ, g1, _, g2, w.step s1, o2, fun u F2 H2 s2 r2 => ?_⟩⟩
        have r1 := r1.rep rfl
        have r2 := r2.rep rfl
        cases r1; cases r2
        exact ⟨_, _, rfl, by omega, q _ F2 H2 (s1.trans s2) walk_rng⟩
      · exact absurd o not_ok_stuck
    · exact absurd o not_ok_stuck
theorem numFrom_get : ∀ (ds : List D) (n i : Nat), (numFrom n ds)[i]? = (ds[i]?).map fun d => .tup [.int ((n + i : Nat) : Int), d]
  | [], _, _ => by simp [numFrom]
  | d :: ds, n, 0 => by simp [numFrom]
  | d :: ds, n, i + 1 => by
    show (numFrom (n + 1) ds)[i]? = (ds[i]?).map _
    rw [numFrom_get ds (n + 1) i]
    congr 1
    funext d
    rw [show n + 1 + i = n + (i + 1) by omega]
theorem numFrom_len : ∀ (ds : List D) (n : Nat), (numFrom n ds).length = ds.length
  | [], _ => rfl
  | d :: ds, n => by simp [numFrom, numFrom_len ds (n + 1)]
theorem walk_num {K : PySem.W.Frag} {a : Addr} {vs : List V} {F H : Hp} {ds : List D} (h : F a = some (.lst vs)) (r : RepAll c F vs ds) : WalkD c (Ite K a) [] F H (numFrom 0 ds) := by
  have at' : ∀ F1 H1, Same F F1 → Same F1 H1 → H1 a = some (.lst vs) := fun F1 H1 t1 t2 => t2 _ _ (t1 _ _ h)
  refine ⟨fun _ z => (nomatch z), fun i F1 H1 hi s1 s2 _ _ => ?_, fun F1 H1 s1 s2 _ _ => ⟨vs, SqL.of (at' F1 H1 s1 s2), by rw [numFrom_len]; exact Nat.le_of_eq r.length⟩, fun i F1 H1 g x H2 hi s1 s2 _ gen hy => ?_⟩
  · rw [numFrom_len] at hi
    obtain ⟨v, hv, _⟩ := r.get (List.getElem?_eq_getElem hi)
    exact ⟨vs, v, SqL.of (at' F1 H1 s1 s2), hv⟩
  · obtain ⟨T, y, rfl, hT, rfl, hx⟩ := hy
    obtain ⟨d, hd, rd⟩ := r.getV (hx vs (SqL.of (at' F1 H1 s1 s2)))
    refine ⟨upd F1 T _, .tup [.int (i : Nat), d], ?_, Stp.lay s2 gen hT, .tup upd_same (.cons (.int _) (.cons ((rd.up s1).up (Stp.lay (o := .tup [.int (i : Nat), y]) s2 gen hT).sub) .nil))⟩
    rw [numFrom_get, hd]
    simp
/-- for i, x in enumerate(xs) -/
theorem di_enum (hm : X.mg "enumerate" = none) (h : PE X e (tP c f)) (hg : Gl X "enumerate" := by rfl) (hs : starEach [e] X.env = [(false, eval e X.env)] := by rfl) : PI X (.Tuple elts kk tpos) (.Call (.Name "enumerate" p) [e] [] pos) (iD c (xE f)) :=
  (pi_enum hg hm (pa_cons h pa_nil (by rw [hs]; rfl)) hs).imp fun σ H R ⟨H0, F, δ, g, ds, g', w, o, q⟩ => by
    obtain ⟨x, g1, o1, o⟩ := ok_bind.mp o
    split at o
    · obtain ⟨rfl, rfl⟩ := ok_pure.mp o
      refine ⟨H0, F, δ, g, _, g1, w, o1, fun v F1 H1 s1 r1 => ?_⟩
      cases r1 with
      | @lst _ a vs _ ea ra => exact ⟨a, vs, rfl, SqL.of (s1.le _ _ ea), q _ F1 H1 s1 (walk_num ea ra)⟩
    · exact absurd o not_ok_stuck
theorem zip2_get : ∀ (xs ys : List D) (i : Nat), (zip2 xs ys)[i]? = match xs[i]?, ys[i]? with
    | some x, some y => some (.tup [x, y])
    | _, _ => none
  | [], ys, i => by simp [zip2]
  | x :: xs, [], i => by
    simp only [zip2, List.getElem?_nil]
    cases (x :: xs)[i]? <;> rfl
  | x :: xs, y :: ys, 0 => by simp [zip2]
  | x :: xs, y :: ys, i + 1 => by
    show (zip2 xs ys)[i]? = _
    rw [zip2_get xs ys i]
    rfl
theorem zip2_len : ∀ (xs ys : List D), (zip2 xs ys).length = min xs.length ys.length
  | [], ys => by simp [zip2]
  | x :: xs, [] => by simp [zip2]
  | x :: xs, y :: ys => by simp [zip2, zip2_len xs ys, Nat.succ_min_succ]
theorem walk_zip2 {K : PySem.W.Frag} {a b : Addr} {vs us : List V} {F H : Hp} {xs ys : List D} (h : F a = some (.lst vs)) (h' : F b = some (.lst us)) (r : RepAll c F vs xs) (r' : RepAll c F us ys) : WalkD c (Itz K a b) [] F H (zip2 xs ys) := by
  have at' : ∀ F1 H1, Same F F1 → Same F1 H1 → H1 a = some (.lst vs) ∧ H1 b = some (.lst us) := fun F1 H1 t1 t2 => ⟨t2 _ _ (t1 _ _ h), t2 _ _ (t1 _ _ h')⟩
  refine ⟨fun _ z => (nomatch z), fun i F1 H1 hi s1 s2 _ _ => ?_, fun F1 H1 s1 s2 _ _ => ⟨vs, us, SqL.of (at' F1 H1 s1 s2).1, SqL.of (at' F1 H1 s1 s2).2, ?_⟩, fun i F1 H1 g x H2 hi s1 s2 _ gen hy => ?_⟩
  · rw [zip2_len] at hi
    obtain ⟨v, hv, _⟩ := r.get (List.getElem?_eq_getElem (show i < xs.length by omega))
    obtain ⟨u, hu, _⟩ := r'.get (List.getElem?_eq_getElem (show i < ys.length by omega))
    exact ⟨vs, us, v, u, SqL.of (at' F1 H1 s1 s2).1, SqL.of (at' F1 H1 s1 s2).2, hv, hu⟩
  · rw [zip2_len, r.length, r'.length]
    omega
  · obtain ⟨T, y, z, rfl, hT, rfl, hx, hz⟩ := hy
    obtain ⟨d, hd, rd⟩ := r.getV (hx vs (SqL.of (at' F1 H1 s1 s2).1))
    obtain ⟨e, he, re⟩ := r'.getV (hz us (SqL.of (at' F1 H1 s1 s2).2))
    have st := Stp.lay (o := .tup [y, z]) s2 gen hT
    refine ⟨upd F1 T (.tup [y, z]), .tup [d, e], ?_, st, .tup upd_same (.cons ((rd.up s1).up st.sub) (.cons ((re.up s1).up st.sub) .nil))⟩
    rw [zip2_get, hd, he]
/-- for x, y in zip(xs, ys) -/
theorem di_zip (hm : X.mg "zip" = none) (h : PE X e (tP c f)) (h2 : PE X e2 (tP c f2)) (hg : Gl X "zip" := by rfl) (hs : starEach [e, e2] X.env = (false, eval e X.env) :: starEach [e2] X.env := by rfl) (hs2 : starEach [e2] X.env = (false, eval e2 X.env) :: starEach [] X.env := by rfl)
    (hpl : (backTo pos (starEach [e2] X.env)).any (·.1) = false := by rfl) : PI X (.Tuple elts kk tpos) (.Call (.Name "zip" p) [e, e2] [] pos) (iD c (xZ f f2)) :=
  (pi_zip hg hm (pa_cons h (pa_cons h2 pa_nil hs2) hs) hs hpl).imp fun σ H R ⟨H0, F, δ, g, ds, g', w, o, q⟩ => by
    obtain ⟨x, g1, o1, o⟩ := ok_bind.mp o
    obtain ⟨y, g2, o2, o⟩ := ok_bind.mp o
    split at o
    · obtain ⟨rfl, rfl⟩ := ok_pure.mp o
      refine ⟨H0, F, δ, g, _, g1, w, o1, fun v F1 H1 s1 r1 => ⟨H0, F1, δ, g1, _, g2, w.step s1, o2, fun u F2 H2 s2 r2 => ?_⟩⟩
      cases r1 with
      | @lst _ a vs _ ea ra =>
        cases r2 with
        | @lst _ b us _ eb rb => exact ⟨a, b, vs, us, rfl, SqL.of (s2.le _ _ (s2.sub _ _ ea)), SqL.of (s2.le _ _ eb), q _ F2 H2 (s1.trans s2) (walk_zip2 (s2.sub _ _ ea) eb (ra.up s2.sub) rb)⟩
    · exact absurd o not_ok_stuck
/-- for x in reversed(xs) -/
theorem di_revd (hm : X.mg "reversed" = none) (h : PE X e (tP c f)) (hg : Gl X "reversed" := by rfl) (hs : starEach [e] X.env = [(false, eval e X.env)] := by rfl) : PI X tg (.Call (.Name "reversed" p) [e] [] pos) (iD c (xV f)) :=
  (pi_reversed hg hm (pa_cons h pa_nil (by rw [hs]; rfl)) hs).imp fun σ H R ⟨H0, F, δ, g, ds, g', w, o, q⟩ => by
    obtain ⟨x, g1, o1, o⟩ := ok_bind.mp o
    split at o
    · rename_i zs
      obtain ⟨rfl, rfl⟩ := ok_pure.mp o
      refine ⟨H0, F, δ, g, _, g1, w, o1, fun v F1 H1 s1 r1 => ?_⟩
      cases r1 with
      | @lst _ a vs _ ea ra =>
        have at' : ∀ F2 H2, Same F1 F2 → Same F2 H2 → H2 a = some (.lst vs) := fun F2 H2 t1 t2 => t2 _ _ (t1 _ _ ea)
        have hl := ra.length
        refine ⟨a, vs, rfl, SqL.of (s1.le _ _ ea), q _ F1 H1 s1 ⟨fun _ z => (nomatch z), fun i F2 H2 hi t1 t2 _ _ => ?_, fun F2 H2 t1 t2 _ _ => ?_, fun i F2 H2 g x H3 hi t1 t2 _ gen hy => ?_⟩⟩
        · rw [List.length_reverse] at hi
          obtain ⟨v, hv, _⟩ := ra.get (List.getElem?_eq_getElem (show zs.length - 1 - i < zs.length by omega))
          exact ⟨by omega, vs, v, SqL.of (at' F2 H2 t1 t2), by rw [hl]; exact hv⟩
        · show vs.length ≤ _
          rw [List.length_reverse, hl]
          exact Nat.le_refl _
        · obtain ⟨rfl, hx⟩ := hy
          obtain ⟨d, hd, rd⟩ := ra.getV (hx vs (SqL.of (at' F2 _ t1 t2)))
          refine ⟨F2, d, ?_, .refl t2 gen, rd.up t1⟩
          rw [List.length_reverse] at hi
          rw [List.getElem?_reverse hi, ← hl]
          exact hd
    · exact absurd o not_ok_stuck
end
end DL

/-! ## DComp -/
set_option Elab.async false
set_option autoImplicit false
set_option linter.all false
set_option maxRecDepth 100000
set_option maxHeartbeats 4000000
/-! DComp: list comprehensions, by plain data. -/
namespace DL
open PySem PySem.Spec PyProof.Rows L2

/-- as Stp, but for the list at L that is being filled -/
structure StpX (c : C) (L : Addr) (F H F' H' : Hp) (g : Gs) : Prop where
  sub : Same F F'
  ext : ∀ a o, a ≠ L → c.ga ≠ some a → H a = some o → H' a = some o
  new : ∀ a, F' a ≠ none → F a = none → H a = none
  le : Same F' H'
  gen : GenOk c F' H' g
  fd : F' L = none
  bl : c.bo L = none
section
variable {c : C} {L : Addr} {F H F1 H1 F2 H2 : Hp} {g g1 g2 : Gs}
theorem StpX.refl (le : Same F H) (gen : GenOk c F H g) (h : F L = none) (hb : c.bo L = none) : StpX c L F H F H g := ⟨Same.refl F, fun _ _ _ _ e => e, fun _ h1 h2 => absurd h2 h1, le, gen, h, hb⟩
theorem StpX.andThen (x : StpX c L F H F1 H1 g1) (y : Stp c F1 H1 F2 H2 g2) (hL : H1 L ≠ none) : StpX c L F H F2 H2 g2 := by
  refine ⟨x.sub.trans y.sub, fun a o n1 n2 e => y.ext a o n2 (x.ext a o n1 n2 e), fun a h1 h2 => ?_, y.le, y.gen, ?_, x.bl⟩
  · by_cases h : F1 a = none
    · have q := y.new a h1 h
      cases e : H a with
      | none => rfl
      | some o =>
        by_cases n : c.ga = some a
        · exact absurd (y.gen.gen a n).1 h1
        · by_cases m : a = L
          · subst m; exact absurd q hL
          · rw [x.ext a o m n e] at q; cases q
    · exact x.new a h h2
  · by_cases h : F2 L = none
    · exact h
    · exact absurd (y.new L h x.fd) hL
theorem StpX.put {o : HO} (x : StpX c L F H F1 H1 g1) (n : c.ga ≠ some L) : StpX c L F H F1 (upd H1 L o) g1 := by
  refine ⟨x.sub, fun a u n1 n2 e => ?_, x.new, fun b u e => ?_, ⟨fun a e => ?_, fun b u e => by rw [upd_ne (ne_of_none e x.bl)]; exact x.gen.bo b u e, x.gen.nb⟩, x.fd, x.bl⟩
  · rw [upd_ne n1]; exact x.ext a u n1 n2 e
  · rw [upd_ne (ne_of_none e x.fd)]; exact x.le b u e
  · obtain ⟨q1, q2⟩ := x.gen.gen a e
    rw [upd_ne (fun z => n (by rw [← z]; exact e))]
    exact ⟨q1, q2⟩
theorem StpX.trans (x : StpX c L F H F1 H1 g1) (y : StpX c L F1 H1 F2 H2 g2) (hL : H L ≠ none) (hL1 : H1 L ≠ none) : StpX c L F H F2 H2 g2 := by
  refine ⟨x.sub.trans y.sub, fun a o n1 n2 e => y.ext a o n1 n2 (x.ext a o n1 n2 e), fun a h1 h2 => ?_, y.le, y.gen, y.fd, x.bl⟩
  by_cases h : F1 a = none
  · have q := y.new a h1 h
    cases e : H a with
    | none => rfl
    | some o =>
      by_cases n : c.ga = some a
      · exact absurd (y.gen.gen a n).1 h1
      · by_cases m : a = L
        · subst m; exact absurd q hL1
        · rw [x.ext a o m n e] at q; cases q
  · exact x.new a h h2
/-- the list is full, and relied on -/
theorem StpX.close {o o0 : HO} (x : StpX c L F (upd H L o0) F1 H1 g1) (hL : H L = none) (hn : c.ga ≠ some L) (e : H1 L = some o) : Stp c F H (upd F1 L o) H1 g1 := by
  refine ⟨fun b u eb => ?_, fun a u n eb => ?_, fun a h1 h2 => ?_, fun b u eb => ?_, ⟨fun a n => ?_, x.gen.bo, x.gen.nb⟩⟩
  · have q := x.sub b u eb
    rw [upd_ne (ne_of_none q x.fd)]; exact q
  · have ne : a ≠ L := ne_of_none eb hL
    exact x.ext a u ne n (by rw [upd_ne ne]; exact eb)
  · by_cases m : a = L
    · rw [m]; exact hL
    · rw [upd_ne m] at h1
      have q := x.new a h1 h2
      rw [upd_ne m] at q
      exact q
  · by_cases m : b = L
    · subst m; rw [upd_same] at eb; rw [← eb]; exact e
    · rw [upd_ne m] at eb; exact x.le b u eb
  · obtain ⟨q1, q2⟩ := x.gen.gen a n
    have m : a ≠ L := fun z => hn (by rw [← z]; exact n)
    rw [upd_ne m]
    exact ⟨q1, q2⟩
end
theorem Wd.stepX {c : C} {L : Addr} {H0 F H F' H' : Hp} {σ : L2.St} {δ : Dlt} {g g' : Gs} (w : Wd c H0 F H σ δ g) (nd : ∀ (i : Nat) (xs : List D), δ[i]? = some (Sl.own xs) → σ[i]? ≠ some (some (V.ref L))) (s : StpX c L F H F' H' g') : Wd c H0 F' H' σ δ g' := by
  refine ⟨s.le, s.gen, w.len, fun i d e => ?_, fun i xs e => ?_, w.apart, w.bo0⟩
  · obtain ⟨v, e1, r⟩ := w.val i d e
    exact ⟨v, e1, r.up s.sub⟩
  · obtain ⟨a, vs, e1, e2, e3, e4, e5, r⟩ := w.own i xs e
    have ne : a ≠ L := fun z => nd i xs e (by rw [e1, z])
    refine ⟨a, vs, e1, s.ext _ _ ne e5 e2, ?_, e4, e5, r.up s.sub⟩
    by_cases h : F' a = none
    · exact h
    · have q := s.new a h e3
      rw [e2] at q; cases q
theorem wipeD_len (δ : Dlt) : ∀ vs : List Nat, (wipeD δ vs).length = δ.length
  | [] => rfl
  | v :: vs => by unfold wipeD; rw [List.length_set, wipeD_len δ vs]
theorem wipe_own {σ : L2.St} {δ : Dlt} {i : Nat} {xs : List D} (hl : δ.length = σ.length) : ∀ {vs : List Nat}, (wipeD δ vs)[i]? = some (Sl.own xs) → δ[i]? = some (Sl.own xs) ∧ (wipe σ vs)[i]? = σ[i]?
  | [], h => ⟨h, rfl⟩
  | v :: vs, h => by
    unfold wipeD at h
    by_cases hi : v = i
    · subst hi
      by_cases hv : v < (wipeD δ vs).length
      · rw [List.getElem?_set_self hv] at h; cases h
      · rw [List.getElem?_eq_none (by simpa using hv)] at h; cases h
    · rw [List.getElem?_set_ne hi] at h
      obtain ⟨h1, h2⟩ := wipe_own hl h
      refine ⟨h1, ?_⟩
      unfold wipe
      rw [List.getElem?_set_ne hi]
      exact h2

section
variable {c : C}
/-- one list comprehension's loop: it fills the list at L -/
theorem lc_loop {J : It} {bs : List Addr} {F1 H1 : Hp} {ds : List D} {gd : G} {is : List Nat} {ft fe : E} {vs : List Nat} {H0 : Hp} {σ : L2.St} {δ : Dlt} {g1 g2 : Gs} {L : Addr} {us0 : List V} {ys0 ys : List D} {Nx : Hp → Prop}
    (his : ∀ i ∈ is, i ∈ vs) (wk : WalkD c J bs F1 H1 ds) (hbL : ∀ b ∈ bs, b ≠ L) (w : Wd c H0 F1 H1 σ δ g1) (nd : ∀ (i : Nat) (xs : List D), δ[i]? = some (Sl.own xs) → σ[i]? ≠ some (some (V.ref L))) (nga : c.ga ≠ some L)
    (hL : H1 L = some (.lst us0)) (hF : F1 L = none) (hbo : c.bo L = none) (r0 : RepAll c F1 us0 ys0) (hz : ys0.length + ys.length ≤ sizeLine) (ok : Ok (lcGo gd ft fe (wipeD δ vs) ds) g1 ys g2)
    (fin : ∀ F' H' us, StpX c L F1 H1 F' H' g2 → H' L = some (.lst us) → RepAll c F' us (ys0 ++ ys) → Nx H') :
    ∃ W : Nat → Nat → Hp → Prop, (∃ m, W 0 m H1) ∧ ∀ i m H, W i m H →
      (J.stop i H ∧ Nx H) ∨ (J.go i H ∧ ∃ N1 : Hp → Prop, (∀ H', N1 H' → ∃ m', m' < m ∧ W (i + 1) m' H') ∧ ∀ x H', J.yld i H x H' → gD c gd is x (wipe σ vs) H' fun σ2 H2 => wipe σ2 vs = wipe σ vs ∧ tT c ft σ2 H2 fun b H3 =>
        if b = true then tP c fe σ2 H3 fun y H4 => ∃ acc, H4 L = some (.lst acc) ∧ acc.length < sizeLine ∧ N1 (upd H4 L (.lst (acc ++ [y]))) else N1 H3) := by
  let Pv : Nat → Hp → Prop := fun i H' => ∃ F' g' us ys1 ys2, StpX c L F1 H1 F' H' g' ∧ H' L = some (.lst us) ∧ RepAll c F' us (ys0 ++ ys1) ∧ Ok (lcGo gd ft fe (wipeD δ vs) (ds.drop i)) g' ys2 g2 ∧ ys = ys1 ++ ys2
  refine ⟨fun i m H => m = ds.length - i ∧ i ≤ ds.length ∧ Pv i H, ⟨ds.length, by simp, Nat.zero_le _, F1, g1, us0, [], ys, .refl w.le w.gen hF hbo, hL, by simpa using r0, ok, rfl⟩, ?_⟩
  rintro i m H ⟨rfl, hi, F', g', us, ys1, ys2, sx, eL, ra, ok', rfl⟩
  have keepb : ∀ b ∈ bs, H b = H1 b := fun b hb => by
    obtain ⟨k1, k2⟩ := wk.bk b hb
    cases e : H1 b with
    | none => exact absurd e k1
    | some o => exact sx.ext b o (hbL b hb) k2 e
  by_cases hlt : i < ds.length
  · refine .inr ⟨wk.goes i F' H hlt sx.sub sx.le keepb sx.gen.bo, Pv (i + 1), fun H' p' => ⟨ds.length - (i + 1), by omega, rfl, hlt, p'⟩, fun x H' hy => ?_⟩
    obtain ⟨F2, d, hd, st, rx⟩ := wk.yields i F' H g' x H' hlt sx.sub sx.le keepb sx.gen hy
    rw [List.drop_eq_getElem_cons hlt] at ok'
    rw [List.getElem?_eq_getElem hlt] at hd
    cases hd
    unfold lcGo at ok'
    obtain ⟨δ', g'', ok1, ok2⟩ := ok_bind.mp ok'
    have hgd : gd ds[i] (wipeD δ vs) = some δ' ∧ g' = g'' := by
      unfold liftG at ok1
      split at ok1
      · rename_i e
        obtain ⟨rfl, rfl⟩ := ok_pure.mp ok1
        exact ⟨e, rfl⟩
      · exact absurd ok1 not_ok_stuck
    obtain ⟨hgd, rfl⟩ := hgd
    obtain ⟨b, g3, ok3, ok4⟩ := ok_bind.mp ok2
    have w2 : Wd c H0 F2 H' (wipe σ vs) (wipeD δ vs) g' := ((w.wipe vs).stepX (fun j xs hj => by
      obtain ⟨a1, a2⟩ := wipe_own w.len hj
      rw [a2]
      exact nd j xs a1) sx).step st
    have eL' : H' L = some (.lst us) := st.ext _ _ nga eL
    refine ⟨H0, F2, wipeD δ vs, g', ds[i], δ', w2, rx, hgd, fun σ' w3 k l => ⟨by rw [k vs his, wipe_wipe], ?_⟩⟩
    have sx2 : StpX c L F1 H1 F2 H' g' := sx.andThen st (by rw [eL]; simp)
    cases b with
    | bl b =>
      refine ⟨H0, F2, δ', g', b, g3, w3, ok3, fun F3 H3 s3 => ?_⟩
      have eL3 : H3 L = some (.lst us) := s3.ext _ _ nga eL'
      cases b with
      | true =>
        obtain ⟨y, g4, ok5, ok6⟩ := ok_bind.mp ok4
        obtain ⟨rest, g5, ok7, ok8⟩ := ok_bind.mp ok6
        obtain ⟨rfl, rfl⟩ := ok_pure.mp ok8
        refine iteT ⟨H0, F3, δ', g3, y, g4, w3.step s3, ok5, fun v F4 H4 s4 r4 => ?_⟩
        have eL4 : H4 L = some (.lst us) := s4.ext _ _ nga eL3
        have lus := ra.length
        simp only [List.length_append, List.length_cons] at hz lus
        refine ⟨us, eL4, by omega, F4, g4, us ++ [v], ys1 ++ [y], rest, ?_, upd_same, ?_, ok7, by simp⟩
        · exact ((sx2.andThen s3 (by rw [eL']; simp)).andThen s4 (by rw [eL3]; simp)).put nga
        · rw [← List.append_assoc]
          exact (((ra.up st.sub).up s3.sub).up s4.sub).append (.cons r4 .nil)
      | false =>
        refine iteF ?_
        exact ⟨F3, g3, us, ys1, ys2, sx2.andThen s3 (by rw [eL']; simp), eL3, (ra.up st.sub).up s3.sub, ok4, rfl⟩
    | _ => exact absurd ok4 not_ok_stuck
  · have e : i = ds.length := by omega
    subst e
    rw [List.drop_length] at ok'
    obtain ⟨rfl, rfl⟩ := ok_pure.mp ok'
    refine .inl ⟨wk.stops F' H sx.sub sx.le keepb sx.gen.bo, fin F' H us sx eL ?_⟩
    simpa using ra
theorem lc_imp {src : Es} {gd : G} {is : List Nat} {ft fe : E} {vs : List Nat} (his : ∀ i ∈ is, i ∈ vs) : ∀ σ H Q, tP c (eLc vs gd src ft fe) σ H Q → tLc (iB c src) (gD c gd is) (tT c ft) (tP c fe) vs σ H Q := fun σ H Q ⟨H0, F, δ, g, d, g', w, o, q⟩ => by
  obtain ⟨ds, g1, o1, o⟩ := ok_bind.mp o
  obtain ⟨ys, g2, o2, o⟩ := ok_bind.mp o
  split at o
  · rename_i hl
    obtain ⟨rfl, rfl⟩ := ok_pure.mp o
    refine ⟨H0, F, δ, g, ds, g1, w, o1, fun J bs F1 H1 s1 wk L hL => ?_⟩
    have nga : c.ga ≠ some L := fun e => by
      obtain ⟨_, q2⟩ := s1.gen.gen L e
      rw [hL] at q2; cases q2
    have hbo : c.bo L = none := by
      cases e : c.bo L with
      | none => rfl
      | some u => rw [s1.gen.bo L u e] at hL; cases hL
    have st := Stp.tmp (o := .lst []) s1.le s1.gen hL
    have w1 := (w.step s1)
    have hbL : ∀ b ∈ bs, b ≠ L := fun b hb z => (wk.bk b hb).1 (by rw [z]; exact hL)
    have wk' : WalkD c J bs F1 (upd H1 L (.lst [])) ds := ⟨fun b hb => ⟨by rw [upd_ne (hbL b hb)]; exact (wk.bk b hb).1, (wk.bk b hb).2⟩, fun i F2 H2 hi t1 t2 t3 => wk.goes i F2 H2 hi t1 t2 (fun b hb => by rw [t3 b hb, upd_ne (hbL b hb)]),
      fun F2 H2 t1 t2 t3 => wk.stops F2 H2 t1 t2 (fun b hb => by rw [t3 b hb, upd_ne (hbL b hb)]), fun i F2 H2 g x H3 hi t1 t2 t3 => wk.yields i F2 H2 g x H3 hi t1 t2 fun b hb => by rw [t3 b hb, upd_ne (hbL b hb)]⟩
    have fL : F1 L = none := by
      cases e : F1 L with
      | none => rfl
      | some u => rw [s1.le L u e] at hL; cases hL
    refine lc_loop his wk' hbL (w1.step st) (fun i xs e => ?_) nga upd_same fL hbo .nil (by simpa using lim_le hl) o2 fun F' H' us sx eL ra => ?_
    · obtain ⟨a, _, e1, e2, _⟩ := w1.own i xs e
      rw [e1]
      intro z
      cases z
      rw [hL] at e2; cases e2
    · have fin := sx.close hL nga eL
      exact q _ _ _ (s1.trans fin) (.lst upd_same (ra.up fun b u e => by rw [upd_ne (ne_of_none e sx.fd)]; exact e))
  · exact absurd o not_ok_stuck
theorem lc2_imp {src src1 : Es} {gd gd1 : G} {is is1 : List Nat} {ft ft1 fe : E} {vs vs1 : List Nat} (his : ∀ i ∈ is, i ∈ vs) (his1 : ∀ i ∈ is1, i ∈ vs1) :
    ∀ σ H Q, tP c (eLc2 vs vs1 gd src ft gd1 src1 ft1 fe) σ H Q → tLc2 (iB c src) (gD c gd is) (tT c ft) (iD c src1) (gD c gd1 is1) (tT c ft1) (tP c fe) vs vs1 σ H Q := fun σ H Q ⟨H0, F, δ, g, d, g', w, o, q⟩ => by
  obtain ⟨ds, g1, o1, o⟩ := ok_bind.mp o
  obtain ⟨ys, g2, o2, o⟩ := ok_bind.mp o
  split at o
  · rename_i hl
    obtain ⟨rfl, rfl⟩ := ok_pure.mp o
    refine ⟨H0, F, δ, g, ds, g1, w, o1, fun J bs F1 H1 s1 wk L hL => ?_⟩
    have nga : c.ga ≠ some L := fun e => by
      obtain ⟨_, q2⟩ := s1.gen.gen L e
      rw [hL] at q2; cases q2
    have hbo : c.bo L = none := by
      cases e : c.bo L with
      | none => rfl
      | some u => rw [s1.gen.bo L u e] at hL; cases hL
    have st0 := Stp.tmp (o := .lst []) s1.le s1.gen hL
    have w1 := (w.step s1)
    have hbL : ∀ b ∈ bs, b ≠ L := fun b hb z => (wk.bk b hb).1 (by rw [z]; exact hL)
    have fL : F1 L = none := by
      cases e : F1 L with
      | none => rfl
      | some u => rw [s1.le L u e] at hL; cases hL
    have nd : ∀ (i : Nat) (xs : List D), δ[i]? = some (Sl.own xs) → σ[i]? ≠ some (some (V.ref L)) := fun i xs e => by
      obtain ⟨a, _, e1, e2, _⟩ := w1.own i xs e
      rw [e1]
      intro z
      cases z
      rw [hL] at e2; cases e2
    let Pv : Nat → Hp → Prop := fun i H' => ∃ F' g' us ys1 ys2, StpX c L F1 (upd H1 L (.lst [])) F' H' g' ∧ H' L = some (.lst us) ∧ RepAll c F' us ys1 ∧
      Ok (lc2Go gd ft (fun δ' => src1 δ' >>= fun zs => lcGo gd1 ft1 fe (wipeD δ' vs1) zs) (wipeD δ vs) (ds.drop i)) g' ys2 g2 ∧ ys = ys1 ++ ys2
    refine ⟨fun i m H => m = ds.length - i ∧ i ≤ ds.length ∧ Pv i H, ⟨ds.length, by simp, Nat.zero_le _, F1, g1, [], [], ys, .refl st0.le st0.gen fL hbo, upd_same, .nil, o2, rfl⟩, ?_⟩
    rintro i m H ⟨rfl, hi, F', g', us, ys1, ys2, sx, eL, ra, ok', rfl⟩
    have keepb : ∀ b ∈ bs, H b = H1 b := fun b hb => by
      obtain ⟨k1, k2⟩ := wk.bk b hb
      cases e : H1 b with
      | none => exact absurd e k1
      | some o => exact sx.ext b o (hbL b hb) k2 (by rw [upd_ne (hbL b hb)]; exact e)
    by_cases hlt : i < ds.length
    · refine .inr ⟨wk.goes i F' H hlt sx.sub sx.le keepb sx.gen.bo, Pv (i + 1), fun H' p' => ⟨ds.length - (i + 1), by omega, rfl, hlt, p'⟩, fun x H' hy => ?_⟩
      obtain ⟨F2, d, hd, st, rx⟩ := wk.yields i F' H g' x H' hlt sx.sub sx.le keepb sx.gen hy
      rw [List.drop_eq_getElem_cons hlt] at ok'
      rw [List.getElem?_eq_getElem hlt] at hd
      cases hd
      unfold lc2Go at ok'
      obtain ⟨δ', g'', ok1, ok2⟩ := ok_bind.mp ok'
      have hgd : gd ds[i] (wipeD δ vs) = some δ' ∧ g' = g'' := by
        unfold liftG at ok1
        split at ok1
        · rename_i e
          obtain ⟨rfl, rfl⟩ := ok_pure.mp ok1
          exact ⟨e, rfl⟩
        · exact absurd ok1 not_ok_stuck
      obtain ⟨hgd, rfl⟩ := hgd
      obtain ⟨b, g3, ok3, ok4⟩ := ok_bind.mp ok2
      have w2 : Wd c H0 F2 H' (wipe σ vs) (wipeD δ vs) g' := (((w1.step st0).wipe vs).stepX (fun j xs hj => by
        obtain ⟨a1, a2⟩ := wipe_own w.len hj
        rw [a2]
        exact nd j xs a1) sx).step st
      have eL' : H' L = some (.lst us) := st.ext _ _ nga eL
      refine ⟨H0, F2, wipeD δ vs, g', ds[i], δ', w2, rx, hgd, fun σ' w3 k l => ⟨by rw [k vs his, wipe_wipe], ?_⟩⟩
      have sx2 : StpX c L F1 (upd H1 L (.lst [])) F2 H' g' := sx.andThen st (by rw [eL]; simp)
      have nd3 : ∀ (j : Nat) (xs : List D), δ'[j]? = some (Sl.own xs) → σ'[j]? ≠ some (some (V.ref L)) := fun j xs hj => by
        obtain ⟨a1, a2⟩ := l j xs hj
        rw [a2]
        obtain ⟨b1, b2⟩ := wipe_own w.len a1
        rw [b2]
        exact nd j xs b1
      cases b with
      | bl b =>
        refine ⟨H0, F2, δ', g', b, g3, w3, ok3, fun F3 H3 s3 => ?_⟩
        have eL3 : H3 L = some (.lst us) := s3.ext _ _ nga eL'
        cases b with
        | true =>
          obtain ⟨zs, g4, ok5, ok6⟩ := ok_bind.mp ok4
          obtain ⟨rest, g5, ok7, ok8⟩ := ok_bind.mp ok6
          obtain ⟨rfl, rfl⟩ := ok_pure.mp ok8
          obtain ⟨es, g6, ok9, ok10⟩ := ok_bind.mp ok5
          refine iteT ⟨H0, F3, δ', g3, es, g6, w3.step s3, ok9, fun J1 F4 H4 s4 wk1 => ?_⟩
          have eL4 : H4 L = some (.lst us) := s4.ext _ _ nga eL3
          have lus := ra.length
          have hz := lim_le hl
          simp only [List.length_append] at hz
          have sx4 : StpX c L F1 (upd H1 L (.lst [])) F4 H4 g6 := (sx2.andThen s3 (by rw [eL']; simp)).andThen s4 (by rw [eL3]; simp)
          refine lc_loop his1 wk1 (fun _ z => nomatch z) ((w3.step s3).step s4) nd3 nga eL4 sx4.fd hbo (((ra.up st.sub).up s3.sub).up s4.sub) (by omega) ok10 fun F5 H5 us5 sx5 eL5 ra5 => ?_
          exact ⟨F5, g4, us5, ys1 ++ zs, rest, sx4.trans sx5 (by rw [upd_same]; simp) (by rw [eL4]; simp), eL5, ra5, ok7, by simp⟩
        | false =>
          refine iteF ?_
          exact ⟨F3, g3, us, ys1, ys2, sx2.andThen s3 (by rw [eL']; simp), eL3, (ra.up st.sub).up s3.sub, ok4, rfl⟩
      | _ => exact absurd ok4 not_ok_stuck
    · have e : i = ds.length := by omega
      subst e
      rw [List.drop_length] at ok'
      obtain ⟨rfl, rfl⟩ := ok_pure.mp ok'
      refine .inl ⟨wk.stops F' H sx.sub sx.le keepb sx.gen.bo, ?_⟩
      have fin := sx.close hL nga eL
      rw [List.append_nil] at q
      exact q _ _ _ (s1.trans fin) (.lst upd_same (ra.up fun b u e => by rw [upd_ne (ne_of_none e sx.fd)]; exact e))
  · exact absurd o not_ok_stuck
section
variable {X : Cx} {elt tg iter tg1 iter1 : Expr} {ifs ifs1 : List Expr} {scope : Scope} {own : List (Str × Nat)} {vs1 : List Nat} {pos : Pos} {src src1 : Es} {gd gd1 : G} {is is1 : List Nat} {ft ft1 fe : E}
theorem _root_.L2.PTs.imp {X : Cx} {e : List Expr} {t t' : TT} (h : PTs X e t) (i : ∀ σ H Q, t' σ H Q → t σ H Q) : PTs X e t' := ⟨fun pins s σ H Q I q => h.run pins s σ H Q I (i σ H Q q)⟩
theorem dts_nil : PTs X [] (tT c (eK (.bl true))) := pts_nil.imp fun σ H Q ⟨H0, F, δ, g, b, g', w, o, q⟩ => by
  obtain ⟨e, rfl⟩ := ok_pure.mp o
  cases e
  exact q F H (.refl w.le w.gen)
theorem dts_one {e : Expr} {f : E} (h : PT X e (tT c f)) : PTs X [e] (tT c f) := pts_one h
/-- [elt for tg in iter if ..] -/
theorem d_lc (hc : X.calm = true) (hN : X.N.Nodup) (ok : BlkOk X.N X.env.scope scope own) (hi : PI X tg iter (iB c src)) (hg : ∀ (s : Shared) (H : Hp) (C : Addr) (cl : List (Str × Addr)) (fp : List Addr), PG (X.blk s H scope (compEnvC scope cl C X.env) fp) tg (gD c gd is))
    (ht : ∀ (s : Shared) (H : Hp) (C : Addr) (cl : List (Str × Addr)) (fp : List Addr), PTs (X.blk s H scope (compEnvC scope cl C X.env) fp) ifs (tT c ft)) (he : ∀ (s : Shared) (H : Hp) (C : Addr) (cl : List (Str × Addr)) (fp : List Addr), PE (X.blk s H scope (compEnvC scope cl C X.env) fp) elt (tP c fe))
    (his : ∀ i ∈ is, i ∈ own.map (·.2) := by decide) (hs : ∀ x, foldedSetIterable iter X.env x = pure x := by intro _; rfl) : PE X (.ListComp elt [⟨tg, iter, ifs, 0⟩] scope pos) (tP c (eLc (own.map (·.2)) gd src ft fe)) :=
  (pe_lc hc hN hi ok hg ht he hs).imp (lc_imp his)
/-- [elt for tg in iter if .. for tg1 in iter1 if ..] -/
theorem d_lc2 (vs1 : List Nat) (hc : X.calm = true) (hN : X.N.Nodup) (ok : BlkOk X.N X.env.scope scope own) (hi : PI X tg iter (iB c src)) (hg : ∀ (s : Shared) (H : Hp) (C : Addr) (cl : List (Str × Addr)) (fp : List Addr), PG (X.blk s H scope (compEnvC scope cl C X.env) fp) tg (gD c gd is))
    (ht : ∀ (s : Shared) (H : Hp) (C : Addr) (cl : List (Str × Addr)) (fp : List Addr), PTs (X.blk s H scope (compEnvC scope cl C X.env) fp) ifs (tT c ft))
    (hi1 : ∀ (s : Shared) (H : Hp) (C : Addr) (cl : List (Str × Addr)) (fp : List Addr), PI (X.blk s H scope (compEnvC scope cl C X.env) fp) tg1 iter1 (iD c src1))
    (hg1 : ∀ (s : Shared) (H : Hp) (C : Addr) (cl : List (Str × Addr)) (fp : List Addr), PG (X.blk s H scope (compEnvC scope cl C X.env) fp) tg1 (gD c gd1 is1)) (ht1 : ∀ (s : Shared) (H : Hp) (C : Addr) (cl : List (Str × Addr)) (fp : List Addr), PTs (X.blk s H scope (compEnvC scope cl C X.env) fp) ifs1 (tT c ft1))
    (he : ∀ (s : Shared) (H : Hp) (C : Addr) (cl : List (Str × Addr)) (fp : List Addr), PE (X.blk s H scope (compEnvC scope cl C X.env) fp) elt (tP c fe))
    (his : ∀ i ∈ is, i ∈ own.map (·.2) := by decide) (his1 : ∀ i ∈ is1, i ∈ vs1 := by decide) (hv : ∀ i ∈ vs1, i ∈ own.map (·.2) := by decide) (hs : ∀ x, foldedSetIterable iter X.env x = pure x := by intro _; rfl) (hs1 : ∀ env x, foldedSetIterable iter1 env x = pure x := by intro _ _; rfl) :
    PE X (.ListComp elt [⟨tg, iter, ifs, 0⟩, ⟨tg1, iter1, ifs1, 0⟩] scope pos) (tP c (eLc2 (own.map (·.2)) vs1 gd src ft gd1 src1 ft1 fe)) :=
  (pe_lc2 hc hN hi ok hv hg ht hi1 hg1 ht1 he hs hs1).imp (lc2_imp his his1)
end
end
end DL

/-! ## DStm -/
set_option Elab.async false
set_option autoImplicit false
set_option linter.all false
set_option maxRecDepth 100000
set_option maxHeartbeats 4000000
/-! DStm: statements, loops, defs and their calls, by plain data. -/
namespace DL
open PySem PySem.Spec PyProof.Rows L2

/-- behind a statement: F0, H0 at the def's entry -/
def tS (c : C) (s : S) : TS := fun D σ H => ∃ F0 H0 F δ g r g', Wd c H0 F H σ δ g ∧ Stp c F0 H0 F H g ∧ Ok (s δ) g r g' ∧ match r with
  | .nx δ' => ∀ σ' F' H', Wd c H0 F' H' σ' δ' g' → Stp c F0 H0 F' H' g' → Same F F' → D.nx σ' H'
  | .rt d => ∀ v F' H', Stp c F0 H0 F' H' g' → Rep c F' v d → D.rt v H'
  | .bk δ' => ∀ σ' F' H', Wd c H0 F' H' σ' δ' g' → Stp c F0 H0 F' H' g' → Same F F' → D.bk σ' H'
  | .ct δ' => ∀ σ' F' H', Wd c H0 F' H' σ' δ' g' → Stp c F0 H0 F' H' g' → Same F F' → D.ct σ' H'
section
variable {X : Cx} {c : C} {a b e : Expr} {st : Stmt} {sts : List Stmt} {s t : S} {f fa fb : E} {pos : Pos}
theorem ds_nil : PSs X [] (tS c sSkip) := pss_nil.imp fun D σ H ⟨F0, H0, F, δ, g, r, g', w, sp, o, q⟩ => by
  obtain ⟨rfl, rfl⟩ := ok_pure.mp o
  exact q σ F H w sp (.refl F)
theorem ds_skip : PS X (.Pass pos) (tS c sSkip) := ps_pass.imp fun D σ H ⟨F0, H0, F, δ, g, r, g', w, sp, o, q⟩ => by
  obtain ⟨rfl, rfl⟩ := ok_pure.mp o
  exact q σ F H w sp (.refl F)
theorem ds_break : PS X (.Break pos) (tS c sBreak) := ps_break.imp fun D σ H ⟨F0, H0, F, δ, g, r, g', w, sp, o, q⟩ => by
  obtain ⟨rfl, rfl⟩ := ok_pure.mp o
  exact q σ F H w sp (.refl F)
theorem ds_cont : PS X (.Continue pos) (tS c sCont) := ps_continue.imp fun D σ H ⟨F0, H0, F, δ, g, r, g', w, sp, o, q⟩ => by
  obtain ⟨rfl, rfl⟩ := ok_pure.mp o
  exact q σ F H w sp (.refl F)
/-- never reached -/
theorem ds_no : PS X st (tS c fun _ => stuck) := ps_never.imp fun D σ H ⟨F0, H0, F, δ, g, r, g', w, sp, o, q⟩ => absurd o not_ok_stuck
theorem dss_no : PSs X sts (tS c fun _ => stuck) := pss_never.imp fun D σ H ⟨F0, H0, F, δ, g, r, g', w, sp, o, q⟩ => absurd o not_ok_stuck
theorem ds_one (h : PS X st (tS c s)) : PSs X [st] (tS c s) := pss_one h
theorem seq_imp : ∀ D σ H, tS c (sSeq s t) D σ H → tSeq (tS c s) (tS c t) D σ H := fun D σ H ⟨F0, H0, F, δ, g, r, g', w, sp, o, q⟩ => by
  obtain ⟨r1, g1, o1, o2⟩ := ok_bind.mp o
  refine ⟨F0, H0, F, δ, g, r1, g1, w, sp, o1, ?_⟩
  cases r1 with
  | nx δ1 =>
    intro σ1 F1 H1 w1 sp1 sm1
    refine ⟨F0, H0, F1, δ1, g1, r, g', w1, sp1, o2, ?_⟩
    cases r with
    | nx δ' => exact fun σ' F' H' w' sp' sm' => q σ' F' H' w' sp' (sm1.trans sm')
    | rt d => exact q
    | bk δ' => exact fun σ' F' H' w' sp' sm' => q σ' F' H' w' sp' (sm1.trans sm')
    | ct δ' => exact fun σ' F' H' w' sp' sm' => q σ' F' H' w' sp' (sm1.trans sm')
  | rt d =>
    obtain ⟨rfl, rfl⟩ := ok_pure.mp o2
    exact q
  | bk δ1 =>
    obtain ⟨rfl, rfl⟩ := ok_pure.mp o2
    exact q
  | ct δ1 =>
    obtain ⟨rfl, rfl⟩ := ok_pure.mp o2
    exact q
theorem ds_cons (h1 : PS X st (tS c s)) (h2 : PSs X sts (tS c t)) : PSs X (st :: sts) (tS c (sSeq s t)) := (pss_cons h1 h2).imp seq_imp
/-- x, (x, y) = e -/
theorem asg_imp {gd : G} {is : List Nat} : ∀ D σ H, tS c (sAsg gd f) D σ H → tAsg (tP c f) (gD c gd is) D σ H := fun D σ H ⟨F0, H0, F, δ, g, r, g', w, sp, o, q⟩ => by
  obtain ⟨d, g1, o1, o⟩ := ok_bind.mp o
  obtain ⟨δ1, g2, o2, o⟩ := ok_bind.mp o
  obtain ⟨rfl, rfl⟩ := ok_pure.mp o
  have hgd : gd d δ = some δ1 ∧ g1 = g2 := by
    unfold liftG at o2
    split at o2
    · rename_i e
      obtain ⟨rfl, rfl⟩ := ok_pure.mp o2
      exact ⟨e, rfl⟩
    · exact absurd o2 not_ok_stuck
  obtain ⟨hgd, rfl⟩ := hgd
  exact ⟨H0, F, δ, g, d, g1, w, o1, fun v F1 H1 s1 r1 => ⟨H0, F1, δ, g1, d, δ1, w.step s1, r1, hgd, fun σ' w' _ _ => q σ' F1 H1 w' (sp.trans s1) s1.sub⟩⟩
theorem ds_asg {tg : Expr} {gd : G} {is : List Nat} (he : PE X e (tP c f)) (hg : PG X tg (gD c gd is)) (hs : swapsWithSole [tg] e pos.line X.env = pure false := by rfl) (hw : swappedStores [tg] e X.env = pure none := by rfl) (h1 : (assignEach [tg] X.env).map (·.2) = [assign tg X.env] := by rfl) : PS X (.Assign [tg] e pos) (tS c (sAsg gd f)) := (ps_asg he hg hs hw h1).imp asg_imp
/-- x = [..] that is a comprehension -/
theorem name_imp {te : TE} {i : Nat} (h : ∀ σ H Q, tP c f σ H Q → te σ H Q) : ∀ D σ H, tS c (sAsg (gN i) f) D σ H → tAsg te (gName i) D σ H := fun D σ H q => by
  obtain ⟨H0, F, δ, g, d, g', w, o, k⟩ := asg_imp (is := [i]) D σ H q
  refine h σ H _ ⟨H0, F, δ, g, d, g', w, o, fun v F' H' s r => ?_⟩
  obtain ⟨H1, F1, δ1, g1, d1, δ', w1, r1, o1, k1⟩ := k v F' H' s r
  cases o1
  refine k1 _ (w1.set r1) (fun vs hv => wipe_set (hv i (List.mem_singleton.mpr rfl))) fun j xs hj => ?_
  by_cases e : i = j
  · subst e
    by_cases hl : i < δ1.length
    · rw [List.getElem?_set_self hl] at hj; cases hj
    · rw [List.getElem?_eq_none (by simpa using hl)] at hj; cases hj
  · rw [List.getElem?_set_ne e] at hj ⊢
    exact ⟨hj, rfl⟩
section
variable {elt tg iter tg1 iter1 : Expr} {ifs ifs1 : List Expr} {scope : Scope} {own : List (Str × Nat)} {spos : Pos} {src src1 : Es} {gd gd1 : G} {is is1 : List Nat} {ft ft1 fe : E} {i : Nat} {y : Str} {py : Pos}
theorem ds_lc (hc : X.calm = true) (hN : X.N.Nodup) (hy : X.N[i]? = some y) (hyl : X.env.scope.names.lookup y = some .local) (hsw : swapsWith (.ListComp elt [⟨tg, iter, ifs, 0⟩] scope pos) (some (.Name y py)) spos.line X.env = pure true)
    (ok : BlkOk X.N X.env.scope scope own) (hi : PI X tg iter (iB c src)) (hg : ∀ (s : Shared) (H : Hp) (C : Addr) (cl : List (Str × Addr)) (fp : List Addr), PG (X.blk s H scope (compEnvC scope cl C X.env) fp) tg (gD c gd is))
    (ht : ∀ (s : Shared) (H : Hp) (C : Addr) (cl : List (Str × Addr)) (fp : List Addr), PTs (X.blk s H scope (compEnvC scope cl C X.env) fp) ifs (tT c ft)) (he : ∀ (s : Shared) (H : Hp) (C : Addr) (cl : List (Str × Addr)) (fp : List Addr), PE (X.blk s H scope (compEnvC scope cl C X.env) fp) elt (tP c fe))
    (his : ∀ i ∈ is, i ∈ own.map (·.2) := by decide) (hs : ∀ x, foldedSetIterable iter X.env x = pure x := by intro _; rfl) : PS X (.Assign [.Name y py] (.ListComp elt [⟨tg, iter, ifs, 0⟩] scope pos) spos) (tS c (sAsg (gN i) (eLc (own.map (·.2)) gd src ft fe))) :=
  (ps_setLc hc hN hy hyl hsw hi ok hg ht he hs).imp (name_imp (lc_imp his))
theorem ds_lc2 (vs1 : List Nat) (hc : X.calm = true) (hN : X.N.Nodup) (hy : X.N[i]? = some y) (hyl : X.env.scope.names.lookup y = some .local) (hsw : swapsWith (.ListComp elt [⟨tg, iter, ifs, 0⟩, ⟨tg1, iter1, ifs1, 0⟩] scope pos) (some (.Name y py)) spos.line X.env = pure true)
    (ok : BlkOk X.N X.env.scope scope own) (hi : PI X tg iter (iB c src)) (hg : ∀ (s : Shared) (H : Hp) (C : Addr) (cl : List (Str × Addr)) (fp : List Addr), PG (X.blk s H scope (compEnvC scope cl C X.env) fp) tg (gD c gd is))
    (ht : ∀ (s : Shared) (H : Hp) (C : Addr) (cl : List (Str × Addr)) (fp : List Addr), PTs (X.blk s H scope (compEnvC scope cl C X.env) fp) ifs (tT c ft))
    (hi1 : ∀ (s : Shared) (H : Hp) (C : Addr) (cl : List (Str × Addr)) (fp : List Addr), PI (X.blk s H scope (compEnvC scope cl C X.env) fp) tg1 iter1 (iD c src1))
    (hg1 : ∀ (s : Shared) (H : Hp) (C : Addr) (cl : List (Str × Addr)) (fp : List Addr), PG (X.blk s H scope (compEnvC scope cl C X.env) fp) tg1 (gD c gd1 is1)) (ht1 : ∀ (s : Shared) (H : Hp) (C : Addr) (cl : List (Str × Addr)) (fp : List Addr), PTs (X.blk s H scope (compEnvC scope cl C X.env) fp) ifs1 (tT c ft1))
    (he : ∀ (s : Shared) (H : Hp) (C : Addr) (cl : List (Str × Addr)) (fp : List Addr), PE (X.blk s H scope (compEnvC scope cl C X.env) fp) elt (tP c fe))
    (his : ∀ i ∈ is, i ∈ own.map (·.2) := by decide) (his1 : ∀ i ∈ is1, i ∈ vs1 := by decide) (hv : ∀ i ∈ vs1, i ∈ own.map (·.2) := by decide) (hs : ∀ x, foldedSetIterable iter X.env x = pure x := by intro _; rfl) (hs1 : ∀ env x, foldedSetIterable iter1 env x = pure x := by intro _ _; rfl) :
    PS X (.Assign [.Name y py] (.ListComp elt [⟨tg, iter, ifs, 0⟩, ⟨tg1, iter1, ifs1, 0⟩] scope pos) spos) (tS c (sAsg (gN i) (eLc2 (own.map (·.2)) vs1 gd src ft gd1 src1 ft1 fe))) :=
  (ps_setLc2 hc hN hy hyl hsw hi ok hv hg ht hi1 hg1 ht1 he hs hs1).imp (name_imp (lc2_imp his his1))
end
/-- x, y = a, b -/
theorem ds_par {i j : Nat} (hij : i ≠ j) (h : PS X st (tPar i j (tCons (tP c fa) (tCons (tP c fb) tNil)))) : PS X st (tS c (sPar i j fa fb)) := h.imp fun D σ H ⟨F0, H0, F, δ, g, r, g', w, sp, o, q⟩ => by
  obtain ⟨d, g1, o1, o⟩ := ok_bind.mp o
  obtain ⟨e, g2, o2, o⟩ := ok_bind.mp o
  obtain ⟨rfl, rfl⟩ := ok_pure.mp o
  exact ⟨H0, F, δ, g, d, g1, w, o1, fun v F1 H1 s1 r1 => ⟨H0, F1, δ, g1, e, g2, w.step s1, o2, fun u F2 H2 s2 r2 => ⟨v, u, rfl, q _ F2 H2 ((((w.step s1).step s2).set (r1.up s2.sub)).set r2) ((sp.trans s1).trans s2) (s1.sub.trans s2.sub)⟩⟩⟩
theorem ds_if {ca : Expr} {xs ys : List Stmt} {fc : E} (hc : PT X ca (tT c fc)) (ha : PSs X xs (tS c s)) (hb : PSs X ys (tS c t)) : PS X (.If ca xs ys pos) (tS c (sIf fc s t)) := (ps_if hc ha hb).imp fun D σ H ⟨F0, H0, F, δ, g, r, g', w, sp, o, q⟩ => by
  obtain ⟨x, g1, o1, o⟩ := ok_bind.mp o
  have fin : ∀ (u : S) F1 H1, Stp c F H F1 H1 g1 → Ok (u δ) g1 r g' → tS c u D σ H1 := fun u F1 H1 s1 ou => by
    refine ⟨F0, H0, F1, δ, g1, r, g', w.step s1, sp.trans s1, ou, ?_⟩
    cases r with
    | nx δ' => exact fun σ' F' H' w' sp' sm' => q σ' F' H' w' sp' (s1.sub.trans sm')
    | rt d => exact q
    | bk δ' => exact fun σ' F' H' w' sp' sm' => q σ' F' H' w' sp' (s1.sub.trans sm')
    | ct δ' => exact fun σ' F' H' w' sp' sm' => q σ' F' H' w' sp' (s1.sub.trans sm')
  split at o
  · exact ⟨H0, F, δ, g, true, g1, w, o1, fun F1 H1 s1 => iteT (fin s F1 H1 s1 o)⟩
  · exact ⟨H0, F, δ, g, false, g1, w, o1, fun F1 H1 s1 => iteF (fin t F1 H1 s1 o)⟩
  · exact absurd o not_ok_stuck
theorem ds_ret (he : PE X e (tP c f)) : PS X (.Return (some e) pos) (tS c (sRet f)) := (ps_ret he).imp fun D σ H ⟨F0, H0, F, δ, g, r, g', w, sp, o, q⟩ => by
  obtain ⟨d, g1, o1, o⟩ := ok_bind.mp o
  obtain ⟨rfl, rfl⟩ := ok_pure.mp o
  exact ⟨H0, F, δ, g, d, g1, w, o1, fun v F1 H1 s1 r1 => q v F1 H1 (sp.trans s1) r1⟩
theorem ds_retN : PS X (.Return none pos) (tS c sRetN) := ps_retN.imp fun D σ H ⟨F0, H0, F, δ, g, r, g', w, sp, o, q⟩ => by
  obtain ⟨rfl, rfl⟩ := ok_pure.mp o
  exact q .non F H sp .non
theorem ds_do (he : PE X e (tR c f)) (hs : swapsWith e none pos.line X.env = pure false := by rfl) : PS X (.Expr e pos) (tS c (sDo f)) := (ps_expr he hs).imp fun D σ H ⟨F0, H0, F, δ, g, r, g', w, sp, o, q⟩ => by
  obtain ⟨d, g1, o1, o⟩ := ok_bind.mp o
  obtain ⟨rfl, rfl⟩ := ok_pure.mp o
  exact ⟨H0, F, δ, g, d, g1, w, o1, fun v F1 H1 s1 r1 => q σ F1 H1 (w.step s1) (sp.trans s1) s1.sub⟩

/-! ### a list of one's own -/
/-- an expression that makes a new list: its value is not relied on yet -/
def tN (c : C) (f : E) : TE := fun σ H Q => ∃ H0 F δ g ds g', Wd c H0 F H σ δ g ∧ Ok (f δ) g (.lst ds) g' ∧ ∀ p vs F' H', Stp c F H F' H' g' → H' p = some (.lst vs) → F' p = none → H p = none → RepAll c F' vs ds → Q (.ref p) H'
theorem dn_lst {es : List Expr} {fs : Es} (h : PA X es (tAs c fs)) : PE X (.List es pos) (tN c (eLst fs)) := (pe_lst h).imp fun σ H Q ⟨H0, F, δ, g, d, g', w, o, q⟩ => by
  obtain ⟨xs, g1, o1, o⟩ := ok_bind.mp o
  split at o
  · rename_i hl
    obtain ⟨e, rfl⟩ := ok_pure.mp o
    cases e
    refine ⟨H0, F, δ, g, _, g1, w, o1, fun vs F1 H1 s1 r1 => ⟨by rw [r1.length]; exact lim_le hl, fun p hp => ?_⟩⟩
    have st := Stp.tmp (o := .lst vs) s1.le s1.gen hp
    have fp : F1 p = none := by
      cases e : F1 p with
      | none => rfl
      | some u => rw [s1.le p u e] at hp; cases hp
    have hp0 : H p = none := by
      cases e : H p with
      | none => rfl
      | some u =>
        by_cases n : c.ga = some p
        · obtain ⟨_, q2⟩ := s1.gen.gen p n
          rw [q2] at hp; cases hp
        · rw [s1.ext p u n e] at hp; cases hp
    exact q p vs F1 _ (s1.trans st) upd_same fp hp0 r1
  · exact absurd o not_ok_stuck
/-- list(xs) -/
theorem dn_list {x : Str} {p : Pos} (hm : X.mg x = none) (hv : bootBuiltins x = some (.type "list")) (ha : PE X a (tR c fa)) (hg : Gl X x := by rfl) (hn : x ≠ "__name__" := by decide) (hdb : (x == ("__debug__" : Str)) = false := by decide)
    (he : starEach [a] X.env = (false, eval a X.env) :: starEach [] X.env := by rfl) : PE X (.Call (.Name x p) [a] [] pos) (tN c (eF dList fa)) := (pe_callTy call_list_of hg hm hv (pa_cons ha pa_nil he) hn hdb he rfl).imp fun σ H Q ⟨H0, F, δ, g, d, g', w, o, q⟩ => by
  obtain ⟨x, g1, o1, o⟩ := ok_bind.mp o
  have fin : ∀ (v : V) (F1 H1 : Hp) (a : Addr) (vs : List V), Stp c F H F1 H1 g1 → (SqL X.K H1 a vs ∨ SqT X.K H1 a vs) → v = .ref a → RepAll c F1 vs d → g' = g1 → ∃ p ys, [v] = [V.ref p] ∧ (SqL X.K H1 p ys ∨ SqT X.K H1 p ys) ∧ ∀ l, H1 l = none → Q (.ref l) (upd H1 l (.lst ys)) := fun v F1 H1 a vs s1 hq ev ra eg => by
    subst ev eg
    refine ⟨a, vs, rfl, hq, fun p hp => ?_⟩
    have st := Stp.tmp (o := .lst vs) s1.le s1.gen hp
    have fp : F1 p = none := by
      cases e : F1 p with
      | none => rfl
      | some u => rw [s1.le p u e] at hp; cases hp
    have hp0 : H p = none := by
      cases e : H p with
      | none => rfl
      | some u =>
        by_cases n : c.ga = some p
        · obtain ⟨_, q2⟩ := s1.gen.gen p n
          rw [q2] at hp; cases hp
        · rw [s1.ext p u n e] at hp; cases hp
    exact q p vs F1 _ (s1.trans st) upd_same fp hp0 ra
  unfold dList at o
  split at o
  · obtain ⟨e, rfl⟩ := ok_pure.mp o
    cases e
    refine ⟨H0, F, δ, g, _, g1, w, o1, fun v F1 H1 s1 r1 => ?_⟩
    obtain ⟨a, vs, rfl, ea, ra⟩ := r1.lst s1.le
    exact fin _ F1 H1 a vs s1 (.inl (SqL.of ea)) rfl ra rfl
  · obtain ⟨e, rfl⟩ := ok_pure.mp o
    cases e
    refine ⟨H0, F, δ, g, _, g1, w, o1, fun v F1 H1 s1 r1 => ?_⟩
    have r1 := r1.rep rfl
    cases r1 with
    | @tup _ a vs _ ea ra => exact fin _ F1 H1 a vs s1 (.inr (SqT.of (s1.le _ _ ea))) rfl ra rfl
  · exact absurd o not_ok_stuck
theorem own_of {i : Nat} {F0 H0 F H F1 H1 : Hp} {σ : L2.St} {δ : Dlt} {g g1 : Gs} {p : Addr} {vs : List V} {ds : List D} (w : Wd c H0 F H σ δ g) (sp : Stp c F0 H0 F H g) (s1 : Stp c F H F1 H1 g1) (e1 : H1 p = some (.lst vs)) (e2 : F1 p = none) (e3 : H p = none) (r : RepAll c F1 vs ds) :
    Wd c H0 F1 H1 (σ.set i (some (.ref p))) (δ.set i (.own ds)) g1 := by
  have np : c.ga ≠ some p := fun n => by
    obtain ⟨_, q2⟩ := w.gen.gen p n
    rw [e3] at q2; cases q2
  refine (w.step s1).setOwn e1 e2 ?_ np r fun j ys hj ho => ?_
  · cases e : H0 p with
    | none => rfl
    | some u => rw [sp.ext p u np e] at e3; cases e3
  · obtain ⟨a, _, a1, a2, _⟩ := w.own j ys ho
    rw [a1]
    intro z
    cases z
    rw [e3] at a2; cases a2
/-- x = [..], x = list(..), to be filled -/
theorem ds_own {tg : Expr} {i : Nat} (he : PE X e (tN c f)) (hg : PG X tg (gName i)) (hs : swapsWithSole [tg] e pos.line X.env = pure false := by rfl) (hw : swappedStores [tg] e X.env = pure none := by rfl) (h1 : (assignEach [tg] X.env).map (·.2) = [assign tg X.env] := by rfl) : PS X (.Assign [tg] e pos) (tS c (sOwn i f)) := (ps_asg he hg hs hw h1).imp fun D σ H ⟨F0, H0, F, δ, g, r, g', w, sp, o, q⟩ => by
  obtain ⟨d, g1, o1, o⟩ := ok_bind.mp o
  split at o
  · obtain ⟨rfl, rfl⟩ := ok_pure.mp o
    exact ⟨H0, F, δ, g, _, g1, w, o1, fun p vs F1 H1 s1 e1 e2 e3 r1 => q _ F1 H1 (own_of w sp s1 e1 e2 e3 r1) (sp.trans s1) s1.sub⟩
  · exact absurd o not_ok_stuck
/-- x, y = [..], b: x to be filled -/
def sParO (i j : Nat) (a b : E) : S := fun δ => a δ >>= fun x => match x with
  | .lst xs => b δ >>= fun y => pure (.nx ((δ.set i (.own xs)).set j (.val y)))
  | _ => stuck
/-- both to be filled -/
def sParOO (i j : Nat) (a b : E) : S := fun δ => a δ >>= fun x => match x with
  | .lst xs => b δ >>= fun y => match y with
    | .lst ys => pure (.nx ((δ.set i (.own xs)).set j (.own ys)))
    | _ => stuck
  | _ => stuck
theorem ds_parO {i j : Nat} (h : PS X st (tPar i j (tCons (tN c fa) (tCons (tP c fb) tNil)))) : PS X st (tS c (sParO i j fa fb)) := h.imp fun D σ H ⟨F0, H0, F, δ, g, r, g', w, sp, o, q⟩ => by
  obtain ⟨d, g1, o1, o⟩ := ok_bind.mp o
  split at o
  · obtain ⟨e, g2, o2, o⟩ := ok_bind.mp o
    obtain ⟨rfl, rfl⟩ := ok_pure.mp o
    refine ⟨H0, F, δ, g, _, g1, w, o1, fun p vs F1 H1 s1 e1 e2 e3 r1 => ⟨H0, F1, δ, g1, e, g2, w.step s1, o2, fun u F2 H2 s2 r2 => ⟨.ref p, u, rfl, ?_⟩⟩⟩
    have np : c.ga ≠ some p := fun n => by
      obtain ⟨_, q2⟩ := w.gen.gen p n
      rw [e3] at q2; cases q2
    have e1' := s2.ext p _ np e1
    have e2' : F2 p = none := by
      by_cases h : F2 p = none
      · exact h
      · have k := s2.new p h e2
        rw [e1] at k; cases k
    exact q _ F2 H2 ((own_of w sp (s1.trans s2) e1' e2' e3 (r1.up s2.sub)).set r2) ((sp.trans s1).trans s2) (s1.sub.trans s2.sub)
  · exact absurd o not_ok_stuck
theorem ds_parOO {i j : Nat} (hij : i ≠ j) (h : PS X st (tPar i j (tCons (tN c fa) (tCons (tN c fb) tNil)))) : PS X st (tS c (sParOO i j fa fb)) := h.imp fun D σ H ⟨F0, H0, F, δ, g, r, g', w, sp, o, q⟩ => by
  obtain ⟨d, g1, o1, o⟩ := ok_bind.mp o
  split at o
  · obtain ⟨e, g2, o2, o⟩ := ok_bind.mp o
    split at o
    · obtain ⟨rfl, rfl⟩ := ok_pure.mp o
      refine ⟨H0, F, δ, g, _, g1, w, o1, fun p vs F1 H1 s1 e1 e2 e3 r1 => ⟨H0, F1, δ, g1, _, g2, w.step s1, o2, fun p' us F2 H2 s2 a1 a2 a3 r2 => ⟨.ref p, .ref p', rfl, ?_⟩⟩⟩
      have np : c.ga ≠ some p := fun n => by
        obtain ⟨_, q2⟩ := w.gen.gen p n
        rw [e3] at q2; cases q2
      have e1' := s2.ext p _ np e1
      have e2' : F2 p = none := by
        by_cases h : F2 p = none
        · exact h
        · have k := s2.new p h e2
          rw [e1] at k; cases k
      have ne : p' ≠ p := fun z => by rw [z, e1] at a3; cases a3
      have w1 := own_of (i := i) w sp (s1.trans s2) e1' e2' e3 (r1.up s2.sub)
      have np' : c.ga ≠ some p' := fun n => by
        obtain ⟨_, q2⟩ := s1.gen.gen p' n
        rw [a3] at q2; cases q2
      refine q _ F2 H2 (w1.setOwn a1 a2 ?_ np' r2 fun k ys hk ho => ?_) ((sp.trans s1).trans s2) (s1.sub.trans s2.sub)
      · cases e : H0 p' with
        | none => rfl
        | some u => rw [(sp.trans s1).ext p' u np' e] at a3; cases a3
      · by_cases hik : i = k
        · subst hik
          obtain ⟨a, _, b1, b2, _⟩ := w1.own i ys ho
          have hl : i < σ.length := by
            by_cases hl : i < σ.length
            · exact hl
            · rw [List.getElem?_eq_none (by simpa using hl)] at b1; cases b1
          rw [List.getElem?_set_self hl]
          intro z
          cases z
          exact ne rfl
        · rw [List.getElem?_set_ne hik] at ho ⊢
          obtain ⟨a, _, b1, b2, _, _, b5, _⟩ := w.own k ys ho
          rw [b1]
          intro z
          cases z
          rw [s1.ext _ _ b5 b2] at a3; cases a3
    · exact absurd o not_ok_stuck
  · exact absurd o not_ok_stuck
/-- from here on a list of one's own is shared -/
theorem dss_frz {i : Nat} (h : PSs X sts (tS c s)) : PSs X sts (tS c (sSeq (sFrz i) s)) := h.imp fun D σ H ⟨F0, H0, F, δ, g, r, g', w, sp, o, q⟩ => by
  obtain ⟨r1, g1, o1, o2⟩ := ok_bind.mp o
  unfold sFrz at o1
  split at o1
  · rename_i xs hx
    obtain ⟨rfl, rfl⟩ := ok_pure.mp o1
    obtain ⟨a, vs, e1, e2, e3, e4, e5, ra⟩ := w.own i xs hx
    have sub : Same F (upd F a (.lst vs)) := fun b u e => by rw [upd_ne (ne_of_none e e3)]; exact e
    have lef : Same (upd F a (.lst vs)) H := fun b u e => by
      by_cases m : b = a
      · subst m; rw [upd_same] at e; rw [← e]; exact e2
      · rw [upd_ne m] at e; exact w.le b u e
    have gen : GenOk c (upd F a (.lst vs)) H g := ⟨fun b n => by
      obtain ⟨q1, q2⟩ := w.gen.gen b n
      rw [upd_ne (fun z => e5 (by rw [← z]; exact n))]
      exact ⟨q1, q2⟩, w.gen.bo, w.gen.nb⟩
    have inl : i < σ.length := by
      by_cases hl : i < σ.length
      · exact hl
      · rw [List.getElem?_eq_none (by simpa using hl)] at e1; cases e1
    have w' : Wd c H0 (upd F a (.lst vs)) H σ (δ.set i (.val (.lst xs))) g := by
      have nj : ∀ (k : Nat) (zs : List DL.D), (δ.set i (Sl.val (.lst xs)))[k]? = some (Sl.own zs) → i ≠ k := fun k zs h e => by
        subst e
        rw [List.getElem?_set_self (by rw [w.len]; exact inl)] at h; cases h
      refine ⟨lef, gen, by simp [w.len], fun j d h => ?_, fun j ys h => ?_, fun j k ys zs ne h1 h2 => ?_, w.bo0⟩
      · by_cases hj : i = j
        · subst hj
          rw [List.getElem?_set_self (by rw [w.len]; exact inl)] at h
          cases h
          exact ⟨_, e1, .lst upd_same (ra.up sub)⟩
        · rw [List.getElem?_set_ne hj] at h
          obtain ⟨v, a1, a2⟩ := w.val j d h
          exact ⟨v, a1, a2.up sub⟩
      · have n := nj j ys h
        rw [List.getElem?_set_ne n] at h
        obtain ⟨b, us, b1, b2, b3, b4, b5, rb⟩ := w.own j ys h
        have m : b ≠ a := fun z => w.apart i j xs ys n hx h (by rw [e1, b1, z])
        exact ⟨b, us, b1, b2, by rw [upd_ne m]; exact b3, b4, b5, rb.up sub⟩
      · have n1 := nj j ys h1
        have n2 := nj k zs h2
        rw [List.getElem?_set_ne n1] at h1
        rw [List.getElem?_set_ne n2] at h2
        exact w.apart j k ys zs ne h1 h2
    have sp' : Stp c F0 H0 (upd F a (.lst vs)) H g := ⟨sp.sub.trans sub, sp.ext, fun b h1 h2 => by
      by_cases m : b = a
      · rw [m]; exact e4
      · rw [upd_ne m] at h1; exact sp.new b h1 h2, lef, gen⟩
    refine ⟨F0, H0, _, _, g, r, g', w', sp', o2, ?_⟩
    cases r with
    | nx δ' => exact fun σ' F' H' w' sp' sm' => q σ' F' H' w' sp' (sub.trans sm')
    | rt d => exact q
    | bk δ' => exact fun σ' F' H' w' sp' sm' => q σ' F' H' w' sp' (sub.trans sm')
    | ct δ' => exact fun σ' F' H' w' sp' sm' => q σ' F' H' w' sp' (sub.trans sm')
  · exact absurd o1 not_ok_stuck
/-- an own list's content turns -/
theorem Wd.turn {i : Nat} {H0 F H : Hp} {σ : L2.St} {δ : Dlt} {g : Gs} {a : Addr} {xs xs' : List D} {vs' : List V} (w : Wd c H0 F H σ δ g) (hx : δ[i]? = some (Sl.own xs)) (e1 : σ[i]? = some (some (V.ref a))) (r : RepAll c F vs' xs') : Wd c H0 F (upd H a (.lst vs')) σ (δ.set i (.own xs')) g := by
  obtain ⟨a', vs, b1, e2, e3, e4, e5, ra⟩ := w.own i xs hx
  rw [e1] at b1
  cases b1
  have inl : i < δ.length := by
    by_cases hl : i < δ.length
    · exact hl
    · rw [List.getElem?_eq_none (by simpa using hl)] at hx; cases hx
  refine ⟨fun b u e => ?_, ⟨fun b n => ?_, fun b u e => by rw [upd_ne (ne_of_none (w.bo0 b u e) e4)]; exact w.gen.bo b u e, w.gen.nb⟩, by simp [w.len], fun j d h => ?_, fun j ys h => ?_, fun j k ys zs ne h1 h2 => ?_, w.bo0⟩
  · rw [upd_ne (ne_of_none e e3)]; exact w.le b u e
  · obtain ⟨q1, q2⟩ := w.gen.gen b n
    rw [upd_ne (fun z => e5 (by rw [← z]; exact n))]
    exact ⟨q1, q2⟩
  · by_cases hj : i = j
    · subst hj
      rw [List.getElem?_set_self inl] at h; cases h
    · rw [List.getElem?_set_ne hj] at h
      exact w.val j d h
  · by_cases hj : i = j
    · subst hj
      rw [List.getElem?_set_self inl] at h
      cases h
      exact ⟨a, vs', e1, upd_same, e3, e4, e5, r⟩
    · rw [List.getElem?_set_ne hj] at h
      obtain ⟨b, us, b1, b2, b3, b4, b5, rb⟩ := w.own j ys h
      have m : b ≠ a := fun z => w.apart i j xs ys hj hx h (by rw [e1, b1, z])
      exact ⟨b, us, b1, by rw [upd_ne m]; exact b2, b3, b4, b5, rb⟩
  · by_cases hj : i = j
    · subst hj
      rw [List.getElem?_set_ne ne] at h2
      exact w.apart i k xs zs ne hx h2
    · rw [List.getElem?_set_ne hj] at h1
      by_cases hk : i = k
      · subst hk
        exact w.apart j i ys xs ne h1 hx
      · rw [List.getElem?_set_ne hk] at h2
        exact w.apart j k ys zs ne h1 h2
theorem Stp.turn {F0 H0 F H : Hp} {g : Gs} {a : Addr} {o : HO} (sp : Stp c F0 H0 F H g) (e3 : F a = none) (e4 : H0 a = none) (e5 : c.ga ≠ some a) (hb : Same c.bo H0) : Stp c F0 H0 F (upd H a o) g := by
  refine ⟨sp.sub, fun b u n e => ?_, sp.new, fun b u e => ?_, ⟨fun b n => ?_, fun b u e => by rw [upd_ne (ne_of_none (hb b u e) e4)]; exact sp.gen.bo b u e, sp.gen.nb⟩⟩
  · rw [upd_ne (ne_of_none e e4)]; exact sp.ext b u n e
  · rw [upd_ne (ne_of_none e e3)]; exact sp.le b u e
  · obtain ⟨q1, q2⟩ := sp.gen.gen b n
    rw [upd_ne (fun z => e5 (by rw [← z]; exact n))]
    exact ⟨q1, q2⟩
/-- x.append(e), x a list of one's own -/
theorem ds_app {i : Nat} {apos p2 : Pos} (hv : PE X a (tVar i)) (hb : PE X b (tP c fb)) (hbase : attributeBase a "append" X.env (eval a X.env) = eval a X.env := by rfl)
    (hfew : ((backTo pos (starEach [b] X.env)).all (fun x => !x.1) && (backToKw pos (keywordEach [] X.env)).all (fun x => x.1.isSome) && decide ([b].length + ([] : List Keyword).length + (if ([] : List Keyword).isEmpty then 0 else 1) < 30)) = true := by rfl)
    (hline : (apos.endLine == pos.line) = true := by rfl) (hs : starEach [b] X.env = (false, eval b X.env) :: starEach [] X.env := by rfl) (hsw : swapsWith (.Call (.Attribute a "append" apos) [b] [] pos) none p2.line X.env = pure false := by rfl) :
    PS X (.Expr (.Call (.Attribute a "append" apos) [b] [] pos) p2) (tS c (sApp i fb)) :=
  (ps_expr (pe_bm PySem.F.plainAttrs_list PySem.F.slot_list_append PySem.F.type_list_append mt_append hv (pa_cons hb pa_nil hs) hbase hfew hline hs rfl) hsw).imp fun D σ H ⟨F0, H0, F, δ, g, r, g', w, sp, o, q⟩ => by
    obtain ⟨d, g1, o1, o⟩ := ok_bind.mp o
    split at o
    · rename_i xs hx
      split at o
      · rename_i hl
        obtain ⟨rfl, rfl⟩ := ok_pure.mp o
        obtain ⟨p, vs, e1, e2, e3, e4, e5, ra⟩ := w.own i xs hx
        refine ⟨.ref p, e1, .inl ⟨rfl, vs, SqL.of e2⟩, H0, F, δ, g, d, g1, w, o1, fun v F1 H1 s1 r1 => ⟨p, vs, v, rfl, rfl, s1.ext p _ e5 e2, ?_, ?_⟩⟩
        · rw [ra.length]
          have := lim_le hl
          omega
        · have w1 := w.step s1
          obtain ⟨_, _, b1, _, b3, _⟩ := w1.own i xs hx
          rw [e1] at b1
          cases b1
          exact q σ F1 _ (w1.turn hx e1 ((ra.up s1.sub).append (.cons r1 .nil))) ((sp.trans s1).turn b3 e4 e5 w.bo0) s1.sub
      · exact absurd o not_ok_stuck
    · exact absurd o not_ok_stuck
end
end DL

/-! ## DFn -/
set_option Elab.async false
set_option autoImplicit false
set_option linter.all false
set_option maxRecDepth 100000
set_option maxHeartbeats 4000000
/-! DFn: for, while, defs and their calls, by plain data. -/
namespace DL
open PySem PySem.Spec PyProof.Rows L2
section
variable {X : Cx} {c : C} {a b e : Expr} {st : Stmt} {sts : List Stmt} {s t : S} {f fa fb : E} {pos : Pos}
/-! ### loops -/
theorem for_imp {src : Es} {gd : G} {is : List Nat} : ∀ D σ H, tS c (sFor gd src s) D σ H → tFor (iD c src) (gD c gd is) (tS c s) D σ H := fun D σ H ⟨F0, H0, F, δ, g, r, g', w, sp, o, q⟩ => by
  obtain ⟨ds, g1, o1, o⟩ := ok_bind.mp o
  refine ⟨H0, F, δ, g, ds, g1, w, o1, fun J F1 H1 s1 wk => ?_⟩
  refine ⟨fun i m σ2 H2 => m = ds.length - i ∧ i ≤ ds.length ∧ ∃ F2 δ2 g2, Wd c H0 F2 H2 σ2 δ2 g2 ∧ Stp c F0 H0 F2 H2 g2 ∧ Same F1 F2 ∧ Ok (forGo gd s (ds.drop i) δ2) g2 r g',
    ⟨ds.length, by simp, Nat.zero_le _, F1, δ, g1, w.step s1, sp.trans s1, .refl F1, o⟩, ?_⟩
  rintro i m σ2 H2 ⟨rfl, hi, F2, δ2, g2, w2, sp2, sm2, o2⟩
  by_cases hlt : i < ds.length
  · refine .inr ⟨wk.goes i F2 H2 hlt sm2 w2.le (fun _ z => nomatch z) w2.gen.bo, _, fun σ' H' hN => ⟨ds.length - (i + 1), by omega, rfl, hlt, hN⟩, fun x H3 hy => ?_⟩
    obtain ⟨F3, d, hd, st, rx⟩ := wk.yields i F2 H2 g2 x H3 hlt sm2 w2.le (fun _ z => nomatch z) w2.gen hy
    rw [List.drop_eq_getElem_cons hlt] at o2
    rw [List.getElem?_eq_getElem hlt] at hd
    cases hd
    unfold forGo at o2
    obtain ⟨δ', g'', ok1, ok2⟩ := ok_bind.mp o2
    have hgd : gd ds[i] δ2 = some δ' ∧ g2 = g'' := by
      unfold liftG at ok1
      split at ok1
      · rename_i e
        obtain ⟨rfl, rfl⟩ := ok_pure.mp ok1
        exact ⟨e, rfl⟩
      · exact absurd ok1 not_ok_stuck
    obtain ⟨hgd, rfl⟩ := hgd
    obtain ⟨r3, g3, ok3, ok4⟩ := ok_bind.mp ok2
    refine ⟨H0, F3, δ2, g2, ds[i], δ', w2.step st, rx, hgd, fun σ3 w3 _ _ => ⟨F0, H0, F3, δ', g2, r3, g3, w3, sp2.trans st, ok3, ?_⟩⟩
    have sm3 : Same F1 F3 := sm2.trans st.sub
    cases r3 with
    | nx δ4 => exact fun σ4 F4 H4 w4 sp4 sm4 => ⟨F4, δ4, g3, w4, sp4, sm3.trans sm4, ok4⟩
    | ct δ4 => exact fun σ4 F4 H4 w4 sp4 sm4 => ⟨F4, δ4, g3, w4, sp4, sm3.trans sm4, ok4⟩
    | bk δ4 =>
      obtain ⟨rfl, rfl⟩ := ok_pure.mp ok4
      exact fun σ4 F4 H4 w4 sp4 sm4 => q σ4 F4 H4 w4 sp4 (s1.sub.trans (sm3.trans sm4))
    | rt d =>
      obtain ⟨rfl, rfl⟩ := ok_pure.mp ok4
      exact q
  · have e : i = ds.length := by omega
    subst e
    rw [List.drop_length] at o2
    obtain ⟨rfl, rfl⟩ := ok_pure.mp o2
    exact .inl ⟨wk.stops F2 H2 sm2 w2.le (fun _ z => nomatch z) w2.gen.bo, q σ2 F2 H2 w2 sp2 (s1.sub.trans sm2)⟩
theorem ds_for {tg iter : Expr} {src : Es} {gd : G} {is : List Nat} (hp : PassesOwn (model X.prog X.w) X.A X.env X.xe) (hc : X.calm = true) (hi : PI X tg iter (iD c src)) (hg : PG X tg (gD c gd is)) (hb : PSs X sts (tS c s)) (hs : ∀ x, foldedSetIterable iter X.env x = pure x := by intro _; rfl) :
    PS X (.For tg iter sts [] pos) (tS c (sFor gd src s)) := (ps_for hp hc hi hg hb hs).imp for_imp
theorem while_imp {fc : E} {n : Nat} : ∀ D σ H, tS c (sWh n fc s) D σ H → tWhile (tT c fc) (tS c s) D σ H := fun D σ H ⟨F0, H0, F, δ, g, r, g', w, sp, o, q⟩ => by
  refine ⟨fun m σ2 H2 => ∃ F2 δ2 g2, Wd c H0 F2 H2 σ2 δ2 g2 ∧ Stp c F0 H0 F2 H2 g2 ∧ Same F F2 ∧ Ok (whGo fc s m δ2) g2 r g', ⟨n, F, δ, g, w, sp, .refl F, o⟩, ?_⟩
  rintro m σ2 H2 ⟨F2, δ2, g2, w2, sp2, sm2, o2⟩
  cases m with
  | zero => exact absurd o2 not_ok_stuck
  | succ m =>
    unfold whGo at o2
    obtain ⟨x, g3, o3, o4⟩ := ok_bind.mp o2
    cases x with
    | bl x =>
      refine ⟨H0, F2, δ2, g2, x, g3, w2, o3, fun F3 H3 s3 => ?_⟩
      cases x with
      | true =>
        obtain ⟨r4, g4, o5, o6⟩ := ok_bind.mp o4
        refine iteT ⟨_, fun σ' H' hN => ⟨m, Nat.lt_succ_self m, hN⟩, F0, H0, F3, δ2, g3, r4, g4, w2.step s3, sp2.trans s3, o5, ?_⟩
        have sm3 : Same F F3 := sm2.trans s3.sub
        cases r4 with
        | nx δ4 => exact fun σ4 F4 H4 w4 sp4 sm4 => ⟨F4, δ4, g4, w4, sp4, sm3.trans sm4, o6⟩
        | ct δ4 => exact fun σ4 F4 H4 w4 sp4 sm4 => ⟨F4, δ4, g4, w4, sp4, sm3.trans sm4, o6⟩
        | bk δ4 =>
          obtain ⟨rfl, rfl⟩ := ok_pure.mp o6
          exact fun σ4 F4 H4 w4 sp4 sm4 => q σ4 F4 H4 w4 sp4 (sm3.trans sm4)
        | rt d =>
          obtain ⟨rfl, rfl⟩ := ok_pure.mp o6
          exact q
      | false =>
        obtain ⟨rfl, rfl⟩ := ok_pure.mp o4
        exact iteF (q σ2 F3 H3 (w2.step s3) (sp2.trans s3) (sm2.trans s3.sub))
    | _ => exact absurd o4 not_ok_stuck
theorem ds_while {ca : Expr} {fc : E} (n : Nat) (hp : PassesOwn (model X.prog X.w) X.A X.env X.xe) (hc : PT X ca (tT c fc)) (hb : PSs X sts (tS c s)) : PS X (.While ca sts [] pos) (tS c (sWh n fc s)) := (ps_while hp hc hb).imp while_imp
end

/-! ### a def by its function -/
/-- what a call with vs wants: Fs tells its value -/
def spF (K : PySem.W.Frag) (mg : Str → Option Value) (Fs : List D → M D) (vs : List V) (H : Hp) (Q : VK) : Prop := ∃ (ga : Option Addr) (bo : Hp) (F : Hp) (ds : List D) (g : Gs) (d : D) (g' : Gs), Same F H ∧ GenOk ⟨K, mg, ga, bo⟩ F H g ∧ RepAll ⟨K, mg, ga, bo⟩ F vs ds ∧ Ok (Fs ds) g d g' ∧
  ∀ v F' H', Stp ⟨K, mg, ga, bo⟩ F H F' H' g' → Rep ⟨K, mg, ga, bo⟩ F' v d → Q v H'
/-- any promise, where nothing is being shown (repr) -/
structure FnQ (P : Program) (w : World) (K : PySem.W.Frag) (mg : Str → Option Value) (base : Heap) (k : Nat) (f : Addr) (fd : FuncData) (ps : List Str) (sp : List V → Hp → VK → Prop) : Prop where
  run : ∀ (A : Around) (outer : List Env) (s : Shared) (H : Hp) (args : Args) (us : List Value) (vs : List V) (Q : VK), Room k A → A.guards = some [] → Env0 P w K mg base A outer s H → BindsTo s fd args (ps.zip us) → Vals vs us → vs.length = ps.length → sp vs H Q →
    codeAny (model P w) A (.call (.ref f) args) (CR CX0 outer P w H s Q E0) s
structure FnG (P : Program) (w : World) (K : PySem.W.Frag) (mg : Str → Option Value) (base : Heap) (k : Nat) (f : Addr) (fd : FuncData) (ps : List Str) (Fs : List D → M D) : Prop where
  q : FnQ P w K mg base k f fd ps (spF K mg Fs)
  ar : ∀ ds g d g', Ok (Fs ds) g d g' → ds.length = ps.length
section
variable {P : Program} {w : World} {K : PySem.W.Frag} {mg : Str → Option Value} {base : Heap} {k : Nat} {f : Addr} {fd : FuncData} {ps : List Str}
theorem FnQ.mono {j : Nat} {sp : List V → Hp → VK → Prop} (F : FnQ P w K mg base j f fd ps sp) (h : j ≤ k) : FnQ P w K mg base k f fd ps sp := ⟨fun A outer s H args us vs Q hr => F.run A outer s H args us vs Q (hr.mono h)⟩
theorem FnQ.imp {sp sp' : List V → Hp → VK → Prop} (F : FnQ P w K mg base k f fd ps sp) (h : ∀ vs H Q, vs.length = ps.length → sp' vs H Q → sp vs H Q) : FnQ P w K mg base k f fd ps sp' :=
  ⟨fun A outer s H args us vs Q hr hg he hb hv hl hs => F.run A outer s H args us vs Q hr hg he hb hv hl (h vs H Q hl hs)⟩
theorem FnG.mono {j : Nat} {Fs : List D → M D} (F : FnG P w K mg base j f fd ps Fs) (h : j ≤ k) : FnG P w K mg base k f fd ps Fs := ⟨F.q.mono h, F.ar⟩
/-- less is promised -/
theorem FnG.le {Fs Gs' : List D → M D} (F : FnG P w K mg base k f fd ps Fs) (h : ∀ ds g d g', Ok (Gs' ds) g d g' → Ok (Fs ds) g d g') : FnG P w K mg base k f fd ps Gs' :=
  ⟨F.q.imp fun vs H Q hl ⟨ga, bo, F1, ds, g, d, g', s, gn, r, o, q⟩ => ⟨ga, bo, F1, ds, g, d, g', s, gn, r, h _ _ _ _ o, q⟩, fun ds g d g' o => F.ar ds g d g' (h _ _ _ _ o)⟩
/-- a def of the text, by its body's reading -/
theorem fnQ_of {x qual : Str} {st : Stmt} {N : List Str} {sp : List V → Hp → VK → Prop} (F : Fun K x qual st f fd) (S : FnScope N ps (defScope st))
    (hbody : ∀ (cdv : Value) (A : Around) (outer : List Env) (s : Shared) (H : Hp) (vs : List V) (Q : VK), Room k (A.deeper (envOfC qual (defScope st) s.heap.objs.size f cdv)) → (A.deeper (envOfC qual (defScope st) s.heap.objs.size f cdv)).guards = some [] → vs.length = ps.length → sp vs H Q →
      ∃ t, PSs (cxOf CX0 P w K mg base N qual (defScope st) f cdv A outer s H E0).nox (defBody st) t ∧ t { nx := fun _ H' => Q .non H', rt := Q } (start N vs) H) : FnQ P w K mg base (k + 1) f fd ps sp := by
  obtain ⟨oc, od, kV, doc, pm, an, cdv, ct, osl, rfl, lk, hcd⟩ := F.ex
  refine ⟨fun A outer s H args us vs Q hr hgd e0 hb r hl hsp => ?_⟩
  obtain ⟨t, h1, h2⟩ := hbody cdv A outer s H vs Q (hr.deeper _) hgd hl hsp
  have KX : K.In s.heap := e0.mod.kin.keeps fun b o e => (e0.bs b o e).1
  have hkind : ∀ y ∈ ps.zip us, (defScope st).names.lookup y.1 = some .local ∨ ((defScope st).names.lookup y.1 = some .cell ∧ ((cellsFrom (s.heap.objs.size + 1) (defScope st).names []).lookup y.1).isSome = true) := by
    rintro ⟨n, v⟩ hy
    rcases S.par n (List.of_mem_zip hy).1 with q | q
    · exact .inl q
    · exact .inr ⟨q, PySem.W.cellsFrom_some _ _ _ (.inl q)⟩
  refine codeAny_call_function (hroom := hr.depth) (KX _ _ lk) rfl S.co S.gen rfl (PySem.W.codeRec_of KX hcd)
    (hb _ _ _ _ (wpAny_newFunctionEnv_cells S.kind hkind fun env he s1 x => ?_))
  subst he
  refine ⟨(e0.mod.nolimit.keeps fun b o e => (e0.bs b o e).1).keeps x.toInCall.keep, codeAny_func ?_⟩
  have I : Inv (cxOf CX0 P w K mg base N qual (defScope st) f cdv A outer s H E0) [] (start N vs) H s1 :=
    inv_start S hr.hd e0 hl r x
  refine wpAny_mono (h1.nox.run [] s1 (start N vs) H _ I h2) (fun fl s' hs => ?_) fun e s' hs => hs
  cases fl with
  | ret u =>
    obtain ⟨v, σ', H', J, rv, q⟩ := hs
    exact ⟨v, H', J.os, J.bare, J.base, J.hok, rv, q⟩
  | next =>
    obtain ⟨σ', H', J, q⟩ := hs
    exact ⟨V.non, H', J.os, J.bare, J.base, J.hok, rfl, q⟩
  | brk =>
    obtain ⟨_, _, _, q⟩ := hs
    exact q.elim
  | cont =>
    obtain ⟨_, _, _, q⟩ := hs
    exact q.elim
theorem start_get {N : List Str} {vs : List V} {i : Nat} (h : i < vs.length) : (start N vs)[i]? = some (vs[i]?) := by
  show (vs.map some ++ List.replicate (N.length - vs.length) none)[i]? = some (vs[i]?)
  rw [List.getElem?_append_left (by simpa using h), List.getElem?_map, List.getElem?_eq_getElem h]
  rfl
theorem startD_get {n : Nat} {ds : List D} {i : Nat} {x : Sl} (h : (startD n ds)[i]? = some x) : (∃ d, ds[i]? = some d ∧ x = .val d) ∨ x = .no := by
  unfold startD at h
  by_cases hi : i < ds.length
  · rw [List.getElem?_append_left (by simpa using hi), List.getElem?_map, List.getElem?_eq_getElem hi] at h
    cases h
    exact .inl ⟨_, List.getElem?_eq_getElem hi, rfl⟩
  · rw [List.getElem?_append_right (by simpa using hi), List.getElem?_replicate] at h
    split at h
    · cases h; exact .inr rfl
    · cases h
theorem start_wd {c : C} {N : List Str} {vs : List V} {ds : List D} {F H : Hp} {g : Gs} (le : Same F H) (gen : GenOk c F H g) (r : RepAll c F vs ds) (hl : ds.length ≤ N.length) : Wd c H F H (start N vs) (startD N.length ds) g := by
  have lr := r.length
  refine ⟨le, gen, ?_, fun i d e => ?_, fun i xs e => ?_, fun i j xs ys ne e1 e2 => ?_, gen.bo⟩
  · show (ds.map Sl.val ++ List.replicate (N.length - ds.length) Sl.no).length = (vs.map some ++ List.replicate (N.length - vs.length) none).length
    simp [lr]
  · rcases startD_get e with ⟨d', h1, h2⟩ | h
    · cases h2
      obtain ⟨v, h3, h4⟩ := r.get h1
      refine ⟨v, ?_, h4⟩
      rw [start_get (by rw [lr]; exact (List.getElem?_eq_some_iff.mp h1).1), h3]
    · cases h
  · rcases startD_get e with ⟨d', h1, h2⟩ | h
    · cases h2
    · cases h
  · rcases startD_get e1 with ⟨d', h1, h2⟩ | h
    · cases h2
    · cases h
/-- THE RULE for a def whose body reads as s -/
theorem fn_ar {n p : Nat} {s : S} {ds : List D} {g g' : Gs} {d : D} (o : Ok (fn n p s ds) g d g') : ds.length = p := by
  unfold fn at o
  split at o
  · assumption
  · exact absurd o not_ok_stuck
theorem fnG_of {x qual : Str} {st : Stmt} {N : List Str} {s : S} (F : Fun K x qual st f fd) (S : FnScope N ps (defScope st)) (hN : ps.length ≤ N.length := by decide)
    (hbody : ∀ (cdv : Value) (A : Around) (outer : List Env) (sh : Shared) (H : Hp) (ga : Option Addr) (bo : Hp), Room k (A.deeper (envOfC qual (defScope st) sh.heap.objs.size f cdv)) → (A.deeper (envOfC qual (defScope st) sh.heap.objs.size f cdv)).guards = some [] →
      PSs (cxOf CX0 P w K mg base N qual (defScope st) f cdv A outer sh H E0).nox (defBody st) (tS ⟨K, mg, ga, bo⟩ s)) : FnG P w K mg base (k + 1) f fd ps (fn N.length ps.length s) :=
  ⟨fnQ_of F S fun cdv A outer sh H vs Q hr hg hl ⟨ga, bo, F1, ds, g, d, g', le, gen, r, o, q⟩ => by
    refine ⟨_, hbody cdv A outer sh H ga bo hr hg, ?_⟩
    have hd : ds.length = ps.length := by rw [← r.length]; exact hl
    unfold fn at o
    rw [if_pos hd] at o
    obtain ⟨fl, g1, o1, o2⟩ := ok_bind.mp o
    have w0 := start_wd (N := N) le gen r (by rw [hd]; exact hN)
    refine ⟨F1, H, F1, _, g, fl, g1, w0, .refl le gen, o1, ?_⟩
    cases fl with
    | nx δ' =>
      obtain ⟨rfl, rfl⟩ := ok_pure.mp o2
      exact fun σ' F' H' w' sp' _ => q .non F' H' sp' .non
    | rt d' =>
      obtain ⟨rfl, rfl⟩ := ok_pure.mp o2
      exact q
    | bk δ' => exact absurd o2 not_ok_stuck
    | ct δ' => exact absurd o2 not_ok_stuck, fun ds g d g' o => fn_ar o⟩
end

/-! ### calls of such defs -/
/-- the places of the parameters among the written arguments -/
def pick {α : Type} (ix : List Nat) (xs : List α) : List α := ix.filterMap fun i => xs[i]?
theorem pick_vals {ix : List Nat} {vs : List V} {us : List Value} (r : Vals vs us) : Vals (pick ix vs) (pick ix us) := by
  induction ix with
  | nil => exact .nil
  | cons i ix ih =>
    unfold pick at ih ⊢
    rw [List.filterMap_cons, List.filterMap_cons]
    cases e : vs[i]? with
    | none => rw [r.none_of e]; exact ih
    | some v =>
      obtain ⟨u, h1, h2⟩ := r.get e
      rw [h1]
      exact .cons h2 ih
theorem pick_rep {c : C} {F : Hp} {ix : List Nat} {vs : List V} {ds : List D} (r : RepAll c F vs ds) : RepAll c F (pick ix vs) (pick ix ds) := by
  induction ix with
  | nil => exact .nil
  | cons i ix ih =>
    unfold pick at ih ⊢
    rw [List.filterMap_cons, List.filterMap_cons]
    cases e : vs[i]? with
    | none =>
      have h : ds[i]? = none := by
        rw [List.getElem?_eq_none_iff] at e ⊢
        rw [← r.length]; exact e
      rw [h]; exact ih
    | some v =>
      obtain ⟨u, h1, h2⟩ := r.getV e
      rw [h1]
      exact .cons h2 ih
/-- how a call with keywords ks binds -/
structure KwB (fd : FuncData) (ps ks : List Str) (n : Nat) (ix : List Nat) : Prop where
  to : ∀ us ws : List Value, us.length = n → ws.length = ks.length → bindArgs fd ⟨us, ks.zip ws⟩ = pure (ps.zip (pick ix (us ++ ws)))
  len : ix.length = ps.length
  all : ∀ i ∈ ix, i < n + ks.length
def eCallK (Fs : List D → M D) (ix : List Nat) (fs gs : Es) : E := fun δ => fs δ >>= fun xs => gs δ >>= fun ys => Fs (pick ix (xs ++ ys))
theorem pick_len {α : Type} {xs : List α} : ∀ {ix : List Nat}, (∀ i ∈ ix, i < xs.length) → (pick ix xs).length = ix.length
  | [], _ => rfl
  | i :: ix, h => by
    have ih := pick_len (xs := xs) (ix := ix) fun j hj => h j (List.mem_cons_of_mem _ hj)
    unfold pick at ih ⊢
    rw [List.filterMap_cons, List.getElem?_eq_getElem (h i List.mem_cons_self)]
    simp only [List.length_cons, ih]
section
variable {X : Cx} {k : Nat} {f : Addr} {fd : FuncData} {ps ks : List Str} {Fs : List D → M D} {x : Str} {p pos : Pos} {e : Expr} {es : List Expr} {fs gs : Es} {ga : Option Addr} {bo : Hp} {kws : List Keyword} {sp : List V → Hp → VK → Prop}
theorem run_fnQ {pins : List (Addr × Obj)} {σ : L2.St} {H : Hp} {s : Shared} {Q : VK} {args : Args} {us : List Value} {vs : List V} (F : FnQ X.prog X.w X.K X.mg X.base k f fd ps sp) (hr : Room k X.A) (hgd : X.A.guards = some [])
    (hb : BindsTo s fd args (ps.zip us)) (I : Inv X pins σ H s) (r : Vals vs us) (hl : vs.length = ps.length) (h : sp vs H Q) : codeAny (model X.prog X.w) X.A (.call (.ref f) args) (fun r s' => match r with
      | .ok (.ret u) => EP X pins σ Q u s'
      | .ok _ => False
      | .error e => X.xe e s') s := by
  refine codeAny_mono (F.run X.A X.stack s H args us vs Q hr hgd I.env0 hb r hl h) fun r s' hq => ?_
  cases r with
  | error e => exact False.elim hq
  | ok fl =>
    cases fl with
    | ret u => exact I.after hq
    | next => exact hq
    | brk => exact hq
    | cont => exact hq
/-- f(e, ..) -/
theorem pe_callQ {t : TA} (F : FnQ X.prog X.w X.K X.mg X.base k f fd ps sp) (hr : Room k X.A) (hgd : X.A.guards = some []) (hm : X.mg x = some (.ref f)) (hk : PySem.W.keepIn X.K (.ref f) = true) (hb : Binds X.K fd ps []) (ha : PA X (e :: es) t) (hg : Gl X x := by rfl)
    (hdb : (x == ("__debug__" : Str)) = false := by decide) (he : starEach (e :: es) X.env = (false, eval e X.env) :: starEach es X.env := by rfl) (hpl : (backTo pos (starEach es X.env)).any (·.1) = false := by rfl) :
    PE X (.Call (.Name x p) (e :: es) [] pos) (fun σ H Q => t σ H fun vs H1 => vs.length = ps.length ∧ sp vs H1 Q) := by
  refine ⟨fun pins s σ H Q I h => ?_⟩
  refine wpAny_Call_Name_kw (ld_glob I hg hm ?_ hdb)
  refine PySem.W.callWith_K (h₀ := X.base) I.ok.mod.kin hk
    (thn (ha.run pos pins s σ H _ I h) fun us s1 ⟨vs, H1, I1, r, hl, q⟩ => ⟨I1.kIn, ?_⟩) he hpl
  have b := hb s1 us I1.kIn (by rw [List.append_nil, ← r.length]; exact hl)
  rw [List.append_nil] at b
  exact wpAny_call (codeAny_mono (run_fnQ F hr hgd b I1 r hl q) fun r s' hq => by
    cases r with
    | error e => exact hq
    | ok fl => cases fl <;> exact hq)
theorem d_call (F : FnG X.prog X.w X.K X.mg X.base k f fd ps Fs) (hr : Room k X.A) (hgd : X.A.guards = some []) (hm : X.mg x = some (.ref f)) (hk : PySem.W.keepIn X.K (.ref f) = true) (hb : Binds X.K fd ps []) (ha : PA X (e :: es) (tAs ⟨X.K, X.mg, ga, bo⟩ fs)) (hg : Gl X x := by rfl)
    (hdb : (x == ("__debug__" : Str)) = false := by decide) (he : starEach (e :: es) X.env = (false, eval e X.env) :: starEach es X.env := by rfl) (hpl : (backTo pos (starEach es X.env)).any (·.1) = false := by rfl) :
    PE X (.Call (.Name x p) (e :: es) [] pos) (tP ⟨X.K, X.mg, ga, bo⟩ (eCall Fs fs)) := (pe_callQ F.q hr hgd hm hk hb ha hg hdb he hpl).imp fun σ H Q ⟨H0, F1, δ, g, d, g', w, o, q⟩ => by
  obtain ⟨ds, g1, o1, o⟩ := ok_bind.mp o
  exact ⟨H0, F1, δ, g, ds, g1, w, o1, fun vs F1 H1 s1 r1 => ⟨by rw [r1.length]; exact F.ar _ _ _ _ o, ga, bo, F1, ds, g1, d, g', s1.le, s1.gen, r1, o, fun v F2 H2 s2 r2 => q v F2 H2 (s1.trans s2) r2⟩⟩
/-! ### calls by name -/
theorem kwB_run {s : Shared} {n : Nat} {ix : List Nat} {us ws : List Value} (hb : KwB fd ps ks n ix) (h1 : us.length = n) (h2 : ws.length = ks.length) : BindsTo s fd ⟨us, ks.zip ws⟩ (ps.zip (pick ix (us ++ ws))) := .of_eq (hb.to us ws h1 h2)
theorem pe_callQK {t tk : TA} {n : Nat} {ix : List Nat} (F : FnQ X.prog X.w X.K X.mg X.base k f fd ps sp) (hr : Room k X.A) (hgd : X.A.guards = some []) (hm : X.mg x = some (.ref f)) (hk : PySem.W.keepIn X.K (.ref f) = true) (hb : KwB fd ps ks n ix) (ha : PA X (e :: es) t) (hkw : PK X kws tk) (hnk : kws.length = ks.length)
    (hg : Gl X x := by rfl) (hall : (backToKw pos (keywordEach kws X.env)).all (·.1.isSome) = true := by rfl) (hks : (backToKw pos (keywordEach kws X.env)).filterMap (·.1) = ks := by rfl)
    (hdb : (x == ("__debug__" : Str)) = false := by decide) (he : starEach (e :: es) X.env = (false, eval e X.env) :: starEach es X.env := by rfl)
    (hpl : ((backTo pos (starEach (e :: es) X.env)).any (·.1) || (backToKw pos (keywordEach kws X.env)).any (·.1.isNone)) = false := by rfl) :
    PE X (.Call (.Name x p) (e :: es) kws pos) (fun σ H Q => t σ H fun vs H1 => tk σ H1 fun zs H2 => vs.length = n ∧ zs.length = ks.length ∧ sp (pick ix (vs ++ zs)) H2 Q) := by
  refine ⟨fun pins s σ H Q I h => ?_⟩
  refine wpAny_Call_Name_kw (ld_glob I hg hm ?_ hdb)
  refine PySem.W.callWith_KW (h₀ := X.base) I.ok.mod.kin hk hall (thn (ha.run pos pins s σ H _ I h) fun us s1 ⟨vs, H1, I1, r, q⟩ => ?_) hpl he
  refine thn (hkw.run pos pins s1 σ H1 _ I1 q) fun ws s2 ⟨zs, H2, I2, rz, hl, hz, q2⟩ => ⟨I2.kIn, ?_⟩
  rw [hks]
  have h1 : us.length = n := by rw [← r.length]; exact hl
  have h2 : ws.length = ks.length := by rw [← rz.length]; exact hz
  have hlen : (pick ix (vs ++ zs)).length = ps.length := by
    rw [pick_len fun i hi => ?_, hb.len]
    have := hb.all i hi
    rw [List.length_append, hl, hz]
    exact this
  refine wpAny_call (codeAny_mono (run_fnQ F hr hgd (kwB_run hb h1 h2) I2 (pick_vals (r.append rz)) hlen q2) fun r s' hq => ?_)
  cases r with
  | error e => exact hq
  | ok fl => cases fl <;> exact hq
theorem pe_callQK0 {tk : TA} {ix : List Nat} (F : FnQ X.prog X.w X.K X.mg X.base k f fd ps sp) (hr : Room k X.A) (hgd : X.A.guards = some []) (hm : X.mg x = some (.ref f)) (hk : PySem.W.keepIn X.K (.ref f) = true) (hb : KwB fd ps ks 0 ix) (hkw : PK X kws tk)
    (hg : Gl X x := by rfl) (hall : (backToKw pos (keywordEach kws X.env)).all (·.1.isSome) = true := by rfl) (hks : (backToKw pos (keywordEach kws X.env)).filterMap (·.1) = ks := by rfl)
    (hdb : (x == ("__debug__" : Str)) = false := by decide) (hpl : ((backTo pos (starEach [] X.env)).any (·.1) || (backToKw pos (keywordEach kws X.env)).any (·.1.isNone)) = false := by rfl) :
    PE X (.Call (.Name x p) [] kws pos) (fun σ H Q => tk σ H fun zs H2 => zs.length = ks.length ∧ sp (pick ix zs) H2 Q) := by
  refine ⟨fun pins s σ H Q I h => ?_⟩
  refine wpAny_Call_Name_kw (ld_glob I hg hm ?_ hdb)
  refine PySem.W.callWith_KW0 (h₀ := X.base) I.ok.mod.kin hk hall ?_ hpl
  refine thn (hkw.run pos pins s σ H _ I h) fun ws s2 ⟨zs, H2, I2, rz, hz, q2⟩ => ⟨I2.kIn, ?_⟩
  rw [hks]
  have h2 : ws.length = ks.length := by rw [← rz.length]; exact hz
  have hlen : (pick ix ([] ++ zs)).length = ps.length := by
    rw [pick_len fun i hi => ?_, hb.len]
    have := hb.all i hi
    rw [List.nil_append, hz]
    omega
  refine wpAny_call (codeAny_mono (run_fnQ F hr hgd (kwB_run hb rfl h2) I2 (pick_vals (us := [] ++ ws) (vs := [] ++ zs) rz) hlen q2) fun r s' hq => ?_)
  cases r with
  | error e => exact hq
  | ok fl => cases fl <;> exact hq
/-- arguments' values, as many as written -/
def EsN (n : Nat) (fs : Es) : Prop := ∀ δ g ds g', Ok (fs δ) g ds g' → ds.length = n
theorem esN_nil : EsN 0 esN := fun δ g ds g' o => by
  obtain ⟨rfl, _⟩ := ok_pure.mp o
  rfl
theorem esN_cons {a : E} {r : Es} {n : Nat} (h : EsN n r) : EsN (n + 1) (esC a r) := fun δ g ds g' o => by
  obtain ⟨x, g1, o1, o⟩ := ok_bind.mp o
  obtain ⟨xs, g2, o2, o⟩ := ok_bind.mp o
  obtain ⟨rfl, _⟩ := ok_pure.mp o
  rw [List.length_cons, h _ _ _ _ o2]
theorem dk_nil {c : C} : PK X [] (tAs c esN) := ⟨fun pos pins s σ H Q I ⟨H0, F, δ, g, ds, g', w, o, q⟩ => by
  obtain ⟨rfl, rfl⟩ := ok_pure.mp o
  exact pk_nil.run pos pins s σ H Q I (q [] F H (.refl w.le w.gen) .nil)⟩
theorem dk_cons {c : C} {nm : Option Str} {fe : E} (ha : PE X e (tP c fe)) (hr : PK X kws (tAs c fs)) {kpos : Pos} : PK X (⟨nm, e, kpos⟩ :: kws) (tAs c (esC fe fs)) := ⟨fun pos pins s σ H Q I ⟨H0, F, δ, g, ds, g', w, o, q⟩ => by
  obtain ⟨x, g1, o1, o⟩ := ok_bind.mp o
  obtain ⟨xs, g2, o2, o⟩ := ok_bind.mp o
  obtain ⟨rfl, rfl⟩ := ok_pure.mp o
  exact (pk_cons (kpos := kpos) (nm := nm) ha hr).run pos pins s σ H Q I ⟨H0, F, δ, g, x, g1, w, o1, fun v F1 H1 s1 r1 => ⟨H0, F1, δ, g1, xs, g2, w.step s1, o2, fun vs F2 H2 s2 r2 => q _ F2 H2 (s1.trans s2) (.cons (r1.up s2.sub) r2)⟩⟩⟩
theorem d_callK {n : Nat} {ix : List Nat} (F : FnG X.prog X.w X.K X.mg X.base k f fd ps Fs) (hr : Room k X.A) (hgd : X.A.guards = some []) (hm : X.mg x = some (.ref f)) (hk : PySem.W.keepIn X.K (.ref f) = true) (hb : KwB fd ps ks n ix) (ha : PA X (e :: es) (tAs ⟨X.K, X.mg, ga, bo⟩ fs)) (hkw : PK X kws (tAs ⟨X.K, X.mg, ga, bo⟩ gs)) (hn : EsN n fs) (hn2 : EsN ks.length gs) (hnk : kws.length = ks.length := by rfl)
    (hg : Gl X x := by rfl) (hall : (backToKw pos (keywordEach kws X.env)).all (·.1.isSome) = true := by rfl) (hks : (backToKw pos (keywordEach kws X.env)).filterMap (·.1) = ks := by rfl)
    (hdb : (x == ("__debug__" : Str)) = false := by decide) (he : starEach (e :: es) X.env = (false, eval e X.env) :: starEach es X.env := by rfl)
    (hpl : ((backTo pos (starEach (e :: es) X.env)).any (·.1) || (backToKw pos (keywordEach kws X.env)).any (·.1.isNone)) = false := by rfl) :
    PE X (.Call (.Name x p) (e :: es) kws pos) (tP ⟨X.K, X.mg, ga, bo⟩ (eCallK Fs ix fs gs)) := (pe_callQK F.q hr hgd hm hk hb ha hkw hnk hg hall hks hdb he hpl).imp fun σ H Q ⟨H0, F1, δ, g, d, g', w, o, q⟩ => by
  obtain ⟨xs, g1, o1, o⟩ := ok_bind.mp o
  obtain ⟨ys, g2, o2, o⟩ := ok_bind.mp o
  exact ⟨H0, F1, δ, g, xs, g1, w, o1, fun vs F1 H1 s1 r1 => ⟨H0, F1, δ, g1, ys, g2, w.step s1, o2, fun us F2 H2 s2 r2 => ⟨by rw [r1.length]; exact hn _ _ _ _ o1, by rw [r2.length]; exact hn2 _ _ _ _ o2,
    ga, bo, F2, _, g2, d, g', s2.le, s2.gen, pick_rep ((r1.up s2.sub).append r2), o, fun v F3 H3 s3 r3 => q v F3 H3 ((s1.trans s2).trans s3) r3⟩⟩⟩
/-- f(k = e, ..) -/
theorem d_callK0 {ix : List Nat} (F : FnG X.prog X.w X.K X.mg X.base k f fd ps Fs) (hr : Room k X.A) (hgd : X.A.guards = some []) (hm : X.mg x = some (.ref f)) (hk : PySem.W.keepIn X.K (.ref f) = true) (hb : KwB fd ps ks 0 ix) (hkw : PK X kws (tAs ⟨X.K, X.mg, ga, bo⟩ gs)) (hn2 : EsN ks.length gs)
    (hg : Gl X x := by rfl) (hall : (backToKw pos (keywordEach kws X.env)).all (·.1.isSome) = true := by rfl) (hks : (backToKw pos (keywordEach kws X.env)).filterMap (·.1) = ks := by rfl)
    (hdb : (x == ("__debug__" : Str)) = false := by decide) (hpl : ((backTo pos (starEach [] X.env)).any (·.1) || (backToKw pos (keywordEach kws X.env)).any (·.1.isNone)) = false := by rfl) :
    PE X (.Call (.Name x p) [] kws pos) (tP ⟨X.K, X.mg, ga, bo⟩ (eCall (fun ys => Fs (pick ix ys)) gs)) := (pe_callQK0 F.q hr hgd hm hk hb hkw hg hall hks hdb hpl).imp fun σ H Q ⟨H0, F1, δ, g, d, g', w, o, q⟩ => by
  obtain ⟨ys, g2, o2, o⟩ := ok_bind.mp o
  exact ⟨H0, F1, δ, g, ys, g2, w, o2, fun us F2 H2 s2 r2 => ⟨by rw [r2.length]; exact hn2 _ _ _ _ o2,
    ga, bo, F2, _, g2, d, g', s2.le, s2.gen, pick_rep r2, o, fun v F3 H3 s3 r3 => q v F3 H3 (s2.trans s3) r3⟩⟩
end
end DL

/-! ## DGen -/
set_option Elab.async false
set_option autoImplicit false
set_option linter.all false
set_option maxRecDepth 100000
set_option maxHeartbeats 4000000
/-! DGen: the generator's numbers; pow, bit_length; pop out of a list of one's own; calls by name. -/
namespace DL
open PySem PySem.Spec PyProof.Rows L2

/-! ### pure -/
def getG (k : Nat) : M D := fun g => match g[k]? with
  | some n => some (.ok (.int n), g)
  | none => none
def putG (k : Nat) (n : Int) : M Unit := fun g => if k < g.length then some (.ok (), g.set k n) else none
/-- x[k], x the generator -/
def eG (i k : Nat) : E := fun δ => match δ[i]? with
  | some (.val .gen) => getG k
  | _ => stuck
/-- x[k] = e, x the generator -/
def sG (i k : Nat) (e : E) : S := fun δ => e δ >>= fun d => match d, δ[i]? with
  | .int n, some (.val .gen) => putG k n >>= fun _ => pure (.nx δ)
  | _, _ => stuck
def dBits (d : D) : M D := match d with
  | .int i => pure (.int (Builtin.Int.intBits i : Nat))
  | _ => stuck
def dPow (d e : D) : M D := match d, e with
  | .int i, .int j => if 0 ≤ j ∧ (Builtin.Int.intBits i : Int) * j ≤ 2 ^ 27 then pure (.int (i ^ j.toNat)) else stuck
  | _, _ => stuck
/-- x.append(y.pop(e)) -/
def sAppPop (i j : Nat) (e : E) : S := fun δ => e δ >>= fun d => match d, δ[i]?, δ[j]? with
  | .int k, some (.own xs), some (.own ys) => match place ys.length k with
    | some m => match ys[m]? with
      | some y => if lim (xs.length + 1) ∧ -(2 ^ 63) ≤ k ∧ k < 2 ^ 63 ∧ i ≠ j then pure (.nx ((δ.set j (.own (ys.eraseIdx m))).set i (.own (xs ++ [y])))) else stuck
      | none => stuck
    | none => stuck
  | _, _, _ => stuck
theorem ok_getG {k : Nat} {g g' : Gs} {d : D} (h : Ok (getG k) g d g') : ∃ n, g[k]? = some n ∧ d = .int n ∧ g' = g := by
  unfold Ok getG at h
  split at h
  · rename_i n e
    cases h
    exact ⟨n, e, rfl, rfl⟩
  · cases h
theorem ok_putG {k : Nat} {n : Int} {g g' : Gs} {u : Unit} (h : Ok (putG k n) g u g') : k < g.length ∧ g' = g.set k n := by
  unfold Ok putG at h
  split at h
  · rename_i e
    cases h
    exact ⟨e, rfl⟩
  · cases h

section
variable {X : Cx} {c : C} {a b e : Expr} {fa fb f : E} {pos : Pos}
theorem d_gen {i k : Nat} {kp : Pos} {j : Nat} (h : PE X a (tVar i)) : PE X (.Subscript a (.Constant (.int (k : Nat)) j kp) pos) (tP c (eG i k)) := (pe_ix ix_list h pe_int (fun _ _ => rfl)).imp fun σ H Q ⟨H0, F, δ, g, d, g', w, o, q⟩ => by
  unfold eG at o
  split at o
  · rename_i e1
    obtain ⟨n, hn, rfl, rfl⟩ := ok_getG o
    obtain ⟨v, e2, r⟩ := w.val i _ e1
    cases r with
    | @gen _ p hp =>
      obtain ⟨q1, q2⟩ := w.gen.gen p hp
      refine ⟨_, e2, ⟨p, g'.map V.int, (k : Nat), .int n, rfl, rfl, SqL.of q2, ?_, q _ F H (.refl w.le w.gen) (.int n)⟩⟩
      obtain ⟨hl, hh⟩ := List.getElem?_eq_some_iff.mp hn
      unfold atI
      rw [show ixN (g'.map V.int).length (k : Nat) = some k by
        unfold ixN
        rw [if_pos (by omega), if_pos (by simpa using hl)]
        simp]
      show (g'.map V.int)[k]? = some (V.int n)
      rw [List.getElem?_map, hn]
      rfl
  · exact absurd o not_ok_stuck
theorem Wd.putG {H0 F H : Hp} {σ : L2.St} {δ : Dlt} {g g' : Gs} {p : Addr} (w : Wd c H0 F H σ δ g) (hp : c.ga = some p) : Wd c H0 F (upd H p (.lst (g'.map V.int))) σ δ g' := by
  obtain ⟨q1, q2⟩ := w.gen.gen p hp
  refine ⟨fun b u e => ?_, ⟨fun b n => ?_, fun b u e => by rw [upd_ne (ne_of_none e (w.gen.nb p hp))]; exact w.gen.bo b u e, w.gen.nb⟩, w.len, w.val, fun j xs h => ?_, w.apart, w.bo0⟩
  · rw [upd_ne (ne_of_none e q1)]; exact w.le b u e
  · rw [hp] at n; cases n
    exact ⟨q1, upd_same⟩
  · obtain ⟨a, vs, e1, e2, e3, e4, e5, r⟩ := w.own j xs h
    exact ⟨a, vs, e1, by rw [upd_ne (fun z => e5 (by rw [z]; exact hp))]; exact e2, e3, e4, e5, r⟩
theorem Stp.putG {F0 H0 F H : Hp} {g g' : Gs} {p : Addr} (s : Stp c F0 H0 F H g) (hp : c.ga = some p) : Stp c F0 H0 F (upd H p (.lst (g'.map V.int))) g' := by
  obtain ⟨q1, q2⟩ := s.gen.gen p hp
  refine ⟨s.sub, fun b o n e => ?_, s.new, fun b u e => ?_, ⟨fun b n => ?_, fun b u e => by rw [upd_ne (ne_of_none e (s.gen.nb p hp))]; exact s.gen.bo b u e, s.gen.nb⟩⟩
  · rw [upd_ne (fun z => n (by rw [z]; exact hp))]; exact s.ext b o n e
  · rw [upd_ne (ne_of_none e q1)]; exact s.le b u e
  · rw [hp] at n; cases n
    exact ⟨q1, upd_same⟩
theorem ds_gen {i k j : Nat} {kp p2 : Pos} (hv : PE X a (tVar i)) (he : PE X e (tP c f))
    (ha : ∀ v, assign (.Subscript a (.Constant (.int (k : Nat)) j kp) p2) X.env v = (do
      let ov ← holding [v] (eval a X.env)
      let iv ← holding [v, ov] (eval (.Constant (.int (k : Nat)) j kp) X.env)
      standAt p2
      holding [v, ov, iv] (setItem ov iv v)
      release [v, ov, iv] []) := by intro _; rfl)
    (hs : swapsWithSole [.Subscript a (.Constant (.int (k : Nat)) j kp) p2] e pos.line X.env = pure false := by rfl) (hw : swappedStores [.Subscript a (.Constant (.int (k : Nat)) j kp) p2] e X.env = pure none := by rfl)
    (h1 : (assignEach [.Subscript a (.Constant (.int (k : Nat)) j kp) p2] X.env).map (·.2) = [assign (.Subscript a (.Constant (.int (k : Nat)) j kp) p2) X.env] := by rfl) :
    PS X (.Assign [.Subscript a (.Constant (.int (k : Nat)) j kp) p2] e pos) (tS c (sG i k f)) := (ps_asg he (pg_sub hv pe_int set_list ha) hs hw h1).imp fun D σ H ⟨F0, H0, F, δ, g, r, g', w, sp, o, q⟩ => by
  obtain ⟨d, g1, o1, o⟩ := ok_bind.mp o
  split at o
  · rename_i n e1
    obtain ⟨u, g2, o2, o⟩ := ok_bind.mp o
    obtain ⟨rfl, rfl⟩ := ok_pure.mp o
    obtain ⟨hk, rfl⟩ := ok_putG o2
    refine ⟨H0, F, δ, g, _, g1, w, o1, fun v F1 H1 s1 r1 => ?_⟩
    cases r1
    have w1 := w.step s1
    obtain ⟨x, e2, rx⟩ := w1.val i _ e1
    cases rx with
    | @gen _ p hp =>
      obtain ⟨q1, q2⟩ := w1.gen.gen p hp
      refine ⟨_, e2, p, g1.map V.int, (k : Nat), k, rfl, rfl, q2, ?_, ?_⟩
      · unfold ixN
        rw [if_pos (by omega), if_pos (by simpa using hk)]
        simp
      · have em : (g1.map V.int).set k (V.int n) = (g1.set k n).map V.int := by rw [List.map_set]
        rw [em]
        exact q σ F1 _ (w1.putG hp) ((sp.trans s1).putG hp) s1.sub
  · exact absurd o not_ok_stuck
/-- e.bit_length() -/
theorem d_bits {apos : Pos} (h : PE X e (tR c f)) (hbase : attributeBase e "bit_length" X.env (eval e X.env) = eval e X.env := by rfl) (hline : (apos.endLine == pos.line) = true := by rfl) : PE X (.Call (.Attribute e "bit_length" apos) [] [] pos) (tP c (eF dBits f)) :=
  (pe_bits h hbase hline).imp fun σ H Q ⟨H0, F, δ, g, d, g', w, o, q⟩ => by
    obtain ⟨x, g1, o1, o⟩ := ok_bind.mp o
    unfold dBits at o
    split at o
    · obtain ⟨rfl, rfl⟩ := ok_pure.mp o
      refine ⟨H0, F, δ, g, _, g1, w, o1, fun v F1 H1 s1 r1 => ?_⟩
      have r1 := r1.rep rfl
      cases r1
      exact ⟨_, rfl, q _ F1 H1 s1 (.int _)⟩
    · exact absurd o not_ok_stuck
theorem op_powW : OpR X (binaryOp .Pow) (rI (fun i j => 0 ≤ j ∧ (Builtin.Int.intBits i : Int) * j ≤ 2 ^ 27) fun i j => .int (i ^ j.toNat)) := opI fun _ _ _ _ _ _ _ hc q => PyProof.Rows.pow_int hc.1 hc.2 q
theorem pow_d : OpR X (binaryOp .Pow) (oD c dPow) := by
  intro pins s σ H x y v u Q I rx ry h
  obtain ⟨F, d, e, d', g, g', le, gen, r1, r2, o, q⟩ := h
  unfold dPow at o
  split at o
  · split at o
    · rename_i hc
      obtain ⟨rfl, rfl⟩ := ok_pure.mp o
      have a1 := r1.rep rfl
      have a2 := r2.rep rfl
      cases a1; cases a2
      exact op_powW pins s σ H _ _ v u Q I rx ry ⟨_, _, rfl, rfl, hc, q _ F H (.refl le gen) (.int _)⟩
    · exact absurd o not_ok_stuck
  · exact absurd o not_ok_stuck
theorem RepAll.eraseIdx {F : Hp} : ∀ {vs : List V} {ds : List D} (i : Nat), RepAll c F vs ds → RepAll c F (vs.eraseIdx i) (ds.eraseIdx i)
  | _, _, _, .nil => .nil
  | _, _, 0, .cons _ t => t
  | _, _, i + 1, .cons r t => .cons r (RepAll.eraseIdx i t)
/-- x.append(y.pop(e)) -/
theorem ds_apop {i j : Nat} {apos apos2 pos2 p2 : Pos} (hv : PE X a (tVar i)) (hv2 : PE X b (tVar j)) (he : PE X e (tP c f)) (hbase2 : attributeBase b "pop" X.env (eval b X.env) = eval b X.env := by rfl)
    (hfew2 : ((backTo pos2 (starEach [e] X.env)).all (fun x => !x.1) && (backToKw pos2 (keywordEach [] X.env)).all (fun x => x.1.isSome) && decide ([e].length + ([] : List Keyword).length + (if ([] : List Keyword).isEmpty then 0 else 1) < 30)) = true := by rfl)
    (hline2 : (apos2.endLine == pos2.line) = true := by rfl) (hs2 : starEach [e] X.env = (false, eval e X.env) :: starEach [] X.env := by rfl)
    (hbase : attributeBase a "append" X.env (eval a X.env) = eval a X.env := by rfl)
    (hfew : ((backTo pos (starEach [.Call (.Attribute b "pop" apos2) [e] [] pos2] X.env)).all (fun x => !x.1) && (backToKw pos (keywordEach [] X.env)).all (fun x => x.1.isSome) && decide ([Expr.Call (.Attribute b "pop" apos2) [e] [] pos2].length + ([] : List Keyword).length + (if ([] : List Keyword).isEmpty then 0 else 1) < 30)) = true := by rfl)
    (hline : (apos.endLine == pos.line) = true := by rfl) (hs : starEach [.Call (.Attribute b "pop" apos2) [e] [] pos2] X.env = (false, eval (.Call (.Attribute b "pop" apos2) [e] [] pos2) X.env) :: starEach [] X.env := by rfl)
    (hsw : swapsWith (.Call (.Attribute a "append" apos) [.Call (.Attribute b "pop" apos2) [e] [] pos2] [] pos) none p2.line X.env = pure false := by rfl) :
    PS X (.Expr (.Call (.Attribute a "append" apos) [.Call (.Attribute b "pop" apos2) [e] [] pos2] [] pos) p2) (tS c (sAppPop i j f)) :=
  (ps_expr (pe_bm PySem.F.plainAttrs_list PySem.F.slot_list_append PySem.F.type_list_append mt_append hv
    (pa_cons (pe_bm PySem.F.plainAttrs_list PySem.F.slot_list_pop PySem.F.type_list_pop mt_popAt hv2 (pa_cons he pa_nil hs2) hbase2 hfew2 hline2 hs2 rfl) pa_nil hs) hbase hfew hline hs rfl) hsw).imp fun D σ H ⟨F0, H0, F, δ, g, r, g', w, sp, o, q⟩ => by
    obtain ⟨d, g1, o1, o⟩ := ok_bind.mp o
    split at o
    · rename_i k xs ys hx hy
      split at o
      · rename_i m hm
        split at o
        · rename_i y hym
          split at o
          · rename_i hc
            obtain ⟨hl, hk1, hk2, hij⟩ := hc
            obtain ⟨rfl, rfl⟩ := ok_pure.mp o
            obtain ⟨p, vs, e1, e2, e3, e4, e5, ra⟩ := w.own i xs hx
            obtain ⟨p', vs', b1, b2, b3, b4, b5, rb⟩ := w.own j ys hy
            have hpp : p ≠ p' := fun z => by
              have q := w.apart i j xs ys hij hx hy
              rw [e1, b1, z] at q
              exact q rfl
            refine ⟨.ref p, e1, .inl ⟨rfl, vs, SqL.of e2⟩, .ref p', b1, .inl ⟨rfl, vs', SqL.of b2⟩, H0, F, δ, g, _, g1, w, o1, fun v F1 H1 s1 r1 => ?_⟩
            cases r1
            have w1 := w.step s1
            obtain ⟨_, _, a1, a2, a3, _, _, ra1⟩ := w1.own i xs hx
            obtain ⟨_, _, c1, c2, c3, _, _, rb1⟩ := w1.own j ys hy
            rw [e1] at a1; cases a1
            rw [b1] at c1; cases c1
            obtain ⟨z, hz, rz⟩ := rb1.get hym
            have hp : seqIndex? k ys.length = some m := (ixN_seq (show ixN ys.length k = some m from hm)).1
            refine ⟨p', _, k, m, z, rfl, rfl, c2, hk1, hk2, ?_, hz, ?_⟩
            · rw [rb1.length]; exact hp
            have w2 := w1.turn hy b1 (rb1.eraseIdx m)
            have hx2 : (δ.set j (Sl.own (ys.eraseIdx m)))[i]? = some (Sl.own xs) := by rw [List.getElem?_set_ne (Ne.symm hij)]; exact hx
            obtain ⟨_, us, a4, a5, a6, _, _, ra2⟩ := w2.own i xs hx2
            rw [e1] at a4; cases a4
            refine ⟨p, us, z, rfl, rfl, a5, ?_, ?_⟩
            · rw [ra2.length]
              have := lim_le hl
              omega
            · exact q σ F1 _ (w2.turn hx2 e1 (ra2.append (.cons rz .nil))) (((sp.trans s1).turn c3 b4 b5 w.bo0).turn a3 e4 e5 w.bo0) s1.sub
          · exact absurd o not_ok_stuck
        · exact absurd o not_ok_stuck
      · exact absurd o not_ok_stuck
    · exact absurd o not_ok_stuck
end
end DL

/-! ## DZipA -/
set_option Elab.async false
set_option autoImplicit false
set_option linter.all false
set_option maxRecDepth 100000
set_option maxHeartbeats 4000000
/-! DZipA: zip of two lists that must be of one length. -/
namespace DZ
open PySem PySem.Spec PyProof.Rows
open Sem (wp)
abbrev IsZipS (h : Heap) (z TI TO : Addr) (f0 : Value) : Prop :=
  h.get? z = some { cls := .type "zip", dict := none, data := .fields #[f0, .bool false, .bool true, .ref TI, .ref TO], slots := #[] }
section
variable {prog : Program} {w : World} {A : Around} {E : Value → Shared → Prop} {s : Shared}
theorem nextOrEnd_item {it l : Addr} {i : Nat} {items : Array Value} {x : Value} {Q : Option Value → Shared → Prop} (hit : s.heap.IsListIter it l i) (hl : s.heap.IsList l items) (hx : items[i]? = some x)
    (hQ : ∀ h', h'.IsListIter it l (i + 1) → Heap.SameBut it s.heap h' → Q (some x) { s with heap := h' }) : wpAny (model prog w) A (Builtin.SmallTypes.nextOrEnd (.ref it)) Q E s := by
  unfold Builtin.SmallTypes.nextOrEnd
  exact wpAny_bind (wpAny_attempt (wpAny_nextOf_list_item hit hl hx fun h' h1 h2 => wpAny_pure (hQ h' h1 h2)))
theorem nextOrEnd_end {it l : Addr} {i : Nat} {items : Array Value} {Q : Option Value → Shared → Prop} (hh : A.handled = none) (hit : s.heap.IsListIter it l i) (hl : s.heap.IsList l items) (hx : items[i]? = none)
    (hQ : ∀ h', Heap.ExtBut it s.heap h' → Q none { s with heap := h' }) : wpAny (model prog w) A (Builtin.SmallTypes.nextOrEnd (.ref it)) Q E s := by
  unfold Builtin.SmallTypes.nextOrEnd
  refine wpAny_bind (wpAny_attempt (wpAny_nextOf_list_end hh hit hl hx fun h' e hs he => ?_))
  obtain ⟨o, ho, hc⟩ := he
  refine wpAny_bind (wpAny_isInstance (T := "StopIteration") (b := true) ⟨o, ho, hc⟩ isSubtype_stop ?_)
  exact wpAny_pure (hQ _ hs)
theorem zipS_next_item {z TI TO i1 i2 l1 l2 : Addr} {k1 k2 : Nat} {xs ys : Array Value} {x y a b : Value} {Q : Value → Shared → Prop} (D : ZipApart z TI TO i1 i2 l1 l2)
    (hz : IsZipS s.heap z TI TO .none) (hTI : IsPair s.heap TI (.ref i1) (.ref i2)) (hTO : IsPair s.heap TO a b)
    (h1 : s.heap.IsListIter i1 l1 k1) (h2 : s.heap.IsListIter i2 l2 k2) (hl1 : s.heap.IsList l1 xs) (hl2 : s.heap.IsList l2 ys) (hx : xs[k1]? = some x) (hy : ys[k2]? = some y)
    (hQ : ∀ h', IsZipS h' z TI TO (rawInt s.heap.objs.size) → IsPair h' TO x y → h'.IsListIter i1 l1 (k1 + 1) → h'.IsListIter i2 l2 (k2 + 1) → IsPair h' s.heap.objs.size x y → h'.objs.size = s.heap.objs.size + 1 →
      (∀ c o, c ≠ z → c ≠ TO → c ≠ i1 → c ≠ i2 → s.heap.get? c = some o → h'.get? c = some o) → Q (.ref s.heap.objs.size) { s with heap := h' }) :
    wpAny (model prog w) A (Builtin.«zip.__next__» ⟨[.ref z], []⟩) (fun fin s' => ∃ v, fin = .done (.ret v) ∧ Q v s') E s := by
  show wpAny _ _ (field (.ref z) 2 >>= _) _ _ _
  refine wpAny_bind (wpAny_field hz rfl (x := .bool true) rfl ?_)
  show wpAny _ _ (field (.ref z) 3 >>= _) _ _ _
  refine wpAny_bind (wpAny_field hz rfl (x := .ref TI) rfl ?_)
  refine wpAny_bind (wpAny_seqItems hTI rfl ?_)
  show wpAny _ _ (Builtin.SmallTypes.ownedTupleIsFree (.ref z) >>= _) _ _ _
  refine wpAny_bind ?_
  unfold Builtin.SmallTypes.ownedTupleIsFree
  refine wpAny_bind (wpAny_field hz rfl (x := .none) rfl (wpAny_pure ?_))
  simp only [if_true]
  refine wpAny_bind (wpAny_rule ?_)
  refine wpAny_bind (wpAny_field hz rfl (x := .ref TO) rfl ?_)
  refine wpAny_bind (wpAny_setField_rec hz (by simp) fun h₁ hz₁ hs₁ => ?_)
  replace hz₁ : IsZipS h₁ z TI TO .ellipsis := hz₁
  refine wpAny_bind ?_
  simp only [List.zipIdx_cons, List.zipIdx_nil, List.forIn_cons, List.forIn_nil]
  refine wpAny_bind (wpAny_bind (wpAny_onRaise ?_))
  show wpAny _ _ (Builtin.SmallTypes.nextOrEnd (.ref i1)) _ _ _
  refine nextOrEnd_item (h1.extBut hs₁.extBut D.i1z) (hl1.extBut hs₁.extBut D.l1z) hx fun h₂ h1₂ hs₂ => ?_
  have hTO₂ : IsPair h₂ TO a b := hs₂.extBut _ _ D.TOi1 (hs₁.extBut _ _ D.TOz hTO)
  refine wpAny_bind (wpAny_seqItems hTO₂ rfl ?_)
  refine wpAny_bind (wpAny_updateSeq_pair hTO₂ fun h₃ hTO₃ hs₃ => ?_)
  replace hTO₃ : IsPair h₃ TO x b := hTO₃
  refine wpAny_bind (wpAny_letGo (wpAny_pure ?_))
  refine wpAny_bind (wpAny_bind (wpAny_onRaise ?_))
  show wpAny _ _ (Builtin.SmallTypes.nextOrEnd (.ref i2)) _ _ _
  refine nextOrEnd_item (((h2.extBut hs₁.extBut D.i2z).extBut hs₂.extBut D.i12.symm).extBut hs₃.extBut D.TOi2.symm)
    (((hl2.extBut hs₁.extBut D.l2z).extBut hs₂.extBut D.l2i1).extBut hs₃.extBut D.l2TO) hy fun h₄ h2₄ hs₄ => ?_
  have hTO₄ : IsPair h₄ TO x b := hs₄.extBut _ _ D.TOi2 hTO₃
  refine wpAny_bind (wpAny_seqItems hTO₄ rfl ?_)
  refine wpAny_bind (wpAny_updateSeq_pair hTO₄ fun h₅ hTO₅ hs₅ => ?_)
  replace hTO₅ : IsPair h₅ TO x y := hTO₅
  refine wpAny_bind (wpAny_letGo (wpAny_pure (wpAny_pure ?_)))
  refine wpAny_bind (wpAny_seqItems hTO₅ rfl ?_)
  refine wpAny_bind (wpAny_newTuple ?_)
  have hsz : h₅.objs.size = s.heap.objs.size := by rw [hs₅.1, hs₄.1, hs₃.1, hs₂.1, hs₁.1]
  have hz₅ : IsZipS h₅ z TI TO .ellipsis := hs₅.extBut _ _ D.TOz.symm (hs₄.extBut _ _ D.i2z.symm (hs₃.extBut _ _ D.TOz.symm (hs₂.extBut _ _ D.i1z.symm hz₁)))
  have hk₅ : ∀ c o, c ≠ z → c ≠ TO → c ≠ i1 → c ≠ i2 → s.heap.get? c = some o → h₅.get? c = some o := fun c o c1 c2 c3 c4 e =>
    hs₅.extBut _ _ c2 (hs₄.extBut _ _ c4 (hs₃.extBut _ _ c2 (hs₂.extBut _ _ c3 (hs₁.extBut _ _ c1 e))))
  have h1₅ : h₅.IsListIter i1 l1 (k1 + 1) := ((h1₂.extBut hs₃.extBut D.TOi1.symm).extBut hs₄.extBut D.i12).extBut hs₅.extBut D.TOi1.symm
  have h2₅ : h₅.IsListIter i2 l2 (k2 + 1) := h2₄.extBut hs₅.extBut D.TOi2.symm
  have hzlt : z < h₅.objs.size := Heap.lt_size hz₅
  have hTOlt : TO < h₅.objs.size := Heap.lt_size hTO₅
  have hi1lt : i1 < h₅.objs.size := by obtain ⟨_, e, _⟩ := h1₅; exact Heap.lt_size e
  have hi2lt : i2 < h₅.objs.size := by obtain ⟨_, e, _⟩ := h2₅; exact Heap.lt_size e
  show wpAny _ _ (Builtin.SmallTypes.ownedTupleHandOut (.ref z) (.ref h₅.objs.size) >>= _) _ _ _
  refine wpAny_bind ?_
  unfold Builtin.SmallTypes.ownedTupleHandOut
  have hz₆ : IsZipS (h₅.push { cls := .type "tuple", data := .seq #[x, y] }) z TI TO .ellipsis := Heap.get?_push_of_some _ hz₅
  refine wpAny_bind (wpAny_setField_rec hz₆ (by simp) fun h₇ hz₇ hs₇ => ?_)
  replace hz₇ : IsZipS h₇ z TI TO (rawInt h₅.objs.size) := hz₇
  refine wpAny_setField_rec hz₇ (by simp) fun h₈ hz₈ hs₈ => ?_
  replace hz₈ : IsZipS h₈ z TI TO (rawInt h₅.objs.size) := hz₈
  have up : ∀ c o, c ≠ z → h₅.get? c = some o → h₈.get? c = some o := fun c o c1 e => hs₈.extBut _ _ c1 (hs₇.extBut _ _ c1 (Heap.get?_push_of_some _ e))
  have hT₈ : IsPair h₈ h₅.objs.size x y := hs₈.extBut _ _ (Nat.ne_of_gt hzlt) (hs₇.extBut _ _ (Nat.ne_of_gt hzlt) (Heap.get?_push_size _ rfl))
  have hz8 : h₈.objs.size = h₅.objs.size + 1 := by rw [hs₈.1, hs₇.1, Heap.size_push]
  rw [hsz] at hz₈ hT₈ hz8
  refine wpAny_pure ⟨_, rfl, ?_⟩
  show Q (.ref h₅.objs.size) _
  rw [hsz]
  exact hQ h₈ hz₈ (up _ _ D.TOz hTO₅) (h1₅.at fun o e => up _ o D.i1z e) (h2₅.at fun o e => up _ o D.i2z e) hT₈ hz8 fun c o c1 c2 c3 c4 e => up c o c1 (hk₅ c o c1 c2 c3 c4 e)

theorem zipS_next_end {z TI TO i1 i2 l1 l2 : Addr} {k1 k2 : Nat} {xs ys : Array Value} {a b : Value} {Q : Fin → Shared → Prop} (hh : A.handled = none) (D : ZipApart z TI TO i1 i2 l1 l2)
    (hz : IsZipS s.heap z TI TO .none) (hTI : IsPair s.heap TI (.ref i1) (.ref i2)) (hTO : IsPair s.heap TO a b)
    (h1 : s.heap.IsListIter i1 l1 k1) (h2 : s.heap.IsListIter i2 l2 k2) (hl1 : s.heap.IsList l1 xs) (hl2 : s.heap.IsList l2 ys) (hx : xs[k1]? = none) (hy : ys[k2]? = none)
    (hE : ∀ h' e, (∀ c o, c ≠ z → c ≠ TO → c ≠ i1 → c ≠ i2 → s.heap.get? c = some o → h'.get? c = some o) → (∃ o, h'.get? e = some o ∧ o.cls = .type "StopIteration") → E (.ref e) { s with heap := h' }) :
    wpAny (model prog w) A (Builtin.«zip.__next__» ⟨[.ref z], []⟩) Q E s := by
  show wpAny _ _ (field (.ref z) 2 >>= _) _ _ _
  refine wpAny_bind (wpAny_field hz rfl (x := .bool true) rfl ?_)
  show wpAny _ _ (field (.ref z) 3 >>= _) _ _ _
  refine wpAny_bind (wpAny_field hz rfl (x := .ref TI) rfl ?_)
  refine wpAny_bind (wpAny_seqItems hTI rfl ?_)
  show wpAny _ _ (Builtin.SmallTypes.ownedTupleIsFree (.ref z) >>= _) _ _ _
  refine wpAny_bind ?_
  unfold Builtin.SmallTypes.ownedTupleIsFree
  refine wpAny_bind (wpAny_field hz rfl (x := .none) rfl (wpAny_pure ?_))
  simp only [if_true]
  refine wpAny_bind (wpAny_rule ?_)
  refine wpAny_bind (wpAny_field hz rfl (x := .ref TO) rfl ?_)
  refine wpAny_bind (wpAny_setField_rec hz (by simp) fun h₁ hz₁ hs₁ => ?_)
  replace hz₁ : IsZipS h₁ z TI TO .ellipsis := hz₁
  refine wpAny_bind ?_
  simp only [List.zipIdx_cons, List.zipIdx_nil, List.forIn_cons, List.forIn_nil]
  refine wpAny_bind (wpAny_bind (wpAny_onRaise ?_))
  show wpAny _ _ (Builtin.SmallTypes.nextOrEnd (.ref i1)) _ _ _
  refine nextOrEnd_end hh (h1.extBut hs₁.extBut D.i1z) (hl1.extBut hs₁.extBut D.l1z) hx fun h₂ hs₂ => ?_
  have hz₂ : IsZipS h₂ z TI TO .ellipsis := hs₂ _ _ D.i1z.symm hz₁
  refine wpAny_bind (wpAny_setField_rec hz₂ (by simp) fun h₃ hz₃ hs₃ => ?_)
  have h2₃ : h₃.IsListIter i2 l2 k2 := ((h2.extBut hs₁.extBut D.i2z).extBut hs₂ D.i12.symm).extBut hs₃.extBut D.i2z
  have hl2₃ : h₃.IsList l2 ys := ((hl2.extBut hs₁.extBut D.l2z).extBut hs₂ D.l2i1).extBut hs₃.extBut D.l2z
  refine wpAny_bind ?_
  show wpAny _ _ (forIn (m := Sem) [(Value.ref i2, 1)] _ _ >>= _) _ _ _
  refine wpAny_bind ?_
  simp only [List.forIn_cons, List.forIn_nil]
  refine wpAny_bind ?_
  refine wpAny_bind (nextOrEnd_end hh h2₃ hl2₃ hy fun h₄ hs₄ => ?_)
  rw [if_neg (by simp)]
  refine wpAny_pure (wpAny_pure (wpAny_bind (wpAny_rule ?_)))
  show wpAny _ _ (newExc (.type "StopIteration") [] >>= _) _ _ _
  refine wpAny_bind ?_
  simp only [newExc, newTuple]
  refine wpAny_bind (wpAny_newObj_type ?_ (by size_fits))
  refine wpAny_bind (m := firstArgMember _ _) (wpAny_of_eq (a := Value.none) (by first | rfl | (simp only [firstArgMember]; rfl)) ?_)
  refine wpAny_newObj_type ?_ (by size_fits)
  simp only [raiseNew]
  refine wpAny_bind (wpAny_handled ?_)
  first | rw [show A.in1.handled = none from hh] | rw [hh]
  refine wpAny_bind (wpAny_pure (wpAny_throw ?_))
  exact hE _ _ (fun c o c1 c2 c3 c4 e => Heap.get?_push_of_some _ (Heap.get?_push_of_some _ (hs₄ _ _ c4 (hs₃.extBut _ _ c1 (hs₂ _ _ c3 (hs₁.extBut _ _ c1 e)))))) ⟨_, Heap.get?_push_size _ rfl, rfl⟩
theorem wpAny_pyNext_zipS_item {z TI TO i1 i2 l1 l2 : Addr} {k1 k2 : Nat} {xs ys : Array Value} {x y a b : Value} {Q : Option Value → Shared → Prop} (D : ZipApart z TI TO i1 i2 l1 l2)
    (hz : IsZipS s.heap z TI TO .none) (hTI : IsPair s.heap TI (.ref i1) (.ref i2)) (hTO : IsPair s.heap TO a b)
    (h1 : s.heap.IsListIter i1 l1 k1) (h2 : s.heap.IsListIter i2 l2 k2) (hl1 : s.heap.IsList l1 xs) (hl2 : s.heap.IsList l2 ys) (hx : xs[k1]? = some x) (hy : ys[k2]? = some y)
    (hQ : ∀ h', IsZipS h' z TI TO (rawInt s.heap.objs.size) → IsPair h' TO x y → h'.IsListIter i1 l1 (k1 + 1) → h'.IsListIter i2 l2 (k2 + 1) → IsPair h' s.heap.objs.size x y → h'.objs.size = s.heap.objs.size + 1 →
      (∀ c o, c ≠ z → c ≠ TO → c ≠ i1 → c ≠ i2 → s.heap.get? c = some o → h'.get? c = some o) → Q (some (.ref s.heap.objs.size)) { s with heap := h' }) :
    wpAny (model prog w) A (pyNext (.ref z)) Q E s := by
  have hT : s.TypeIs (.ref z) "zip" := ⟨_, hz, rfl⟩
  unfold pyNext
  exact wpAny_bind (wpAny_attempt (wpAny_callSpecial?_slot (name := Str.ofString "__next__") hT F.slot_zip_next
    (wpAny_call_entry F.slot_zip_next hT F.entry_zip_next
      (zipS_next_item D hz hTI hTO h1 h2 hl1 hl2 hx hy fun h' a1 a2 a3 a4 a5 a6 a7 => wpAny_pure (hQ h' a1 a2 a3 a4 a5 a6 a7)) (F.args_zip_next_1 _))))
theorem wpAny_pyNext_zipS_end {z TI TO i1 i2 l1 l2 : Addr} {k1 k2 : Nat} {xs ys : Array Value} {a b : Value} {Q : Option Value → Shared → Prop} (hh : A.handled = none) (D : ZipApart z TI TO i1 i2 l1 l2)
    (hz : IsZipS s.heap z TI TO .none) (hTI : IsPair s.heap TI (.ref i1) (.ref i2)) (hTO : IsPair s.heap TO a b)
    (h1 : s.heap.IsListIter i1 l1 k1) (h2 : s.heap.IsListIter i2 l2 k2) (hl1 : s.heap.IsList l1 xs) (hl2 : s.heap.IsList l2 ys) (hx : xs[k1]? = none) (hy : ys[k2]? = none)
    (hQ : ∀ h', (∀ c o, c ≠ z → c ≠ TO → c ≠ i1 → c ≠ i2 → s.heap.get? c = some o → h'.get? c = some o) → Q none { s with heap := h' }) : wpAny (model prog w) A (pyNext (.ref z)) Q E s := by
  have hT : s.TypeIs (.ref z) "zip" := ⟨_, hz, rfl⟩
  unfold pyNext
  refine wpAny_bind (wpAny_attempt (wpAny_callSpecial?_slot (name := Str.ofString "__next__") hT F.slot_zip_next
    (wpAny_call_entry F.slot_zip_next hT F.entry_zip_next (zipS_next_end hh D hz hTI hTO h1 h2 hl1 hl2 hx hy fun h' e hk he => ?_) (F.args_zip_next_1 _))))
  obtain ⟨o, ho, hc⟩ := he
  refine wpAny_bind (wpAny_isInstance (T := "StopIteration") (b := true) ⟨o, ho, hc⟩ isSubtype_stop ?_)
  exact wpAny_pure (hQ _ hk)
theorem wpAny_letOwnedTupleGo_zipS {elts : List Expr} {x1 : Nat} {pos : Pos} {z TI TO T : Addr} {Q : Unit → Shared → Prop} (hz : IsZipS s.heap z TI TO (rawInt T))
    (hQ : ∀ h', IsZipS h' z TI TO .none → Heap.SameBut z s.heap h' → Q () { s with heap := h' }) :
    wpAny (model prog w) A (letOwnedTupleGo (.Tuple elts x1 pos) (.ref z) (.ref T)) Q E s := by
  unfold letOwnedTupleGo
  refine wpAny_bind (wpAny_load hz ?_)
  show wpAny _ _ (if (["enumerate", "zip", "dict_itemiterator", "dict_reverseitemiterator", "odict_iterator", "itertools.zip_longest", "itertools.pairwise"].contains "zip" &&
      (#[rawInt T, .bool false, .bool true, .ref TI, .ref TO] : Array Value)[0]? == some (rawInt T)) = true then _ else _) Q E s
  rw [if_pos (by simp)]
  refine wpAny_bind (wpAny_rule ?_)
  show wpAny _ _ (setField (.ref z) 0 .none) Q E s
  exact wpAny_setField_rec hz (by simp) fun h' hz' hs' => hQ h' hz' hs'
theorem wpAny_pyIter_zipS {z TI TO : Addr} {f0 : Value} {Q : Value → Shared → Prop} (hz : IsZipS s.heap z TI TO f0) (h : Q (.ref z) s) : wpAny (model prog w) A (pyIter (.ref z)) Q E s := by
  have hT : s.TypeIs (.ref z) "zip" := ⟨_, hz, rfl⟩
  refine wpAny_pyIter_slot hT F.slot_zip_iter (wpAny_call_entry F.slot_zip_iter hT F.entry_zip_iter ?_ (F.args_zip_iter_1 _))
  show wpAny _ _ (ret (.ref z)) _ _ s
  exact wpAny_pure ⟨_, rfl, "zip", _, hT, F.slot_zip_next.lookup, h⟩
end
/-! ### its making -/
theorem typeCall_zipS (a b v : Value) : checkTypeCall "zip" ⟨[a, b], [(Str.ofString "strict", v)]⟩ = pure () := by kernel_rfl
theorem newCall_zipS (a b v : Value) : checkBuiltinCall "zip.__new__" ⟨[.type "zip", a, b], [(Str.ofString "strict", v)]⟩ = pure () := by kernel_rfl
theorem args_initS (o a b v : Value) : argsOk "object.__init__" ⟨[o, a, b], [(Str.ofString "strict", v)]⟩ := by unfold argsOk; kernel_rfl
abbrev zipHS (h : Heap) (l1 l2 : Addr) : Heap := (zipH4 h l1 l2).push { cls := .type "zip", data := .fields #[.none, .bool false, .bool true, .ref (zipH2 h l1 l2).objs.size, .ref (zipH3 h l1 l2).objs.size] }
theorem meets_zip_newS (l1 l2 : Addr) (xs ys : Array Value) :
    Meets (Builtin.«zip.__new__» ⟨[.type "zip", .ref l1, .ref l2], [(Str.ofString "strict", .bool true)]⟩) (fun _ R s => s.heap.IsList l1 xs ∧ s.heap.IsList l2 ys ∧
      R (.ok (.ret (.ref (zipH4 s.heap l1 l2).objs.size))) { s with heap := zipHS s.heap l1 l2 }) :=
  .of_wp fun prog w A R s h => by
    obtain ⟨hp, g, d, tk, os⟩ := s; obtain ⟨hl1, hl2, h⟩ := h
    have hsub := sub_zip
    have hL1 : Heap.IsList (Shared.heap ⟨hp, g, d, tk, os⟩) l1 xs := hl1
    have hL2 : Heap.IsList (Shared.heap ⟨hp.push { cls := .type "list_iterator", data := .fields #[.ref l1, .int 0 0] }, g, d, tk, os⟩) l2 ys := Heap.IsList.push hl2 _
    have e2 : (Str.ofString "strict" != ("strict" : Str)) = false := by decide +kernel
    wp_walk using wpAny_pyIter_list hL1, wpAny_pyIter_list hL2
    exact ⟨_, rfl, h⟩
end DZ

/-! ## DZipB -/
set_option Elab.async false
set_option autoImplicit false
set_option linter.all false
set_option maxRecDepth 100000
set_option maxHeartbeats 4000000
/-! DZipB: zip of three lists. -/
namespace DZ
open PySem PySem.Spec PyProof.Rows
open Sem (wp)
abbrev IsTri (h : Heap) (T : Addr) (a b c : Value) : Prop := h.get? T = some { cls := .type "tuple", data := .seq #[a, b, c] }
structure Ap3 (z TI TO i1 i2 i3 l1 l2 l3 : Addr) : Prop where
  TIz : TI ≠ z
  TOz : TO ≠ z
  i1z : i1 ≠ z
  i2z : i2 ≠ z
  i3z : i3 ≠ z
  TITO : TI ≠ TO
  TIi1 : TI ≠ i1
  TIi2 : TI ≠ i2
  TIi3 : TI ≠ i3
  TOi1 : TO ≠ i1
  TOi2 : TO ≠ i2
  TOi3 : TO ≠ i3
  i12 : i1 ≠ i2
  i13 : i1 ≠ i3
  i23 : i2 ≠ i3
  l1z : l1 ≠ z
  l1TO : l1 ≠ TO
  l1i1 : l1 ≠ i1
  l1i2 : l1 ≠ i2
  l1i3 : l1 ≠ i3
  l2z : l2 ≠ z
  l2TO : l2 ≠ TO
  l2i1 : l2 ≠ i1
  l2i2 : l2 ≠ i2
  l2i3 : l2 ≠ i3
  l3z : l3 ≠ z
  l3TO : l3 ≠ TO
  l3i1 : l3 ≠ i1
  l3i2 : l3 ≠ i2
  l3i3 : l3 ≠ i3
section
variable {prog : Program} {w : World} {A : Around} {E : Value → Shared → Prop} {s : Shared}
theorem updateSeq_tri {T : Addr} {a b c x : Value} {k : Nat} {Q : Unit → Shared → Prop} (hT : IsTri s.heap T a b c)
    (h : ∀ h', h'.get? T = some { cls := .type "tuple", data := .seq ((#[a, b, c] : Array Value).setIfInBounds k x) } → Heap.SameBut T s.heap h' → Q () { s with heap := h' }) :
    wpAny (model prog w) A (updateSeq T (·.setIfInBounds k x)) Q E s := by
  refine wpAny_updateSeq hT rfl (h _ ?_ (Heap.SameBut.update ..))
  rw [Heap.get?_update_self _ hT rfl]
  simp [Obj.mapSeq]
theorem zip3_next_item {z TI TO i1 i2 i3 l1 l2 l3 : Addr} {k : Nat} {xs ys vs : Array Value} {x y v a b d : Value} {Q : Value → Shared → Prop} (D : Ap3 z TI TO i1 i2 i3 l1 l2 l3)
    (hz : IsZip s.heap z TI TO .none) (hTI : IsTri s.heap TI (.ref i1) (.ref i2) (.ref i3)) (hTO : IsTri s.heap TO a b d)
    (h1 : s.heap.IsListIter i1 l1 k) (h2 : s.heap.IsListIter i2 l2 k) (h3 : s.heap.IsListIter i3 l3 k) (hl1 : s.heap.IsList l1 xs) (hl2 : s.heap.IsList l2 ys) (hl3 : s.heap.IsList l3 vs) (hx : xs[k]? = some x) (hy : ys[k]? = some y) (hv : vs[k]? = some v)
    (hQ : ∀ h', IsZip h' z TI TO (rawInt s.heap.objs.size) → IsTri h' TO x y v → h'.IsListIter i1 l1 (k + 1) → h'.IsListIter i2 l2 (k + 1) → h'.IsListIter i3 l3 (k + 1) → IsTri h' s.heap.objs.size x y v → h'.objs.size = s.heap.objs.size + 1 →
      (∀ c o, c ≠ z → c ≠ TO → c ≠ i1 → c ≠ i2 → c ≠ i3 → s.heap.get? c = some o → h'.get? c = some o) → Q (.ref s.heap.objs.size) { s with heap := h' }) :
    wpAny (model prog w) A (Builtin.«zip.__next__» ⟨[.ref z], []⟩) (fun fin s' => ∃ v, fin = .done (.ret v) ∧ Q v s') E s := by
  show wpAny _ _ (field (.ref z) 2 >>= _) _ _ _
  refine wpAny_bind (wpAny_field hz rfl (x := .bool false) rfl ?_)
  show wpAny _ _ (field (.ref z) 3 >>= _) _ _ _
  refine wpAny_bind (wpAny_field hz rfl (x := .ref TI) rfl ?_)
  refine wpAny_bind (wpAny_seqItems hTI rfl ?_)
  show wpAny _ _ (Builtin.SmallTypes.ownedTupleIsFree (.ref z) >>= _) _ _ _
  refine wpAny_bind ?_
  unfold Builtin.SmallTypes.ownedTupleIsFree
  refine wpAny_bind (wpAny_field hz rfl (x := .none) rfl (wpAny_pure ?_))
  simp only [if_true]
  refine wpAny_bind (wpAny_rule ?_)
  refine wpAny_bind (wpAny_field hz rfl (x := .ref TO) rfl ?_)
  refine wpAny_bind (wpAny_setField_rec hz (by simp) fun h₁ hz₁ hs₁ => ?_)
  replace hz₁ : IsZip h₁ z TI TO .ellipsis := hz₁
  refine wpAny_bind ?_
  simp only [List.zipIdx_cons, List.zipIdx_nil, List.forIn_cons, List.forIn_nil]
  refine wpAny_bind (wpAny_bind (wpAny_onRaise ?_))
  show wpAny _ _ (Builtin.SmallTypes.nextOf (.ref i1) >>= _) _ _ _
  refine wpAny_bind (wpAny_nextOf_list_item (h1.extBut hs₁.extBut D.i1z) (hl1.extBut hs₁.extBut D.l1z) hx fun h₂ h1₂ hs₂ => wpAny_pure ?_)
  have hTO₂ : IsTri h₂ TO a b d := hs₂.extBut _ _ D.TOi1 (hs₁.extBut _ _ D.TOz hTO)
  refine wpAny_bind (wpAny_seqItems hTO₂ rfl ?_)
  refine wpAny_bind (updateSeq_tri hTO₂ fun h₃ hTO₃ hs₃ => ?_)
  replace hTO₃ : IsTri h₃ TO x b d := hTO₃
  refine wpAny_bind (wpAny_letGo (wpAny_pure ?_))
  refine wpAny_bind (wpAny_bind (wpAny_onRaise ?_))
  show wpAny _ _ (Builtin.SmallTypes.nextOf (.ref i2) >>= _) _ _ _
  refine wpAny_bind (wpAny_nextOf_list_item (((h2.extBut hs₁.extBut D.i2z).extBut hs₂.extBut D.i12.symm).extBut hs₃.extBut D.TOi2.symm)
    (((hl2.extBut hs₁.extBut D.l2z).extBut hs₂.extBut D.l2i1).extBut hs₃.extBut D.l2TO) hy fun h₄ h2₄ hs₄ => wpAny_pure ?_)
  have hTO₄ : IsTri h₄ TO x b d := hs₄.extBut _ _ D.TOi2 hTO₃
  refine wpAny_bind (wpAny_seqItems hTO₄ rfl ?_)
  refine wpAny_bind (updateSeq_tri hTO₄ fun h₅ hTO₅ hs₅ => ?_)
  replace hTO₅ : IsTri h₅ TO x y d := hTO₅
  refine wpAny_bind (wpAny_letGo (wpAny_pure ?_))
  refine wpAny_bind (wpAny_bind (wpAny_onRaise ?_))
  show wpAny _ _ (Builtin.SmallTypes.nextOf (.ref i3) >>= _) _ _ _
  refine wpAny_bind (wpAny_nextOf_list_item (((((h3.extBut hs₁.extBut D.i3z).extBut hs₂.extBut D.i13.symm).extBut hs₃.extBut D.TOi3.symm).extBut hs₄.extBut D.i23.symm).extBut hs₅.extBut D.TOi3.symm)
    (((((hl3.extBut hs₁.extBut D.l3z).extBut hs₂.extBut D.l3i1).extBut hs₃.extBut D.l3TO).extBut hs₄.extBut D.l3i2).extBut hs₅.extBut D.l3TO) hv fun h₆ h3₆ hs₆ => wpAny_pure ?_)
  have hTO₆ : IsTri h₆ TO x y d := hs₆.extBut _ _ D.TOi3 hTO₅
  refine wpAny_bind (wpAny_seqItems hTO₆ rfl ?_)
  refine wpAny_bind (updateSeq_tri hTO₆ fun h₇ hTO₇ hs₇ => ?_)
  replace hTO₇ : IsTri h₇ TO x y v := hTO₇
  refine wpAny_bind (wpAny_letGo (wpAny_pure (wpAny_pure ?_)))
  refine wpAny_bind (wpAny_seqItems hTO₇ rfl ?_)
  refine wpAny_bind (wpAny_newTuple ?_)
  have hsz : h₇.objs.size = s.heap.objs.size := by rw [hs₇.1, hs₆.1, hs₅.1, hs₄.1, hs₃.1, hs₂.1, hs₁.1]
  have hk₇ : ∀ c o, c ≠ z → c ≠ TO → c ≠ i1 → c ≠ i2 → c ≠ i3 → s.heap.get? c = some o → h₇.get? c = some o := fun c o c1 c2 c3 c4 c5 e =>
    hs₇.extBut _ _ c2 (hs₆.extBut _ _ c5 (hs₅.extBut _ _ c2 (hs₄.extBut _ _ c4 (hs₃.extBut _ _ c2 (hs₂.extBut _ _ c3 (hs₁.extBut _ _ c1 e))))))
  have hz₇ : IsZip h₇ z TI TO .ellipsis := hs₇.extBut _ _ D.TOz.symm (hs₆.extBut _ _ D.i3z.symm (hs₅.extBut _ _ D.TOz.symm (hs₄.extBut _ _ D.i2z.symm (hs₃.extBut _ _ D.TOz.symm (hs₂.extBut _ _ D.i1z.symm hz₁)))))
  have h1₇ : h₇.IsListIter i1 l1 (k + 1) := ((((h1₂.extBut hs₃.extBut D.TOi1.symm).extBut hs₄.extBut D.i12).extBut hs₅.extBut D.TOi1.symm).extBut hs₆.extBut D.i13).extBut hs₇.extBut D.TOi1.symm
  have h2₇ : h₇.IsListIter i2 l2 (k + 1) := ((h2₄.extBut hs₅.extBut D.TOi2.symm).extBut hs₆.extBut D.i23).extBut hs₇.extBut D.TOi2.symm
  have h3₇ : h₇.IsListIter i3 l3 (k + 1) := h3₆.extBut hs₇.extBut D.TOi3.symm
  have hzlt : z < h₇.objs.size := Heap.lt_size hz₇
  show wpAny _ _ (Builtin.SmallTypes.ownedTupleHandOut (.ref z) (.ref h₇.objs.size) >>= _) _ _ _
  refine wpAny_bind ?_
  unfold Builtin.SmallTypes.ownedTupleHandOut
  have hz₈ : IsZip (h₇.push { cls := .type "tuple", data := .seq #[x, y, v] }) z TI TO .ellipsis := Heap.get?_push_of_some _ hz₇
  refine wpAny_bind (wpAny_setField_rec hz₈ (by simp) fun h₉ hz₉ hs₉ => ?_)
  replace hz₉ : IsZip h₉ z TI TO (rawInt h₇.objs.size) := hz₉
  refine wpAny_setField_rec hz₉ (by simp) fun hA hzA hsA => ?_
  replace hzA : IsZip hA z TI TO (rawInt h₇.objs.size) := hzA
  have up : ∀ c o, c ≠ z → h₇.get? c = some o → hA.get? c = some o := fun c o c1 e => hsA.extBut _ _ c1 (hs₉.extBut _ _ c1 (Heap.get?_push_of_some _ e))
  have hTA : IsTri hA h₇.objs.size x y v := hsA.extBut _ _ (Nat.ne_of_gt hzlt) (hs₉.extBut _ _ (Nat.ne_of_gt hzlt) (Heap.get?_push_size _ rfl))
  have hzs : hA.objs.size = h₇.objs.size + 1 := by rw [hsA.1, hs₉.1, Heap.size_push]
  rw [hsz] at hzA hTA hzs
  refine wpAny_pure ⟨_, rfl, ?_⟩
  show Q (.ref h₇.objs.size) _
  rw [hsz]
  exact hQ hA hzA (up _ _ D.TOz hTO₇) (h1₇.at fun o e => up _ o D.i1z e) (h2₇.at fun o e => up _ o D.i2z e) (h3₇.at fun o e => up _ o D.i3z e) hTA hzs fun c o c1 c2 c3 c4 c5 e => up c o c1 (hk₇ c o c1 c2 c3 c4 c5 e)

theorem zip3_next_end {z TI TO i1 i2 i3 l1 l2 l3 : Addr} {k : Nat} {xs ys vs : Array Value} {a b d : Value} {Q : Fin → Shared → Prop} (hh : A.handled = none) (D : Ap3 z TI TO i1 i2 i3 l1 l2 l3)
    (hz : IsZip s.heap z TI TO .none) (hTI : IsTri s.heap TI (.ref i1) (.ref i2) (.ref i3)) (hTO : IsTri s.heap TO a b d)
    (h1 : s.heap.IsListIter i1 l1 k) (h2 : s.heap.IsListIter i2 l2 k) (h3 : s.heap.IsListIter i3 l3 k) (hl1 : s.heap.IsList l1 xs) (hl2 : s.heap.IsList l2 ys) (hl3 : s.heap.IsList l3 vs) (hend : xs[k]? = none ∨ ys[k]? = none ∨ vs[k]? = none)
    (hE : ∀ h' e, (∀ c o, c ≠ z → c ≠ TO → c ≠ i1 → c ≠ i2 → c ≠ i3 → s.heap.get? c = some o → h'.get? c = some o) → (∃ o, h'.get? e = some o ∧ o.cls = .type "StopIteration") → E (.ref e) { s with heap := h' }) :
    wpAny (model prog w) A (Builtin.«zip.__next__» ⟨[.ref z], []⟩) Q E s := by
  show wpAny _ _ (field (.ref z) 2 >>= _) _ _ _
  refine wpAny_bind (wpAny_field hz rfl (x := .bool false) rfl ?_)
  show wpAny _ _ (field (.ref z) 3 >>= _) _ _ _
  refine wpAny_bind (wpAny_field hz rfl (x := .ref TI) rfl ?_)
  refine wpAny_bind (wpAny_seqItems hTI rfl ?_)
  show wpAny _ _ (Builtin.SmallTypes.ownedTupleIsFree (.ref z) >>= _) _ _ _
  refine wpAny_bind ?_
  unfold Builtin.SmallTypes.ownedTupleIsFree
  refine wpAny_bind (wpAny_field hz rfl (x := .none) rfl (wpAny_pure ?_))
  simp only [if_true]
  refine wpAny_bind (wpAny_rule ?_)
  refine wpAny_bind (wpAny_field hz rfl (x := .ref TO) rfl ?_)
  refine wpAny_bind (wpAny_setField_rec hz (by simp) fun h₁ hz₁ hs₁ => ?_)
  replace hz₁ : IsZip h₁ z TI TO .ellipsis := hz₁
  refine wpAny_bind ?_
  simp only [List.zipIdx_cons, List.zipIdx_nil, List.forIn_cons, List.forIn_nil]
  refine wpAny_bind (wpAny_bind (wpAny_onRaise ?_))
  show wpAny _ _ (Builtin.SmallTypes.nextOf (.ref i1) >>= _) _ _ _
  cases hx : xs[k]? with
  | none =>
    refine wpAny_bind (wpAny_nextOf_list_end hh (h1.extBut hs₁.extBut D.i1z) (hl1.extBut hs₁.extBut D.l1z) hx fun h₂ e hs₂ he => ?_)
    obtain ⟨oe, hoe, hce⟩ := he
    have hz₂ : IsZip h₂ z TI TO .ellipsis := hs₂ _ _ D.i1z.symm hz₁
    have hez : e ≠ z := fun x => by subst x; rw [hz₂] at hoe; cases hoe; simp at hce
    refine wpAny_setField_rec hz₂ (by simp) fun h₃ _ hs₃ => hE h₃ e (fun c o c1 _ c3 _ _ x => hs₃.extBut _ _ c1 (hs₂ _ _ c3 (hs₁.extBut _ _ c1 x))) ⟨oe, hs₃.extBut _ _ hez hoe, hce⟩
  | some x =>
    refine wpAny_bind (wpAny_nextOf_list_item (h1.extBut hs₁.extBut D.i1z) (hl1.extBut hs₁.extBut D.l1z) hx fun h₂ h1₂ hs₂ => wpAny_pure ?_)
    have hTO₂ : IsTri h₂ TO a b d := hs₂.extBut _ _ D.TOi1 (hs₁.extBut _ _ D.TOz hTO)
    refine wpAny_bind (wpAny_seqItems hTO₂ rfl ?_)
    refine wpAny_bind (updateSeq_tri hTO₂ fun h₃ hTO₃ hs₃ => ?_)
    replace hTO₃ : IsTri h₃ TO x b d := hTO₃
    refine wpAny_bind (wpAny_letGo (wpAny_pure ?_))
    refine wpAny_bind (wpAny_bind (wpAny_onRaise ?_))
    show wpAny _ _ (Builtin.SmallTypes.nextOf (.ref i2) >>= _) _ _ _
    have h2₃ := ((h2.extBut hs₁.extBut D.i2z).extBut hs₂.extBut D.i12.symm).extBut hs₃.extBut D.TOi2.symm
    have hl2₃ := ((hl2.extBut hs₁.extBut D.l2z).extBut hs₂.extBut D.l2i1).extBut hs₃.extBut D.l2TO
    cases hy : ys[k]? with
    | none =>
      refine wpAny_bind (wpAny_nextOf_list_end hh h2₃ hl2₃ hy fun h₄ e hs₄ he => ?_)
      obtain ⟨oe, hoe, hce⟩ := he
      have hz₄ : IsZip h₄ z TI TO .ellipsis := hs₄ _ _ D.i2z.symm (hs₃.extBut _ _ D.TOz.symm (hs₂.extBut _ _ D.i1z.symm hz₁))
      have hez : e ≠ z := fun x => by subst x; rw [hz₄] at hoe; cases hoe; simp at hce
      refine wpAny_setField_rec hz₄ (by simp) fun h₅ _ hs₅ => hE h₅ e (fun c o c1 c2 c3 c4 _ x => hs₅.extBut _ _ c1 (hs₄ _ _ c4 (hs₃.extBut _ _ c2 (hs₂.extBut _ _ c3 (hs₁.extBut _ _ c1 x))))) ⟨oe, hs₅.extBut _ _ hez hoe, hce⟩
    | some y =>
      have hv : vs[k]? = none := by
        rcases hend with h | h | h
        · rw [hx] at h; cases h
        · rw [hy] at h; cases h
        · exact h
      refine wpAny_bind (wpAny_nextOf_list_item h2₃ hl2₃ hy fun h₄ h2₄ hs₄ => wpAny_pure ?_)
      have hTO₄ : IsTri h₄ TO x b d := hs₄.extBut _ _ D.TOi2 hTO₃
      refine wpAny_bind (wpAny_seqItems hTO₄ rfl ?_)
      refine wpAny_bind (updateSeq_tri hTO₄ fun h₅ hTO₅ hs₅ => ?_)
      refine wpAny_bind (wpAny_letGo (wpAny_pure ?_))
      refine wpAny_bind (wpAny_bind (wpAny_onRaise ?_))
      show wpAny _ _ (Builtin.SmallTypes.nextOf (.ref i3) >>= _) _ _ _
      refine wpAny_bind (wpAny_nextOf_list_end hh (((((h3.extBut hs₁.extBut D.i3z).extBut hs₂.extBut D.i13.symm).extBut hs₃.extBut D.TOi3.symm).extBut hs₄.extBut D.i23.symm).extBut hs₅.extBut D.TOi3.symm)
        (((((hl3.extBut hs₁.extBut D.l3z).extBut hs₂.extBut D.l3i1).extBut hs₃.extBut D.l3TO).extBut hs₄.extBut D.l3i2).extBut hs₅.extBut D.l3TO) hv fun h₆ e hs₆ he => ?_)
      obtain ⟨oe, hoe, hce⟩ := he
      have hz₆ : IsZip h₆ z TI TO .ellipsis := hs₆ _ _ D.i3z.symm (hs₅.extBut _ _ D.TOz.symm (hs₄.extBut _ _ D.i2z.symm (hs₃.extBut _ _ D.TOz.symm (hs₂.extBut _ _ D.i1z.symm hz₁))))
      have hez : e ≠ z := fun x => by subst x; rw [hz₆] at hoe; cases hoe; simp at hce
      refine wpAny_setField_rec hz₆ (by simp) fun h₇ _ hs₇ => hE h₇ e (fun c o c1 c2 c3 c4 c5 x => hs₇.extBut _ _ c1 (hs₆ _ _ c5 (hs₅.extBut _ _ c2 (hs₄.extBut _ _ c4 (hs₃.extBut _ _ c2 (hs₂.extBut _ _ c3 (hs₁.extBut _ _ c1 x))))))) ⟨oe, hs₇.extBut _ _ hez hoe, hce⟩
theorem wpAny_pyNext_zip3_item {z TI TO i1 i2 i3 l1 l2 l3 : Addr} {k : Nat} {xs ys vs : Array Value} {x y v a b d : Value} {Q : Option Value → Shared → Prop} (D : Ap3 z TI TO i1 i2 i3 l1 l2 l3)
    (hz : IsZip s.heap z TI TO .none) (hTI : IsTri s.heap TI (.ref i1) (.ref i2) (.ref i3)) (hTO : IsTri s.heap TO a b d)
    (h1 : s.heap.IsListIter i1 l1 k) (h2 : s.heap.IsListIter i2 l2 k) (h3 : s.heap.IsListIter i3 l3 k) (hl1 : s.heap.IsList l1 xs) (hl2 : s.heap.IsList l2 ys) (hl3 : s.heap.IsList l3 vs) (hx : xs[k]? = some x) (hy : ys[k]? = some y) (hv : vs[k]? = some v)
    (hQ : ∀ h', IsZip h' z TI TO (rawInt s.heap.objs.size) → IsTri h' TO x y v → h'.IsListIter i1 l1 (k + 1) → h'.IsListIter i2 l2 (k + 1) → h'.IsListIter i3 l3 (k + 1) → IsTri h' s.heap.objs.size x y v → h'.objs.size = s.heap.objs.size + 1 →
      (∀ c o, c ≠ z → c ≠ TO → c ≠ i1 → c ≠ i2 → c ≠ i3 → s.heap.get? c = some o → h'.get? c = some o) → Q (some (.ref s.heap.objs.size)) { s with heap := h' }) : wpAny (model prog w) A (pyNext (.ref z)) Q E s := by
  have hT : s.TypeIs (.ref z) "zip" := ⟨_, hz, rfl⟩
  unfold pyNext
  exact wpAny_bind (wpAny_attempt (wpAny_callSpecial?_slot (name := Str.ofString "__next__") hT F.slot_zip_next
    (wpAny_call_entry F.slot_zip_next hT F.entry_zip_next
      (zip3_next_item D hz hTI hTO h1 h2 h3 hl1 hl2 hl3 hx hy hv fun h' a1 a2 a3 a4 a5 a6 a7 a8 => wpAny_pure (hQ h' a1 a2 a3 a4 a5 a6 a7 a8)) (F.args_zip_next_1 _))))
theorem wpAny_pyNext_zip3_end {z TI TO i1 i2 i3 l1 l2 l3 : Addr} {k : Nat} {xs ys vs : Array Value} {a b d : Value} {Q : Option Value → Shared → Prop} (hh : A.handled = none) (D : Ap3 z TI TO i1 i2 i3 l1 l2 l3)
    (hz : IsZip s.heap z TI TO .none) (hTI : IsTri s.heap TI (.ref i1) (.ref i2) (.ref i3)) (hTO : IsTri s.heap TO a b d)
    (h1 : s.heap.IsListIter i1 l1 k) (h2 : s.heap.IsListIter i2 l2 k) (h3 : s.heap.IsListIter i3 l3 k) (hl1 : s.heap.IsList l1 xs) (hl2 : s.heap.IsList l2 ys) (hl3 : s.heap.IsList l3 vs) (hend : xs[k]? = none ∨ ys[k]? = none ∨ vs[k]? = none)
    (hQ : ∀ h', (∀ c o, c ≠ z → c ≠ TO → c ≠ i1 → c ≠ i2 → c ≠ i3 → s.heap.get? c = some o → h'.get? c = some o) → Q none { s with heap := h' }) : wpAny (model prog w) A (pyNext (.ref z)) Q E s := by
  have hT : s.TypeIs (.ref z) "zip" := ⟨_, hz, rfl⟩
  unfold pyNext
  refine wpAny_bind (wpAny_attempt (wpAny_callSpecial?_slot (name := Str.ofString "__next__") hT F.slot_zip_next
    (wpAny_call_entry F.slot_zip_next hT F.entry_zip_next (zip3_next_end hh D hz hTI hTO h1 h2 h3 hl1 hl2 hl3 hend fun h' e hk he => ?_) (F.args_zip_next_1 _))))
  obtain ⟨o, ho, hc⟩ := he
  refine wpAny_bind (wpAny_isInstance (T := "StopIteration") (b := true) ⟨o, ho, hc⟩ isSubtype_stop ?_)
  exact wpAny_pure (hQ _ hk)
end
/-! ### its making -/
theorem typeCall_zip3 (a b v : Value) : checkTypeCall "zip" ⟨[a, b, v], []⟩ = pure () := by kernel_rfl
theorem newCall_zip3 (a b v : Value) : checkBuiltinCall "zip.__new__" ⟨[.type "zip", a, b, v], []⟩ = pure () := by kernel_rfl
theorem args_init3 (o a b v : Value) : argsOk "object.__init__" ⟨[o, a, b, v], []⟩ := by
  unfold argsOk; rw [signature?_of (id := "object.__init__") (n := ['_', '_', 't', 'i', 'n', 'i', '_', '_']) (o := ['t', 'c', 'e', 'j', 'b', 'o']) (by kernel_rfl) F.owner_object]; kernel_rfl
abbrev z3a (h : Heap) (l1 : Addr) : Heap := h.push { cls := .type "list_iterator", data := .fields #[.ref l1, .int 0 0] }
abbrev z3b (h : Heap) (l1 l2 : Addr) : Heap := (z3a h l1).push { cls := .type "list_iterator", data := .fields #[.ref l2, .int 0 0] }
abbrev z3c (h : Heap) (l1 l2 l3 : Addr) : Heap := (z3b h l1 l2).push { cls := .type "list_iterator", data := .fields #[.ref l3, .int 0 0] }
abbrev z3d (h : Heap) (l1 l2 l3 : Addr) : Heap := (z3c h l1 l2 l3).push { cls := .type "tuple", data := .seq #[.ref h.objs.size, .ref (z3a h l1).objs.size, .ref (z3b h l1 l2).objs.size] }
abbrev z3e (h : Heap) (l1 l2 l3 : Addr) : Heap := (z3d h l1 l2 l3).push { cls := .type "tuple", data := .seq #[.none, .none, .none] }
abbrev z3f (h : Heap) (l1 l2 l3 : Addr) : Heap := (z3e h l1 l2 l3).push { cls := .type "zip", data := .fields #[.none, .bool false, .bool false, .ref (z3c h l1 l2 l3).objs.size, .ref (z3d h l1 l2 l3).objs.size] }
theorem meets_zip_new3 (l1 l2 l3 : Addr) (xs ys vs : Array Value) :
    Meets (Builtin.«zip.__new__» ⟨[.type "zip", .ref l1, .ref l2, .ref l3], []⟩) (fun _ R s => s.heap.IsList l1 xs ∧ s.heap.IsList l2 ys ∧ s.heap.IsList l3 vs ∧
      R (.ok (.ret (.ref (z3e s.heap l1 l2 l3).objs.size))) { s with heap := z3f s.heap l1 l2 l3 }) :=
  .of_wp fun prog w A R s h => by
    obtain ⟨hp, g, d, tk, os⟩ := s; obtain ⟨hl1, hl2, hl3, h⟩ := h
    have hsub := sub_zip
    have hL1 : Heap.IsList (Shared.heap ⟨hp, g, d, tk, os⟩) l1 xs := hl1
    have hL2 : Heap.IsList (Shared.heap ⟨hp.push { cls := .type "list_iterator", data := .fields #[.ref l1, .int 0 0] }, g, d, tk, os⟩) l2 ys := Heap.IsList.push hl2 _
    have hL3 : Heap.IsList (Shared.heap ⟨(hp.push { cls := .type "list_iterator", data := .fields #[.ref l1, .int 0 0] }).push { cls := .type "list_iterator", data := .fields #[.ref l2, .int 0 0] }, g, d, tk, os⟩) l3 vs := Heap.IsList.push (Heap.IsList.push hl3 _) _
    wp_walk using wpAny_pyIter_list hL1, wpAny_pyIter_list hL2, wpAny_pyIter_list hL3
    exact ⟨_, rfl, h⟩
end DZ

/-! ## DZip -/
set_option Elab.async false
set_option autoImplicit false
set_option linter.all false
set_option maxRecDepth 100000
set_option maxHeartbeats 4000000
/-! DZip: zip(.., strict=True) of two lists, zip of three lists, as sources. -/
namespace DL
open PySem PySem.Spec PyProof.Rows L2 DZ
section
variable {prog : Program} {w : World} {A : Around} {E : Value → Shared → Prop} {s : Shared}
theorem call_zipS {l1 l2 : Addr} {xs ys : Array Value} {Q : Value → Shared → Prop} (hl1 : s.heap.IsList l1 xs) (hl2 : s.heap.IsList l2 ys)
    (h : ∀ h', IsZipS h' (s.heap.objs.size + 4) (s.heap.objs.size + 2) (s.heap.objs.size + 3) .none → IsPair h' (s.heap.objs.size + 2) (.ref s.heap.objs.size) (.ref (s.heap.objs.size + 1)) →
      IsPair h' (s.heap.objs.size + 3) .none .none → h'.IsListIter s.heap.objs.size l1 0 → h'.IsListIter (s.heap.objs.size + 1) l2 0 → h'.objs.size = s.heap.objs.size + 5 →
      (∀ c o, s.heap.get? c = some o → h'.get? c = some o) → Q (.ref (s.heap.objs.size + 4)) { s with heap := h' }) :
    wpAny (model prog w) A (call (.type "zip") [.ref l1, .ref l2] [(Str.ofString "strict", .bool true)]) Q E s := by
  refine callType_newKw PySem.F.called_zip (by decide) (typeCall_zipS _ _ _) (newCall_zipS _ _ _) (fun obj => args_initS obj _ _ _) PySem.F.entry_zip_new
    (meets_zip_newS l1 l2 xs ys) ⟨hl1, hl2, ?_⟩
  have z1 : (zipH1 s.heap l1).objs.size = s.heap.objs.size + 1 := Heap.size_push ..
  have z2 : (zipH2 s.heap l1 l2).objs.size = s.heap.objs.size + 2 := by rw [Heap.size_push, z1]
  have z3 : (zipH3 s.heap l1 l2).objs.size = s.heap.objs.size + 3 := by rw [Heap.size_push, z2]
  have z4 : (zipH4 s.heap l1 l2).objs.size = s.heap.objs.size + 4 := by rw [Heap.size_push, z3]
  have z5 : (zipHS s.heap l1 l2).objs.size = s.heap.objs.size + 5 := by rw [Heap.size_push, z4]
  have g5 : (zipHS s.heap l1 l2).get? (zipH4 s.heap l1 l2).objs.size = some _ := Heap.get?_push_size _ rfl
  have g4 : (zipHS s.heap l1 l2).get? (zipH3 s.heap l1 l2).objs.size = some _ := Heap.get?_push_of_some _ (Heap.get?_push_size _ rfl)
  have g3 : (zipHS s.heap l1 l2).get? (zipH2 s.heap l1 l2).objs.size = some _ := Heap.get?_push_of_some _ (Heap.get?_push_of_some _ (Heap.get?_push_size _ rfl))
  have g2 : (zipHS s.heap l1 l2).get? (zipH1 s.heap l1).objs.size = some _ := Heap.get?_push_of_some _ (Heap.get?_push_of_some _ (Heap.get?_push_of_some _ (Heap.get?_push_size _ rfl)))
  have g1 : (zipHS s.heap l1 l2).get? s.heap.objs.size = some _ := Heap.get?_push_of_some _ (Heap.get?_push_of_some _ (Heap.get?_push_of_some _ (Heap.get?_push_of_some _ (Heap.get?_push_size _ rfl))))
  show _ ∧ _
  rw [z2, z3, z4] at g5
  rw [z1, z2] at g3
  rw [z3] at g4
  rw [z1] at g2
  rw [z4]
  exact ⟨⟨_, g5, rfl⟩, h _ g5 g3 g4 ⟨_, g1, rfl, rfl⟩ ⟨_, g2, rfl, rfl⟩ z5 fun c o x =>
    Heap.get?_push_of_some _ (Heap.get?_push_of_some _ (Heap.get?_push_of_some _ (Heap.get?_push_of_some _ (Heap.get?_push_of_some _ x))))⟩
theorem call_zip3 {l1 l2 l3 : Addr} {xs ys vs : Array Value} {Q : Value → Shared → Prop} (hl1 : s.heap.IsList l1 xs) (hl2 : s.heap.IsList l2 ys) (hl3 : s.heap.IsList l3 vs)
    (h : ∀ h', IsZip h' (s.heap.objs.size + 5) (s.heap.objs.size + 3) (s.heap.objs.size + 4) .none → IsTri h' (s.heap.objs.size + 3) (.ref s.heap.objs.size) (.ref (s.heap.objs.size + 1)) (.ref (s.heap.objs.size + 2)) →
      IsTri h' (s.heap.objs.size + 4) .none .none .none → h'.IsListIter s.heap.objs.size l1 0 → h'.IsListIter (s.heap.objs.size + 1) l2 0 → h'.IsListIter (s.heap.objs.size + 2) l3 0 → h'.objs.size = s.heap.objs.size + 6 →
      (∀ c o, s.heap.get? c = some o → h'.get? c = some o) → Q (.ref (s.heap.objs.size + 5)) { s with heap := h' }) :
    wpAny (model prog w) A (call (.type "zip") [.ref l1, .ref l2, .ref l3]) Q E s := by
  refine callType_new PySem.F.called_zip (by decide) (typeCall_zip3 _ _ _) (newCall_zip3 _ _ _) (fun obj => args_init3 obj _ _ _) PySem.F.entry_zip_new
    (meets_zip_new3 l1 l2 l3 xs ys vs) ⟨hl1, hl2, hl3, ?_⟩
  have z1 : (z3a s.heap l1).objs.size = s.heap.objs.size + 1 := Heap.size_push ..
  have z2 : (z3b s.heap l1 l2).objs.size = s.heap.objs.size + 2 := by rw [Heap.size_push, z1]
  have z3 : (z3c s.heap l1 l2 l3).objs.size = s.heap.objs.size + 3 := by rw [Heap.size_push, z2]
  have z4 : (z3d s.heap l1 l2 l3).objs.size = s.heap.objs.size + 4 := by rw [Heap.size_push, z3]
  have z5 : (z3e s.heap l1 l2 l3).objs.size = s.heap.objs.size + 5 := by rw [Heap.size_push, z4]
  have z6 : (z3f s.heap l1 l2 l3).objs.size = s.heap.objs.size + 6 := by rw [Heap.size_push, z5]
  have g6 : (z3f s.heap l1 l2 l3).get? (z3e s.heap l1 l2 l3).objs.size = some _ := Heap.get?_push_size _ rfl
  have g5 : (z3f s.heap l1 l2 l3).get? (z3d s.heap l1 l2 l3).objs.size = some _ := Heap.get?_push_of_some _ (Heap.get?_push_size _ rfl)
  have g4 : (z3f s.heap l1 l2 l3).get? (z3c s.heap l1 l2 l3).objs.size = some _ := Heap.get?_push_of_some _ (Heap.get?_push_of_some _ (Heap.get?_push_size _ rfl))
  have g3 : (z3f s.heap l1 l2 l3).get? (z3b s.heap l1 l2).objs.size = some _ := Heap.get?_push_of_some _ (Heap.get?_push_of_some _ (Heap.get?_push_of_some _ (Heap.get?_push_size _ rfl)))
  have g2 : (z3f s.heap l1 l2 l3).get? (z3a s.heap l1).objs.size = some _ := Heap.get?_push_of_some _ (Heap.get?_push_of_some _ (Heap.get?_push_of_some _ (Heap.get?_push_of_some _ (Heap.get?_push_size _ rfl))))
  have g1 : (z3f s.heap l1 l2 l3).get? s.heap.objs.size = some _ := Heap.get?_push_of_some _ (Heap.get?_push_of_some _ (Heap.get?_push_of_some _ (Heap.get?_push_of_some _ (Heap.get?_push_of_some _ (Heap.get?_push_size _ rfl)))))
  show _ ∧ _
  rw [z5, z3, z4] at g6
  rw [z4] at g5
  rw [z3, z1, z2] at g4
  rw [z2] at g3
  rw [z1] at g2
  rw [z5]
  exact ⟨⟨_, g6, rfl⟩, h _ g6 g4 g5 ⟨_, g1, rfl, rfl⟩ ⟨_, g2, rfl, rfl⟩ ⟨_, g3, rfl, rfl⟩ z6 fun c o x =>
    Heap.get?_push_of_some _ (Heap.get?_push_of_some _ (Heap.get?_push_of_some _ (Heap.get?_push_of_some _ (Heap.get?_push_of_some _ (Heap.get?_push_of_some _ x)))))⟩
theorem callWith_typeK {env : Env} {pos : Pos} {T : String} {e : Expr} {rest : List Expr} {kws : List Keyword} {Q : Value → Shared → Prop} {M : Model} (hall : (backToKw pos (keywordEach kws env)).all (·.1.isSome) = true)
    (h : wpAny M A (spliced (backTo pos (starEach (e :: rest) env))) (fun vs s₁ => wpAny M A (evalAll ((backToKw pos (keywordEach kws env)).map (·.2)))
      (fun ks s₂ => wpAny M A (call (.type T) vs (((backToKw pos (keywordEach kws env)).filterMap (·.1)).zip ks)) Q E s₂) E s₁) E s)
    (hplain : ((backTo pos (starEach (e :: rest) env)).any (·.1) || (backToKw pos (keywordEach kws env)).any (·.1.isNone)) = false) (he : starEach (e :: rest) env = (false, eval e env) :: starEach rest env) :
    wpAny M A (callWith pos (.type T) [] (backTo pos (starEach (e :: rest) env)) (backToKw pos (keywordEach kws env))) Q E s := by
  unfold callWith
  refine wpAny_bind (wpAny_holding (wpAny_mono (PyProof.Rows.evalArgs_kw2 (f := .type T) (Q := fun a s₂ => wpAny M A (call (.type T) a.pos a.kw) Q E s₂) hall h he) (fun a s₁ h₁ => wpAny_bind (wpAny_standAt ?_)) fun _ _ x => x))
  simp only [hplain]
  refine wpAny_bind (wpAny_pure ?_)
  exact wpAny_bind (wpAny_mono h₁ (fun r s₂ hr => wpAny_bind (wpAny_holding (wpAny_point (wpAny_pure hr)))) fun _ _ x => x)
end

/-! ### the walks -/
/-- as for zip; both end at once -/
def ItzS (K : PySem.W.Frag) (a b : Addr) : It :=
  ⟨fun i H => ∃ (xs ys : List V) (x y : V), SqL K H a xs ∧ SqL K H b ys ∧ xs[i]? = some x ∧ ys[i]? = some y,
    fun i H v H' => ∃ T x y, v = .ref T ∧ H T = none ∧ H' = upd H T (.tup [x, y]) ∧ (∀ xs, SqL K H a xs → xs[i]? = some x) ∧ ∀ ys, SqL K H b ys → ys[i]? = some y,
    fun i H => ∃ xs ys : List V, SqL K H a xs ∧ SqL K H b ys ∧ xs.length ≤ i ∧ ys.length ≤ i⟩
theorem turn_zipS {P : Program} {w : World} {K : PySem.W.Frag} {elts : List Expr} {kk : Nat} {tpos : Pos} {a b z TI TO i1 i2 : Addr} (D : ZipApart z TI TO i1 i2 a b) :
    Turn P w K (.Tuple elts kk tpos) (ItzS K a b) [z, TI, TO, i1, i2] z (fun i h => IsZipS h z TI TO .none ∧ IsPair h TI (.ref i1) (.ref i2) ∧ (∃ x y, IsPair h TO x y) ∧ h.IsListIter i1 a i ∧ h.IsListIter i2 b i) where
  mem := by simp
  obj := fun i h st c hc => by
    obtain ⟨hz, hTI, ⟨x, y, hTO⟩, ⟨o1, e1, _, d1⟩, ⟨o2, e2, _, d2⟩⟩ := st
    have e' : c = z ∨ c = TI ∨ c = TO ∨ c = i1 ∨ c = i2 := by simpa using hc
    rcases e' with q | q | q | q | q
    · rw [q]; exact ⟨_, hz, fun v q => nomatch q⟩
    · rw [q]; exact ⟨_, hTI, fun v q => nomatch q⟩
    · rw [q]; exact ⟨_, hTO, fun v q => nomatch q⟩
    · rw [q]; exact ⟨o1, e1, fun v q => by rw [d1] at q; cases q⟩
    · rw [q]; exact ⟨o2, e2, fun v q => by rw [d2] at q; cases q⟩
  keep := fun i h h' st k => by
    obtain ⟨hz, hTI, ⟨x, y, hTO⟩, h1, h2⟩ := st
    exact ⟨k z (by simp) _ hz, k TI (by simp) _ hTI, ⟨x, y, k TO (by simp) _ hTO⟩, h1.at fun o q => k i1 (by simp) o q, h2.at fun o q => k i2 (by simp) o q⟩
  item := by
    intro X hP hw hK hc i pins s σ H E I hf st hg
    subst hP hw hK
    obtain ⟨hz, hTI, ⟨x0, y0, hTO⟩, h1, h2⟩ := st
    obtain ⟨xs, ys, x, y, hqx, hqy, hx, hy⟩ := hg
    obtain ⟨its, rv, p, _⟩ := I.list hqx
    obtain ⟨its2, rv2, p2, _⟩ := I.list hqy
    obtain ⟨u, hu, ru⟩ := rv.get hx
    obtain ⟨u2, hu2, ru2⟩ := rv2.get hy
    have hzl : z < s.heap.objs.size := Heap.lt_size hz
    refine wpAny_pyNext_zipS_item D hz hTI hTO h1 h2 p.isList p2.isList (x := u) (y := u2) (by simpa using hu) (by simpa using hu2) fun h' z' TO' h1' h2' hT hsz hk => ?_
    refine ⟨_, rfl, wpAny_letOwnedTupleGo_zipS (s := { s with heap := h' }) z' fun h'' z'' sb => ?_⟩
    have hT2 : h''.get? s.heap.objs.size = some { cls := .type "tuple", data := .seq #[u, u2] } := (sb.2 _ (Nat.ne_of_gt hzl)).trans hT
    have new : ObjOk X.prog X.w (upd H s.heap.objs.size (.tup [x, y])) h'' s.heap.objs.size (.tup [x, y]) :=
      ⟨by show 2 ≤ sizeLine; decide, [u, u2], .cons ru (.cons ru2 .nil), ⟨_, hT2, rfl, _, rfl⟩⟩
    have I1 : Inv X pins σ (upd H s.heap.objs.size (.tup [x, y])) { s with heap := h'' } :=
      I.turnedNew (t' := s.toks) (ch := [z, TI, TO, i1, i2]) (fun c o hb q => (sb.2 c (fun q' => hb (by simp [q']))).trans (hk c o (fun q' => hb (by simp [q'])) (fun q' => hb (by simp [q'])) (fun q' => hb (by simp [q'])) (fun q' => hb (by simp [q'])) q)) hf (Nat.le_refl _) new
    refine ⟨.ref s.heap.objs.size, _, I1, rfl, ⟨_, x, y, rfl, I.hok.fresh (Nat.le_refl _), rfl, fun l hl => by rw [I.list_inj hl hqx]; exact hx, fun l hl => by rw [I.list_inj hl hqy]; exact hy⟩, ⟨z'', ?_, ⟨u, u2, ?_⟩, ?_, ?_⟩, fun c hcm => ?_⟩
    · exact (sb.2 _ D.TIz).trans (hk _ _ D.TIz D.TITO D.TIi1 D.TIi2 hTI)
    · exact (sb.2 _ D.TOz).trans TO'
    · exact h1'.at fun o q => (sb.2 _ D.i1z).trans q
    · exact h2'.at fun o q => (sb.2 _ D.i2z).trans q
    · have hlt : c < s.heap.objs.size := by
        have e' : c = z ∨ c = TI ∨ c = TO ∨ c = i1 ∨ c = i2 := by simpa using hcm
        rcases e' with q | q | q | q | q
        · rw [q]; exact hzl
        · rw [q]; exact Heap.lt_size hTI
        · rw [q]; exact Heap.lt_size hTO
        · rw [q]; obtain ⟨_, e1, _⟩ := h1; exact Heap.lt_size e1
        · rw [q]; obtain ⟨_, e2, _⟩ := h2; exact Heap.lt_size e2
      rw [upd_ne (Nat.ne_of_lt hlt)]
      exact (hf c hcm).1
  done := by
    intro X hP hw hK hc i pins s σ H E I hf st hg
    subst hP hw hK
    obtain ⟨hz, hTI, ⟨x0, y0, hTO⟩, h1, h2⟩ := st
    obtain ⟨xs, ys, hqx, hqy, hx, hy⟩ := hg
    obtain ⟨its, rv, p, _⟩ := I.list hqx
    obtain ⟨its2, rv2, p2, _⟩ := I.list hqy
    have l1 := rv.length
    have l2 := rv2.length
    exact wpAny_pyNext_zipS_end (I.ok.hd hc) D hz hTI hTO h1 h2 p.isList p2.isList (by simp; omega) (by simp; omega) fun h' hk => ⟨rfl, I.turnedL (t' := s.toks) (ch := [z, TI, TO, i1, i2]) (fun c o hb q =>
      hk c o (fun q' => hb (by simp [q'])) (fun q' => hb (by simp [q'])) (fun q' => hb (by simp [q'])) (fun q' => hb (by simp [q'])) q) hf⟩
  self := fun A i s Q E st h => wpAny_pyIter_zipS st.1 h
def Itz3 (K : PySem.W.Frag) (a b d : Addr) : It :=
  ⟨fun i H => ∃ (xs ys zs : List V) (x y z : V), SqL K H a xs ∧ SqL K H b ys ∧ SqL K H d zs ∧ xs[i]? = some x ∧ ys[i]? = some y ∧ zs[i]? = some z,
    fun i H v H' => ∃ T x y z, v = .ref T ∧ H T = none ∧ H' = upd H T (.tup [x, y, z]) ∧ (∀ xs, SqL K H a xs → xs[i]? = some x) ∧ (∀ ys, SqL K H b ys → ys[i]? = some y) ∧ ∀ zs, SqL K H d zs → zs[i]? = some z,
    fun i H => ∃ xs ys zs : List V, SqL K H a xs ∧ SqL K H b ys ∧ SqL K H d zs ∧ (xs.length ≤ i ∨ ys.length ≤ i ∨ zs.length ≤ i)⟩
theorem turn_zip3 {P : Program} {w : World} {K : PySem.W.Frag} {elts : List Expr} {kk : Nat} {tpos : Pos} {a b d z TI TO i1 i2 i3 : Addr} (D : Ap3 z TI TO i1 i2 i3 a b d) :
    Turn P w K (.Tuple elts kk tpos) (Itz3 K a b d) [z, TI, TO, i1, i2, i3] z (fun i h => IsZip h z TI TO .none ∧ IsTri h TI (.ref i1) (.ref i2) (.ref i3) ∧ (∃ x y v, IsTri h TO x y v) ∧ h.IsListIter i1 a i ∧ h.IsListIter i2 b i ∧ h.IsListIter i3 d i) where
  mem := by simp
  obj := fun i h st c hc => by
    obtain ⟨hz, hTI, ⟨x, y, v, hTO⟩, ⟨o1, e1, _, d1⟩, ⟨o2, e2, _, d2⟩, ⟨o3, e3, _, d3⟩⟩ := st
    have e' : c = z ∨ c = TI ∨ c = TO ∨ c = i1 ∨ c = i2 ∨ c = i3 := by simpa using hc
    rcases e' with q | q | q | q | q | q
    · rw [q]; exact ⟨_, hz, fun v q => nomatch q⟩
    · rw [q]; exact ⟨_, hTI, fun v q => nomatch q⟩
    · rw [q]; exact ⟨_, hTO, fun v q => nomatch q⟩
    · rw [q]; exact ⟨o1, e1, fun v q => by rw [d1] at q; cases q⟩
    · rw [q]; exact ⟨o2, e2, fun v q => by rw [d2] at q; cases q⟩
    · rw [q]; exact ⟨o3, e3, fun v q => by rw [d3] at q; cases q⟩
  keep := fun i h h' st k => by
    obtain ⟨hz, hTI, ⟨x, y, v, hTO⟩, h1, h2, h3⟩ := st
    exact ⟨k z (by simp) _ hz, k TI (by simp) _ hTI, ⟨x, y, v, k TO (by simp) _ hTO⟩, h1.at fun o q => k i1 (by simp) o q, h2.at fun o q => k i2 (by simp) o q, h3.at fun o q => k i3 (by simp) o q⟩
  item := by
    intro X hP hw hK hc i pins s σ H E I hf st hg
    subst hP hw hK
    obtain ⟨hz, hTI, ⟨x0, y0, v0, hTO⟩, h1, h2, h3⟩ := st
    obtain ⟨xs, ys, zs, x, y, v, hqx, hqy, hqz, hx, hy, hv⟩ := hg
    obtain ⟨its, rv, p, _⟩ := I.list hqx
    obtain ⟨its2, rv2, p2, _⟩ := I.list hqy
    obtain ⟨its3, rv3, p3, _⟩ := I.list hqz
    obtain ⟨u, hu, ru⟩ := rv.get hx
    obtain ⟨u2, hu2, ru2⟩ := rv2.get hy
    obtain ⟨u3, hu3, ru3⟩ := rv3.get hv
    have hzl : z < s.heap.objs.size := Heap.lt_size hz
    refine wpAny_pyNext_zip3_item D hz hTI hTO h1 h2 h3 p.isList p2.isList p3.isList (x := u) (y := u2) (v := u3) (by simpa using hu) (by simpa using hu2) (by simpa using hu3) fun h' z' TO' h1' h2' h3' hT hsz hk => ?_
    refine ⟨_, rfl, wpAny_letOwnedTupleGo_zip (s := { s with heap := h' }) z' fun h'' z'' sb => ?_⟩
    have hT2 : h''.get? s.heap.objs.size = some { cls := .type "tuple", data := .seq #[u, u2, u3] } := (sb.2 _ (Nat.ne_of_gt hzl)).trans hT
    have new : ObjOk X.prog X.w (upd H s.heap.objs.size (.tup [x, y, v])) h'' s.heap.objs.size (.tup [x, y, v]) :=
      ⟨by show 3 ≤ sizeLine; decide, [u, u2, u3], .cons ru (.cons ru2 (.cons ru3 .nil)), ⟨_, hT2, rfl, _, rfl⟩⟩
    have I1 : Inv X pins σ (upd H s.heap.objs.size (.tup [x, y, v])) { s with heap := h'' } :=
      I.turnedNew (t' := s.toks) (ch := [z, TI, TO, i1, i2, i3]) (fun c o hb q => (sb.2 c (fun q' => hb (by simp [q']))).trans (hk c o (fun q' => hb (by simp [q'])) (fun q' => hb (by simp [q'])) (fun q' => hb (by simp [q'])) (fun q' => hb (by simp [q'])) (fun q' => hb (by simp [q'])) q)) hf (Nat.le_refl _) new
    refine ⟨.ref s.heap.objs.size, _, I1, rfl, ⟨_, x, y, v, rfl, I.hok.fresh (Nat.le_refl _), rfl, fun l hl => by rw [I.list_inj hl hqx]; exact hx, fun l hl => by rw [I.list_inj hl hqy]; exact hy, fun l hl => by rw [I.list_inj hl hqz]; exact hv⟩, ⟨z'', ?_, ⟨u, u2, u3, ?_⟩, ?_, ?_, ?_⟩, fun c hcm => ?_⟩
    · exact (sb.2 _ D.TIz).trans (hk _ _ D.TIz D.TITO D.TIi1 D.TIi2 D.TIi3 hTI)
    · exact (sb.2 _ D.TOz).trans TO'
    · exact h1'.at fun o q => (sb.2 _ D.i1z).trans q
    · exact h2'.at fun o q => (sb.2 _ D.i2z).trans q
    · exact h3'.at fun o q => (sb.2 _ D.i3z).trans q
    · have hlt : c < s.heap.objs.size := by
        have e' : c = z ∨ c = TI ∨ c = TO ∨ c = i1 ∨ c = i2 ∨ c = i3 := by simpa using hcm
        rcases e' with q | q | q | q | q | q
        · rw [q]; exact hzl
        · rw [q]; exact Heap.lt_size hTI
        · rw [q]; exact Heap.lt_size hTO
        · rw [q]; obtain ⟨_, e1, _⟩ := h1; exact Heap.lt_size e1
        · rw [q]; obtain ⟨_, e2, _⟩ := h2; exact Heap.lt_size e2
        · rw [q]; obtain ⟨_, e3, _⟩ := h3; exact Heap.lt_size e3
      rw [upd_ne (Nat.ne_of_lt hlt)]
      exact (hf c hcm).1
  done := by
    intro X hP hw hK hc i pins s σ H E I hf st hg
    subst hP hw hK
    obtain ⟨hz, hTI, ⟨x0, y0, v0, hTO⟩, h1, h2, h3⟩ := st
    obtain ⟨xs, ys, zs, hqx, hqy, hqz, hend⟩ := hg
    obtain ⟨its, rv, p, _⟩ := I.list hqx
    obtain ⟨its2, rv2, p2, _⟩ := I.list hqy
    obtain ⟨its3, rv3, p3, _⟩ := I.list hqz
    have l1 := rv.length
    have l2 := rv2.length
    have l3 := rv3.length
    have he : its.toArray[i]? = none ∨ its2.toArray[i]? = none ∨ its3.toArray[i]? = none := by
      rcases hend with q | q | q
      · exact .inl (by simp; omega)
      · exact .inr (.inl (by simp; omega))
      · exact .inr (.inr (by simp; omega))
    exact wpAny_pyNext_zip3_end (I.ok.hd hc) D hz hTI hTO h1 h2 h3 p.isList p2.isList p3.isList he fun h' hk => ⟨rfl, I.turnedL (t' := s.toks) (ch := [z, TI, TO, i1, i2, i3]) (fun c o hb q =>
      hk c o (fun q' => hb (by simp [q'])) (fun q' => hb (by simp [q'])) (fun q' => hb (by simp [q'])) (fun q' => hb (by simp [q'])) (fun q' => hb (by simp [q'])) q) hf⟩
  self := fun A i s Q E st h => wpAny_pyIter_zip st.1 h
theorem ap3 (I a b d : Nat) (h1 : a < I) (h2 : b < I) (h3 : d < I) : Ap3 (I + 5) (I + 3) (I + 4) I (I + 1) (I + 2) a b d := by
  constructor <;> (intro h; replace h := (show @Eq Nat _ _ from h); omega)
def iZipS (K : PySem.W.Frag) (ta : TA) : TI := fun σ H R => ta σ H fun vs H1 => ∃ a b xs ys, vs = [.ref a, .ref b] ∧ SqL K H1 a xs ∧ SqL K H1 b ys ∧ R (ItzS K a b) H1
theorem pi_zipS {X : Cx} {e e2 : Expr} {ta : TA} {p pos tpos kpos kp2 : Pos} {elts : List Expr} {kk kj : Nat} (hg : Gl X "zip") (hm : X.mg "zip" = none) (ha : PA X [e, e2] ta)
    (hs : starEach [e, e2] X.env = (false, eval e X.env) :: starEach [e2] X.env)
    (hall : (backToKw pos (keywordEach [⟨some "strict", .Constant (.bool true) kj kp2, kpos⟩] X.env)).all (·.1.isSome) = true) (hks : (backToKw pos (keywordEach [⟨some "strict", .Constant (.bool true) kj kp2, kpos⟩] X.env)).filterMap (·.1) = [Str.ofString "strict"])
    (hpl : ((backTo pos (starEach [e, e2] X.env)).any (·.1) || (backToKw pos (keywordEach [⟨some "strict", .Constant (.bool true) kj kp2, kpos⟩] X.env)).any (·.1.isNone)) = false) :
    PI X (.Tuple elts kk tpos) (.Call (.Name "zip" p) [e, e2] [⟨some "strict", .Constant (.bool true) kj kp2, kpos⟩] pos) (iZipS X.K ta) := by
  refine ⟨fun pins s σ H R I h => ?_⟩
  have hk : PK X [⟨some "strict", .Constant (.bool true) kj kp2, kpos⟩] (tCons (tC (.bl true)) tNil) := pk_cons pe_bl pk_nil
  refine wpAny_Call_Name_kw (ld_blt I hg hm PyProof.Rows.boot_zip (callWith_typeK hall (thn (ha.run pos pins s σ H _ I h) fun us s1 ⟨vs, H1, I1, r1, q1⟩ => thn (hk.run pos pins s1 σ H1 (fun zs H2 => zs = [.bl true] ∧ H2 = H1) I1 ⟨rfl, rfl⟩) fun ws s2 ⟨zs, H2, I2, r2, ez, eH⟩ => ?_) hpl hs))
  subst ez eH
  obtain ⟨a, b, xs, ys, ex, hqx, hqy, q⟩ := q1
  subst ex
  cases r2 with
  | cons rz rr =>
    cases rr
    cases rz
    cases r1 with
    | cons r rr =>
      cases rr with
      | cons r' rr =>
        cases rr
        cases r
        cases r'
        obtain ⟨its, rv, p1, _⟩ := I2.list hqx
        obtain ⟨its2, rv2, p2, _⟩ := I2.list hqy
        have la : a < s2.heap.objs.size := p1.lt
        have lb : b < s2.heap.objs.size := p2.lt
        rw [hks]
        refine call_zipS p1.isList p2.isList fun h' hz hTI hTO h1 h2 hsz hkk => wpAny_pyIter_zipS hz ?_
        have I3 : Inv X pins σ H2 { s2 with heap := h' } := I2.kept (t' := s2.toks) hkk
        refine ⟨s2.heap.objs.size + 4, [s2.heap.objs.size + 4, s2.heap.objs.size + 2, s2.heap.objs.size + 3, s2.heap.objs.size, s2.heap.objs.size + 1], _, _, H2, rfl, I3, turn_zipS (PySem.W.ktu_apart s2.heap.objs.size a b la lb), ⟨hz, hTI, ⟨_, _, hTO⟩, h1, h2⟩, fun c hcm => ?_, q⟩
        have e' : c = s2.heap.objs.size + 4 ∨ c = s2.heap.objs.size + 2 ∨ c = s2.heap.objs.size + 3 ∨ c = s2.heap.objs.size ∨ c = s2.heap.objs.size + 1 := by simpa using hcm
        have hle : s2.heap.objs.size ≤ c := by rcases e' with z | z | z | z | z <;> rw [z] <;> first | exact Nat.le_add_right _ _ | exact Nat.le_refl _
        exact I2.fpOk hle (I2.hok.fresh hle)
def iZip3 (K : PySem.W.Frag) (ta : TA) : TI := fun σ H R => ta σ H fun vs H1 => ∃ a b d xs ys zs, vs = [.ref a, .ref b, .ref d] ∧ SqL K H1 a xs ∧ SqL K H1 b ys ∧ SqL K H1 d zs ∧ R (Itz3 K a b d) H1
theorem pi_zip3 {X : Cx} {e e2 e3 : Expr} {ta : TA} {p pos tpos : Pos} {elts : List Expr} {kk : Nat} (hg : Gl X "zip") (hm : X.mg "zip" = none) (ha : PA X [e, e2, e3] ta)
    (hs : starEach [e, e2, e3] X.env = (false, eval e X.env) :: starEach [e2, e3] X.env) (hpl : (backTo pos (starEach [e2, e3] X.env)).any (·.1) = false) :
    PI X (.Tuple elts kk tpos) (.Call (.Name "zip" p) [e, e2, e3] [] pos) (iZip3 X.K ta) := by
  refine ⟨fun pins s σ H R I h => ?_⟩
  refine Call_ (ld_blt I hg hm PyProof.Rows.boot_zip (PyProof.Rows.callWith_type1 (thn (ha.run pos pins s σ H _ I h) fun us s1 ⟨vs, H1, I1, r1, q1⟩ => ?_) hs hpl))
  obtain ⟨a, b, d, xs, ys, zs, ex, hqx, hqy, hqz, q⟩ := q1
  subst ex
  cases r1 with
  | cons r rr =>
    cases rr with
    | cons r' rr =>
      cases rr with
      | cons r'' rr =>
        cases rr
        cases r
        cases r'
        cases r''
        obtain ⟨its, rv, p1, _⟩ := I1.list hqx
        obtain ⟨its2, rv2, p2, _⟩ := I1.list hqy
        obtain ⟨its3, rv3, p3, _⟩ := I1.list hqz
        have la : a < s1.heap.objs.size := p1.lt
        have lb : b < s1.heap.objs.size := p2.lt
        have ld : d < s1.heap.objs.size := p3.lt
        refine call_zip3 p1.isList p2.isList p3.isList fun h' hz hTI hTO h1 h2 h3 hsz hkk => wpAny_pyIter_zip hz ?_
        have I3 : Inv X pins σ H1 { s1 with heap := h' } := I1.kept (t' := s1.toks) hkk
        refine ⟨s1.heap.objs.size + 5, [s1.heap.objs.size + 5, s1.heap.objs.size + 3, s1.heap.objs.size + 4, s1.heap.objs.size, s1.heap.objs.size + 1, s1.heap.objs.size + 2], _, _, H1, rfl, I3, turn_zip3 (ap3 s1.heap.objs.size a b d la lb ld), ⟨hz, hTI, ⟨_, _, _, hTO⟩, h1, h2, h3⟩, fun c hcm => ?_, q⟩
        have e' : c = s1.heap.objs.size + 5 ∨ c = s1.heap.objs.size + 3 ∨ c = s1.heap.objs.size + 4 ∨ c = s1.heap.objs.size ∨ c = s1.heap.objs.size + 1 ∨ c = s1.heap.objs.size + 2 := by simpa using hcm
        have hle : s1.heap.objs.size ≤ c := by rcases e' with z | z | z | z | z | z <;> rw [z] <;> first | exact Nat.le_add_right _ _ | exact Nat.le_refl _
        exact I1.fpOk hle (I1.hok.fresh hle)
/-! ### as sources -/
section
variable {X : Cx} {c : C} {e e2 e3 : Expr} {f f2 f3 : E} {pos p tpos kpos kp2 : Pos} {elts : List Expr} {kk kj : Nat}
theorem walk_zipS {K : PySem.W.Frag} {a b : Addr} {vs us : List V} {F H : Hp} {xs ys : List D} (h : F a = some (.lst vs)) (h' : F b = some (.lst us)) (r : RepAll c F vs xs) (r' : RepAll c F us ys) (hl : xs.length = ys.length) : WalkD c (ItzS K a b) [] F H (zip2 xs ys) := by
  have at' : ∀ F1 H1, Same F F1 → Same F1 H1 → H1 a = some (.lst vs) ∧ H1 b = some (.lst us) := fun F1 H1 t1 t2 => ⟨t2 _ _ (t1 _ _ h), t2 _ _ (t1 _ _ h')⟩
  refine ⟨fun _ z => (nomatch z), fun i F1 H1 hi s1 s2 _ _ => ?_, fun F1 H1 s1 s2 _ _ => ⟨vs, us, SqL.of (at' F1 H1 s1 s2).1, SqL.of (at' F1 H1 s1 s2).2, ?_, ?_⟩, fun i F1 H1 g x H2 hi s1 s2 _ gen hy => ?_⟩
  · rw [zip2_len] at hi
    obtain ⟨v, hv, _⟩ := r.get (List.getElem?_eq_getElem (show i < xs.length by omega))
    obtain ⟨u, hu, _⟩ := r'.get (List.getElem?_eq_getElem (show i < ys.length by omega))
    exact ⟨vs, us, v, u, SqL.of (at' F1 H1 s1 s2).1, SqL.of (at' F1 H1 s1 s2).2, hv, hu⟩
  · rw [zip2_len, r.length]
    omega
  · rw [zip2_len, r'.length]
    omega
  · obtain ⟨T, y, z, rfl, hT, rfl, hx, hz⟩ := hy
    obtain ⟨d, hd, rd⟩ := r.getV (hx vs (SqL.of (at' F1 H1 s1 s2).1))
    obtain ⟨e, he, re⟩ := r'.getV (hz us (SqL.of (at' F1 H1 s1 s2).2))
    have st := Stp.lay (o := .tup [y, z]) s2 gen hT
    refine ⟨upd F1 T (.tup [y, z]), .tup [d, e], ?_, st, .tup upd_same (.cons ((rd.up s1).up st.sub) (.cons ((re.up s1).up st.sub) .nil))⟩
    rw [zip2_get, hd, he]
/-- for x, y in zip(xs, ys, strict=True) -/
theorem di_zipS (hm : X.mg "zip" = none) (h : PE X e (tP c f)) (h2 : PE X e2 (tP c f2)) (hg : Gl X "zip" := by rfl) (hs : starEach [e, e2] X.env = (false, eval e X.env) :: starEach [e2] X.env := by rfl) (hs2 : starEach [e2] X.env = (false, eval e2 X.env) :: starEach [] X.env := by rfl)
    (hall : (backToKw pos (keywordEach [⟨some "strict", .Constant (.bool true) kj kp2, kpos⟩] X.env)).all (·.1.isSome) = true := by rfl) (hks : (backToKw pos (keywordEach [⟨some "strict", .Constant (.bool true) kj kp2, kpos⟩] X.env)).filterMap (·.1) = [Str.ofString "strict"] := by rfl)
    (hpl : ((backTo pos (starEach [e, e2] X.env)).any (·.1) || (backToKw pos (keywordEach [⟨some "strict", .Constant (.bool true) kj kp2, kpos⟩] X.env)).any (·.1.isNone)) = false := by rfl) :
    PI X (.Tuple elts kk tpos) (.Call (.Name "zip" p) [e, e2] [⟨some "strict", .Constant (.bool true) kj kp2, kpos⟩] pos) (iD c (xZs f f2)) :=
  (pi_zipS hg hm (pa_cons h (pa_cons h2 pa_nil hs2) hs) hs hall hks hpl).imp fun σ H R ⟨H0, F, δ, g, ds, g', w, o, q⟩ => by
    obtain ⟨x, g1, o1, o⟩ := ok_bind.mp o
    obtain ⟨y, g2, o2, o⟩ := ok_bind.mp o
    split at o
    · split at o
      · rename_i hl
        obtain ⟨rfl, rfl⟩ := ok_pure.mp o
        refine ⟨H0, F, δ, g, _, g1, w, o1, fun v F1 H1 s1 r1 => ⟨H0, F1, δ, g1, _, g2, w.step s1, o2, fun u F2 H2 s2 r2 => ?_⟩⟩
        cases r1 with
        | @lst _ a vs _ ea ra =>
          cases r2 with
          | @lst _ b us _ eb rb => exact ⟨a, b, vs, us, rfl, SqL.of (s2.le _ _ (s2.sub _ _ ea)), SqL.of (s2.le _ _ eb), q _ F2 H2 (s1.trans s2) (walk_zipS (s2.sub _ _ ea) eb (ra.up s2.sub) rb hl)⟩
      · exact absurd o not_ok_stuck
    · exact absurd o not_ok_stuck
theorem zip3_get : ∀ (xs ys zs : List D) (i : Nat), (zip3 xs ys zs)[i]? = match xs[i]?, ys[i]?, zs[i]? with
    | some x, some y, some z => some (.tup [x, y, z])
    | _, _, _ => none
  | [], ys, zs, i => by simp [zip3]
  | x :: xs, [], zs, i => by
    simp only [zip3, List.getElem?_nil]
    cases (x :: xs)[i]? <;> rfl
  | x :: xs, y :: ys, [], i => by
    simp only [zip3, List.getElem?_nil]
    cases (x :: xs)[i]? <;> cases (y :: ys)[i]? <;> rfl
  | x :: xs, y :: ys, z :: zs, 0 => by simp [zip3]
  | x :: xs, y :: ys, z :: zs, i + 1 => by
    show (zip3 xs ys zs)[i]? = _
    rw [zip3_get xs ys zs i]
    rfl
theorem zip3_len : ∀ (xs ys zs : List D), (zip3 xs ys zs).length = min xs.length (min ys.length zs.length)
  | [], ys, zs => by simp [zip3]
  | x :: xs, [], zs => by simp [zip3]
  | x :: xs, y :: ys, [] => by simp [zip3]
  | x :: xs, y :: ys, z :: zs => by
    simp only [zip3, List.length_cons, zip3_len xs ys zs]
    omega
theorem walk_zip3 {K : PySem.W.Frag} {a b d : Addr} {vs us ws : List V} {F H : Hp} {xs ys zs : List D} (h : F a = some (.lst vs)) (h' : F b = some (.lst us)) (h'' : F d = some (.lst ws)) (r : RepAll c F vs xs) (r' : RepAll c F us ys) (r'' : RepAll c F ws zs) : WalkD c (Itz3 K a b d) [] F H (zip3 xs ys zs) := by
  have at1 : ∀ F1 H1, Same F F1 → Same F1 H1 → SqL K H1 a vs := fun F1 H1 t1 t2 => SqL.of (t2 _ _ (t1 _ _ h))
  have at2 : ∀ F1 H1, Same F F1 → Same F1 H1 → SqL K H1 b us := fun F1 H1 t1 t2 => SqL.of (t2 _ _ (t1 _ _ h'))
  have at3 : ∀ F1 H1, Same F F1 → Same F1 H1 → SqL K H1 d ws := fun F1 H1 t1 t2 => SqL.of (t2 _ _ (t1 _ _ h''))
  have l1 := r.length
  have l2 := r'.length
  have l3 := r''.length
  refine ⟨fun _ z => (nomatch z), fun i F1 H1 hi s1 s2 _ _ => ?_, fun F1 H1 s1 s2 _ _ => ⟨vs, us, ws, at1 F1 H1 s1 s2, at2 F1 H1 s1 s2, at3 F1 H1 s1 s2, ?_⟩, fun i F1 H1 g x H2 hi s1 s2 _ gen hy => ?_⟩
  · rw [zip3_len] at hi
    obtain ⟨v, hv, _⟩ := r.get (List.getElem?_eq_getElem (show i < xs.length by omega))
    obtain ⟨u, hu, _⟩ := r'.get (List.getElem?_eq_getElem (show i < ys.length by omega))
    obtain ⟨w, hw, _⟩ := r''.get (List.getElem?_eq_getElem (show i < zs.length by omega))
    exact ⟨vs, us, ws, v, u, w, at1 F1 H1 s1 s2, at2 F1 H1 s1 s2, at3 F1 H1 s1 s2, hv, hu, hw⟩
  · rw [zip3_len]
    omega
  · obtain ⟨T, y, z, t, rfl, hT, rfl, hx, hz, ht⟩ := hy
    obtain ⟨d1, hd1, rd1⟩ := r.getV (hx vs (at1 F1 H1 s1 s2))
    obtain ⟨d2, hd2, rd2⟩ := r'.getV (hz us (at2 F1 H1 s1 s2))
    obtain ⟨d3, hd3, rd3⟩ := r''.getV (ht ws (at3 F1 H1 s1 s2))
    have st := Stp.lay (o := .tup [y, z, t]) s2 gen hT
    refine ⟨upd F1 T (.tup [y, z, t]), .tup [d1, d2, d3], ?_, st, .tup upd_same (.cons ((rd1.up s1).up st.sub) (.cons ((rd2.up s1).up st.sub) (.cons ((rd3.up s1).up st.sub) .nil)))⟩
    rw [zip3_get, hd1, hd2, hd3]
/-- for x, y, z in zip(xs, ys, zs) -/
theorem di_zip3 (hm : X.mg "zip" = none) (h : PE X e (tP c f)) (h2 : PE X e2 (tP c f2)) (h3 : PE X e3 (tP c f3)) (hg : Gl X "zip" := by rfl) (hs : starEach [e, e2, e3] X.env = (false, eval e X.env) :: starEach [e2, e3] X.env := by rfl) (hs2 : starEach [e2, e3] X.env = (false, eval e2 X.env) :: starEach [e3] X.env := by rfl) (hs3 : starEach [e3] X.env = (false, eval e3 X.env) :: starEach [] X.env := by rfl)
    (hpl : (backTo pos (starEach [e2, e3] X.env)).any (·.1) = false := by rfl) : PI X (.Tuple elts kk tpos) (.Call (.Name "zip" p) [e, e2, e3] [] pos) (iD c (xZ3 f f2 f3)) :=
  (pi_zip3 hg hm (pa_cons h (pa_cons h2 (pa_cons h3 pa_nil hs3) hs2) hs) hs hpl).imp fun σ H R ⟨H0, F, δ, g, ds, g', w, o, q⟩ => by
    obtain ⟨x, g1, o1, o⟩ := ok_bind.mp o
    obtain ⟨y, g2, o2, o⟩ := ok_bind.mp o
    obtain ⟨z, g3, o3, o⟩ := ok_bind.mp o
    split at o
    · obtain ⟨rfl, rfl⟩ := ok_pure.mp o
      refine ⟨H0, F, δ, g, _, g1, w, o1, fun v F1 H1 s1 r1 => ⟨H0, F1, δ, g1, _, g2, w.step s1, o2, fun u F2 H2 s2 r2 => ⟨H0, F2, δ, g2, _, g3, (w.step s1).step s2, o3, fun t F3 H3 s3 r3 => ?_⟩⟩⟩
      cases r1 with
      | @lst _ a vs _ ea ra =>
        cases r2 with
        | @lst _ b us _ eb rb =>
          cases r3 with
          | @lst _ d ws _ ed rd => exact ⟨a, b, d, vs, us, ws, rfl, SqL.of (s3.le _ _ (s3.sub _ _ (s2.sub _ _ ea))), SqL.of (s3.le _ _ (s3.sub _ _ eb)), SqL.of (s3.le _ _ ed), q _ F3 H3 ((s1.trans s2).trans s3) (walk_zip3 (s3.sub _ _ (s2.sub _ _ ea)) (s3.sub _ _ eb) ed ((ra.up s2.sub).up s3.sub) (rb.up s3.sub) rd)⟩
    · exact absurd o not_ok_stuck
end
end DL

/-! ## DTop -/
set_option Elab.async false
set_option autoImplicit false
set_option linter.all false
set_option maxRecDepth 100000
set_option maxHeartbeats 4000000
/-! DTop: what a printed walk of a def names: callees, built-ins, room. -/
namespace DL
open PySem PySem.Spec PyProof.Rows L2
/-- built-ins that the module doesn't cover -/
structure Blt (mg : Str → Option Value) : Prop where
  isi : mg "isinstance" = none
  bool_ : mg "bool" = none
  int_ : mg "int" = none
  str_ : mg "str" = none
  list_ : mg "list" = none
  tuple_ : mg "tuple" = none
  dict_ : mg "dict" = none
  len_ : mg "len" = none
  all_ : mg "all" = none
  any_ : mg "any" = none
  abs_ : mg "abs" = none
  max_ : mg "max" = none
  min_ : mg "min" = none
  sum_ : mg "sum" = none
  sorted_ : mg "sorted" = none
  repr_ : mg "repr" = none
  range_ : mg "range" = none
  zip_ : mg "zip" = none
  enumerate_ : mg "enumerate" = none
theorem hu64 {k : Nat} {A : Around} (r : Room k A) : A.units + 64 < cLine := by have := r.un; omega
theorem hu65 {k : Nat} {A : Around} (r : Room k A) : A.units + 65 < cLine := by have := r.un; omega
/-- a def that may be called at level k: its function -/
structure Cal (P : Program) (w : World) (K : PySem.W.Frag) (mg : Str → Option Value) (base : Heap) (k : Nat) (x : Str) (st : Stmt) (ps : List Str) (Fs : List D → M D) : Prop where
  ex : ∃ (f : Addr) (fd : FuncData), mg x = some (.ref f) ∧ Fun K x x st f fd ∧ Binds K fd ps [] ∧ FnG P w K mg base k f fd ps Fs
/-- where a def lies -/
structure At (K : PySem.W.Frag) (mg : Str → Option Value) (x : Str) (st : Stmt) (ps : List Str) : Prop where
  ex : ∃ (f : Addr) (fd : FuncData), mg x = some (.ref f) ∧ Fun K x x st f fd ∧ Binds K fd ps []
theorem At.cal {P : Program} {w : World} {K : PySem.W.Frag} {mg : Str → Option Value} {base : Heap} {k : Nat} {x : Str} {st : Stmt} {ps : List Str} {Fs : List D → M D} (a : At K mg x st ps) (h : ∀ f fd, Fun K x x st f fd → FnG P w K mg base k f fd ps Fs) : Cal P w K mg base k x st ps Fs := by
  obtain ⟨f, fd, h1, h2, h3⟩ := a.ex
  exact ⟨f, fd, h1, h2, h3, h f fd h2⟩
theorem Cal.mono {P : Program} {w : World} {K : PySem.W.Frag} {mg : Str → Option Value} {base : Heap} {j k : Nat} {x : Str} {st : Stmt} {ps : List Str} {Fs : List D → M D} (a : Cal P w K mg base j x st ps Fs) (h : j ≤ k) : Cal P w K mg base k x st ps Fs := by
  obtain ⟨f, fd, h1, h2, h3, h4⟩ := a.ex
  exact ⟨f, fd, h1, h2, h3, h4.mono h⟩
theorem Cal.le {P : Program} {w : World} {K : PySem.W.Frag} {mg : Str → Option Value} {base : Heap} {k : Nat} {x : Str} {st : Stmt} {ps : List Str} {Fs Gs' : List D → M D} (a : Cal P w K mg base k x st ps Fs) (h : ∀ ds g d g', Ok (Gs' ds) g d g' → Ok (Fs ds) g d g') : Cal P w K mg base k x st ps Gs' := by
  obtain ⟨f, fd, h1, h2, h3, h4⟩ := a.ex
  exact ⟨f, fd, h1, h2, h3, h4.le h⟩
def KwOk (x : Str) (st : Stmt) (ps ks : List Str) (n : Nat) (ix : List Nat) : Prop := (∀ (kV doc pm : Value) (an : Option Addr) (cdv ct : Value) (us ws : List Value), us.length = n → ws.length = ks.length → bindArgs (PySem.W.fnOf x x (defArgs st) (defBody st) (defScope st) .none kV doc pm an cdv ct) ⟨us, ks.zip ws⟩ = pure (ps.zip (pick ix (us ++ ws)))) ∧ ix.length = ps.length ∧ ∀ i ∈ ix, i < n + ks.length
theorem kwB_of {K : PySem.W.Frag} {x : Str} {st : Stmt} {f : Addr} {fd : FuncData} {ps ks : List Str} {n : Nat} {ix : List Nat} (F : Fun K x x st f fd) (h : KwOk x st ps ks n ix) : KwB fd ps ks n ix := by
  obtain ⟨oc, od, kV, doc, pm, an, cdv, ct, osl, rfl, lk, hcd⟩ := F.ex
  exact ⟨fun us ws h1 h2 => h.1 kV doc pm an cdv ct us ws h1 h2, h.2.1, h.2.2⟩
section
variable {X : Cx} {j k : Nat} {ps ks : List Str} {Fs : List D → M D} {x : Str} {st : Stmt} {p pos : Pos} {e : Expr} {es : List Expr} {fs gs : Es} {ga : Option Addr} {bo : Hp} {kws : List Keyword}
/-- f(e, ..) -/
theorem dc (C : Cal X.prog X.w X.K X.mg X.base j x st ps Fs) (hr : Room k X.A) (hgd : X.A.guards = some []) (ha : PA X (e :: es) (tAs ⟨X.K, X.mg, ga, bo⟩ fs)) (hj : j ≤ k := by decide) (hg : Gl X x := by rfl)
    (hdb : (x == ("__debug__" : Str)) = false := by decide) (he : starEach (e :: es) X.env = (false, eval e X.env) :: starEach es X.env := by rfl) (hpl : (backTo pos (starEach es X.env)).any (·.1) = false := by rfl) :
    PE X (.Call (.Name x p) (e :: es) [] pos) (tP ⟨X.K, X.mg, ga, bo⟩ (eCall Fs fs)) := by
  obtain ⟨f, fd, h1, h2, h3, h4⟩ := C.ex
  exact d_call (h4.mono hj) hr hgd h1 h2.kp h3 ha hg hdb he hpl
/-- f(e, .., k = v, ..) -/
theorem dcK {n : Nat} {ix : List Nat} (C : Cal X.prog X.w X.K X.mg X.base j x st ps Fs) (hr : Room k X.A) (hgd : X.A.guards = some []) (hkw : KwOk x st ps ks n ix) (ha : PA X (e :: es) (tAs ⟨X.K, X.mg, ga, bo⟩ fs)) (hks : PK X kws (tAs ⟨X.K, X.mg, ga, bo⟩ gs)) (hn : EsN n fs) (hn2 : EsN ks.length gs) (hj : j ≤ k := by decide) (hnk : kws.length = ks.length := by rfl)
    (hg : Gl X x := by rfl) (hall : (backToKw pos (keywordEach kws X.env)).all (·.1.isSome) = true := by rfl) (hke : (backToKw pos (keywordEach kws X.env)).filterMap (·.1) = ks := by rfl)
    (hdb : (x == ("__debug__" : Str)) = false := by decide) (he : starEach (e :: es) X.env = (false, eval e X.env) :: starEach es X.env := by rfl)
    (hpl : ((backTo pos (starEach (e :: es) X.env)).any (·.1) || (backToKw pos (keywordEach kws X.env)).any (·.1.isNone)) = false := by rfl) :
    PE X (.Call (.Name x p) (e :: es) kws pos) (tP ⟨X.K, X.mg, ga, bo⟩ (eCallK Fs ix fs gs)) := by
  obtain ⟨f, fd, h1, h2, h3, h4⟩ := C.ex
  exact d_callK (h4.mono hj) hr hgd h1 h2.kp (kwB_of h2 hkw) ha hks hn hn2 hnk hg hall hke hdb he hpl
/-- f(k = v, ..) -/
theorem dcK0 {ix : List Nat} (C : Cal X.prog X.w X.K X.mg X.base j x st ps Fs) (hr : Room k X.A) (hgd : X.A.guards = some []) (hkw : KwOk x st ps ks 0 ix) (hks : PK X kws (tAs ⟨X.K, X.mg, ga, bo⟩ gs)) (hn2 : EsN ks.length gs) (hj : j ≤ k := by decide)
    (hg : Gl X x := by rfl) (hall : (backToKw pos (keywordEach kws X.env)).all (·.1.isSome) = true := by rfl) (hke : (backToKw pos (keywordEach kws X.env)).filterMap (·.1) = ks := by rfl)
    (hdb : (x == ("__debug__" : Str)) = false := by decide) (hpl : ((backTo pos (starEach [] X.env)).any (·.1) || (backToKw pos (keywordEach kws X.env)).any (·.1.isNone)) = false := by rfl) :
    PE X (.Call (.Name x p) [] kws pos) (tP ⟨X.K, X.mg, ga, bo⟩ (eCall (fun ys => Fs (pick ix ys)) gs)) := by
  obtain ⟨f, fd, h1, h2, h3, h4⟩ := C.ex
  exact d_callK0 (h4.mono hj) hr hgd h1 h2.kp (kwB_of h2 hkw) hks hn2 hg hall hke hdb hpl
end
/-! ### a sign, a chain -/
def dNeg (d : D) : M D := match d with
  | .int i => pure (.int (-i))
  | _ => stuck
section
variable {X : Cx} {c : C} {a b e : Expr} {fa fb fe f : E} {pos : Pos}
theorem d_neg (ha : PE X a (tR c fa)) : PE X (.UnaryOp .USub a pos) (tP c (eF dNeg fa)) := (pe_un un_neg ha).imp fun σ H Q ⟨H0, F, δ, g, d, g', w, o, q⟩ => by
  obtain ⟨x, g1, o1, o⟩ := ok_bind.mp o
  unfold dNeg at o
  split at o
  · obtain ⟨rfl, rfl⟩ := ok_pure.mp o
    refine ⟨H0, F, δ, g, _, g1, w, o1, fun v F1 H1 s1 r1 => ?_⟩
    have r1 := r1.rep rfl
    cases r1
    exact ⟨_, rfl, q _ F1 H1 s1 (.int _)⟩
  · exact absurd o not_ok_stuck
end
end DL

/-! ## DBor -/
set_option Elab.async false
set_option autoImplicit false
set_option linter.all false
set_option maxRecDepth 100000
set_option maxHeartbeats 4000000
/-! DBor: what is read alone: a def's outcome that is new to the last object. -/
namespace DL
open PySem PySem.Spec PyProof.Rows L2
mutual
/-- nothing that is read alone within -/
def D.nb : D → Bool
  | .lst xs => nbs xs
  | .tup xs => nbs xs
  | .bor _ => false
  | .exc _ d => d.nb
  | _ => true
def nbs : List D → Bool
  | [] => true
  | x :: xs => x.nb && nbs xs
end
theorem nbs_all : ∀ {xs : List D}, nbs xs = true ↔ ∀ d ∈ xs, d.nb = true
  | [] => by simp [nbs]
  | x :: xs => by
    have := nbs_all (xs := xs)
    simp [nbs, this]
def unB : D → D
  | .bor d => d
  | d => d
def eCallI (Fs : List D → M D) (fs : Es) : E := fun δ => fs δ >>= fun ds => Fs (ds.map unB) >>= fun d => if d.imm then pure d else stuck
/-- one heap laid over another -/
def un (F B : Hp) : Hp := fun a => match F a with
  | some o => some o
  | none => B a
mutual
theorem Rep.re {c c' : C} {F : Hp} (h1 : c'.mg = c.mg) (h2 : c'.ga = c.ga) : ∀ (d : D) (v : V), d.nb = true → Rep c F v d → Rep c' F v d
  | .non, _, _, r => by cases r; exact .non
  | .bl b, _, _, r => by cases r; exact .bl b
  | .int b, _, _, r => by cases r; exact .int b
  | .str b, _, _, r => by cases r; exact .str b
  | .lst ds, _, n, r => by
    cases r with
    | lst e q => exact .lst e (RepAll.re h1 h2 ds _ (by simpa [D.nb] using n) q)
  | .tup ds, _, n, r => by
    cases r with
    | tup e q => exact .tup e (RepAll.re h1 h2 ds _ (by simpa [D.nb] using n) q)
  | .dct _, _, _, r => by
    cases r with
    | dct0 e => exact .dct0 e
  | .gen, _, _, r => by
    cases r with
    | gen e => exact .gen (by rw [h2]; exact e)
  | .fn x, _, _, r => by
    cases r with
    | fn e => exact .fn (by rw [h1]; exact e)
  | .exc _ d, _, n, r => by
    cases r with
    | exc e1 e2 e3 q => exact .exc (by rw [h1]; exact e1) e2 e3 (Rep.re h1 h2 d _ (by simpa [D.nb] using n) q)
  | .thr _ _, _, _, r => by cases r
  | .bor _, _, n, _ => by simp [D.nb] at n
theorem RepAll.re {c c' : C} {F : Hp} (h1 : c'.mg = c.mg) (h2 : c'.ga = c.ga) : ∀ (ds : List D) (vs : List V), nbs ds = true → RepAll c F vs ds → RepAll c' F vs ds
  | [], _, _, r => by cases r; exact .nil
  | d :: ds, _, n, r => by
    simp only [nbs, Bool.and_eq_true] at n
    cases r with
    | cons q t => exact .cons (Rep.re h1 h2 d _ n.1 q) (RepAll.re h1 h2 ds _ n.2 t)
end
section
variable {c : C} {F B H F' H' : Hp} {g g' : Gs}
theorem imm_any {v : V} {d : D} (h : d.imm = true) (r : Rep c B v d) : Rep c F v d := by
  cases d with
  | non => cases r; exact .non
  | bl b => cases r; exact .bl b
  | int i => cases r; exact .int i
  | str x => cases r; exact .str x
  | _ => cases h
theorem imms_any : ∀ {vs : List V} {ds : List D}, ds.all D.imm = true → RepAll c B vs ds → RepAll c F vs ds
  | _, _, _, .nil => .nil
  | _, _, h, .cons r t => by
    rw [List.all_cons, Bool.and_eq_true] at h
    exact .cons (imm_any h.1 r) (imms_any h.2 t)
theorem un_l : Same F (un F B) := fun a o e => by unfold un; rw [e]
theorem un_le (h1 : Same F H) (h2 : Same B H) : Same (un F B) H := fun a o e => by
  unfold un at e
  cases h : F a with
  | some u => rw [h] at e; cases e; exact h1 a _ h
  | none => rw [h] at e; exact h2 a _ e
theorem un_r (h1 : Same F H) (h2 : Same B H) : Same B (un F B) := fun a o e => by
  unfold un
  cases h : F a with
  | some u => exact (h1 a _ h).symm.trans (h2 a _ e)
  | none => exact e
theorem unB_rep (h1 : Same F H) (h2 : Same c.bo H) : ∀ {vs : List V} {ds : List D}, RepAll c F vs ds → RepAll c (un F c.bo) vs (ds.map unB)
  | _, _, .nil => .nil
  | _, _, .cons (d := d) r t => by
    refine .cons ?_ (unB_rep h1 h2 t)
    cases d with
    | bor d =>
      cases r with
      | bor r => exact r.up (un_r h1 h2)
    | _ => exact r.up un_l
/-- what was read alone is forgotten behind a call whose outcome is no object -/
theorem Stp.unB (gen : GenOk c F H g) (h1 : Same F H) (s : Stp c (un F c.bo) H F' H' g') : Stp c F H F H' g' :=
  ⟨Same.refl F, s.ext, fun _ a b => absurd b a, fun a o e => s.le a o (s.sub a o (un_l a o e)), ⟨fun a n => ⟨(gen.gen a n).1, (s.gen.gen a n).2⟩, s.gen.bo, s.gen.nb⟩⟩
theorem GenOk.unB (gen : GenOk c F H g) : GenOk c (un F c.bo) H g := ⟨fun a n => ⟨by
  unfold un
  rw [(gen.gen a n).1]
  exact gen.nb a n, (gen.gen a n).2⟩, gen.bo, gen.nb⟩
/-- new objects are relied on besides -/
theorem Stp.newer (h1 : Same F H) (gen : GenOk c F H g) {c0 : C} (hc : c0.ga = c.ga) (s : Stp c0 (fun _ => none) H F' H' g') : Stp c F H (un F F') H' g' := by
  have hf : Same F H' := fun a o e => s.ext a o (fun n => by
    rw [hc] at n
    rw [(gen.gen a n).1] at e; cases e) (h1 a o e)
  have hb : Same c.bo H' := fun a o e => s.ext a o (fun n => by
    rw [hc] at n
    rw [gen.nb a n] at e; cases e) (gen.bo a o e)
  refine ⟨un_l, fun a o n e => s.ext a o (by rw [hc]; exact n) e, fun a n e => ?_, un_le hf s.le, ⟨fun a n => ⟨?_, (s.gen.gen a (by rw [hc]; exact n)).2⟩, hb, gen.nb⟩⟩
  · unfold un at n
    rw [e] at n
    exact s.new a n rfl
  · unfold un
    rw [(gen.gen a n).1]
    exact (s.gen.gen a (by rw [hc]; exact n)).1
end
section
variable {X : Cx} {c : C} {a e : Expr} {f : E} {pos : Pos}
theorem d_ub (h : PE X a (tP c f)) : PE X a (tR c (eF dUnB f)) := h.imp fun σ H Q ⟨H0, F, δ, g, d, g', w, o, q⟩ => by
  obtain ⟨x, g1, o1, o⟩ := ok_bind.mp o
  unfold dUnB at o
  split at o
  · split at o
    · rename_i hi
      obtain ⟨rfl, rfl⟩ := ok_pure.mp o
      refine ⟨H0, F, δ, g, _, g1, w, o1, fun v F1 H1 s1 r1 => ?_⟩
      cases r1 with
      | bor r1 =>
        cases r1 with
        | @lst _ a vs _ ea ra => exact q _ F1 H1 s1 (.inr ⟨a, vs, _, rfl, rfl, s1.gen.bo _ _ ea, fun n => (by rw [s1.gen.nb a n] at ea; cases ea), imms_any hi ra⟩)
    · exact absurd o not_ok_stuck
  · obtain ⟨rfl, rfl⟩ := ok_pure.mp o
    exact ⟨H0, F, δ, g, _, g1, w, o1, fun v F1 H1 s1 r1 => q v F1 H1 s1 r1.b⟩
end
section
variable {X : Cx} {j k : Nat} {ps ks : List Str} {Fs : List D → M D} {x : Str} {st : Stmt} {p pos : Pos} {e : Expr} {es : List Expr} {fs gs : Es} {ga : Option Addr} {bo : Hp} {kws : List Keyword}
/-- f(e, ..), of what is read alone too, for an outcome that is no object -/
theorem dcI (C : Cal X.prog X.w X.K X.mg X.base j x st ps Fs) (hr : Room k X.A) (hgd : X.A.guards = some []) (ha : PA X (e :: es) (tAs ⟨X.K, X.mg, ga, bo⟩ fs)) (hj : j ≤ k := by decide) (hg : Gl X x := by rfl)
    (hdb : (x == ("__debug__" : Str)) = false := by decide) (he : starEach (e :: es) X.env = (false, eval e X.env) :: starEach es X.env := by rfl) (hpl : (backTo pos (starEach es X.env)).any (·.1) = false := by rfl) :
    PE X (.Call (.Name x p) (e :: es) [] pos) (tP ⟨X.K, X.mg, ga, bo⟩ (eCallI Fs fs)) := by
  obtain ⟨f, fd, h1, h2, h3, h4⟩ := C.ex
  refine (pe_callQ (h4.q.mono hj) hr hgd h1 h2.kp h3 ha hg hdb he hpl).imp fun σ H Q ⟨H0, F1, δ, g, d, g', w, o, q⟩ => ?_
  obtain ⟨ds, g1, o1, o⟩ := ok_bind.mp o
  obtain ⟨d1, g2, o2, o⟩ := ok_bind.mp o
  split at o
  · rename_i hi
    obtain ⟨rfl, rfl⟩ := ok_pure.mp o
    refine ⟨H0, F1, δ, g, ds, g1, w, o1, fun vs F1 H1 s1 r1 => ⟨by rw [r1.length, ← List.length_map (f := unB)]; exact h4.ar _ _ _ _ o2, ga, bo, un F1 bo, _, g1, d1, g2, un_le s1.le s1.gen.bo, GenOk.unB (c := ⟨X.K, X.mg, ga, bo⟩) s1.gen, unB_rep (c := ⟨X.K, X.mg, ga, bo⟩) s1.le s1.gen.bo r1, o2, fun v F2 H2 s2 r2 => ?_⟩⟩
    exact q v F1 H2 (s1.trans (Stp.unB (c := ⟨X.K, X.mg, ga, bo⟩) s1.gen s1.le s2)) (imm_any hi r2)
  · exact absurd o not_ok_stuck
/-- f(k = v, ..), as dcI -/
def eCallIK (Fs : List D → M D) (ix : List Nat) (fs : Es) : E := fun δ => fs δ >>= fun ds => Fs (pick ix (ds.map unB)) >>= fun d => if d.imm then pure d else stuck
theorem dcIK0 {ix : List Nat} (C : Cal X.prog X.w X.K X.mg X.base j x st ps Fs) (hr : Room k X.A) (hgd : X.A.guards = some []) (hkw : KwOk x st ps ks 0 ix) (hks : PK X kws (tAs ⟨X.K, X.mg, ga, bo⟩ gs)) (hn2 : EsN ks.length gs) (hj : j ≤ k := by decide)
    (hg : Gl X x := by rfl) (hall : (backToKw pos (keywordEach kws X.env)).all (·.1.isSome) = true := by rfl) (hke : (backToKw pos (keywordEach kws X.env)).filterMap (·.1) = ks := by rfl)
    (hdb : (x == ("__debug__" : Str)) = false := by decide) (hpl : ((backTo pos (starEach [] X.env)).any (·.1) || (backToKw pos (keywordEach kws X.env)).any (·.1.isNone)) = false := by rfl) :
    PE X (.Call (.Name x p) [] kws pos) (tP ⟨X.K, X.mg, ga, bo⟩ (eCallIK Fs ix gs)) := by
  obtain ⟨f, fd, h1, h2, h3, h4⟩ := C.ex
  refine (pe_callQK0 (h4.q.mono hj) hr hgd h1 h2.kp (kwB_of h2 hkw) hks hg hall hke hdb hpl).imp fun σ H Q ⟨H0, F1, δ, g, d, g', w, o, q⟩ => ?_
  obtain ⟨ds, g1, o1, o⟩ := ok_bind.mp o
  obtain ⟨d1, g2, o2, o⟩ := ok_bind.mp o
  split at o
  · rename_i hi
    obtain ⟨rfl, rfl⟩ := ok_pure.mp o
    refine ⟨H0, F1, δ, g, ds, g1, w, o1, fun vs F1 H1 s1 r1 => ⟨by rw [r1.length]; exact hn2 _ _ _ _ o1, ga, bo, un F1 bo, _, g1, d1, g2, un_le s1.le s1.gen.bo, GenOk.unB (c := ⟨X.K, X.mg, ga, bo⟩) s1.gen, pick_rep (unB_rep (c := ⟨X.K, X.mg, ga, bo⟩) s1.le s1.gen.bo r1), o2, fun v F2 H2 s2 r2 => ?_⟩⟩
    exact q v F1 H2 (s1.trans (Stp.unB (c := ⟨X.K, X.mg, ga, bo⟩) s1.gen s1.le s2)) (imm_any hi r2)
  · exact absurd o not_ok_stuck
end
theorem FnG.stuck {P : Program} {w : World} {K : PySem.W.Frag} {mg : Str → Option Value} {base : Heap} {k : Nat} {f : Addr} {fd : FuncData} {ps : List Str} : FnG P w K mg base k f fd ps (fun _ => stuck) :=
  ⟨⟨fun A outer s H args us vs Q hr hg he hb hv hl ⟨ga, bo, F, ds, g, d, g', s', gn, r, o, q⟩ => absurd o not_ok_stuck⟩, fun ds g d g' o => absurd o not_ok_stuck⟩
/-- the promise of what is new: all that the outcome is made of was not there before -/
def spN (K : PySem.W.Frag) (mg : Str → Option Value) (Fs : List D → M D) (vs : List V) (H : Hp) (Q : VK) : Prop := ∃ (ga : Option Addr) (bo : Hp) (F : Hp) (ds : List D) (g : Gs) (d : D) (g' : Gs), Same F H ∧ GenOk ⟨K, mg, ga, bo⟩ F H g ∧ RepAll ⟨K, mg, ga, bo⟩ F vs ds ∧ nbs ds = true ∧ Ok (Fs (ds.map wrapB)) g d g' ∧ d.nb = true ∧
  ∀ v F' H', Stp ⟨K, mg, ga, F⟩ (fun _ => none) H F' H' g' → Rep ⟨K, mg, ga, bo⟩ F' v d → Q v H'
theorem wrap_all {c c' : C} {F : Hp} (h1 : c'.mg = c.mg) (h2 : c'.ga = c.ga) (h3 : c'.bo = F) : ∀ {vs : List V} {ds : List D}, RepAll c F vs ds → nbs ds = true → RepAll c' (fun _ => none) vs (ds.map wrapB)
  | _, _, .nil, _ => .nil
  | _, _, .cons (d := d) r t, n => by
    simp only [nbs, Bool.and_eq_true] at n
    refine .cons ?_ (wrap_all h1 h2 h3 t n.2)
    have r' := Rep.re h1 h2 d _ n.1 r
    unfold wrapB
    split
    · rename_i h
      exact imm_any h r'
    · exact .bor (by rw [h3]; exact r')
theorem FnG.new {P : Program} {w : World} {K : PySem.W.Frag} {mg : Str → Option Value} {base : Heap} {k : Nat} {f : Addr} {fd : FuncData} {ps : List Str} {Fs : List D → M D} (G : FnG P w K mg base k f fd ps Fs) : FnQ P w K mg base k f fd ps (spN K mg Fs) :=
  G.q.imp fun vs H Q hl ⟨ga, bo, F, ds, g, d, g', s, gn, r, n, o, nd, q⟩ => ⟨ga, F, fun _ => none, ds.map wrapB, g, d, g', fun a o e => (by cases e), ⟨fun a m => ⟨rfl, (gn.gen a m).2⟩, s, fun a m => (gn.gen a m).1⟩, wrap_all (c := ⟨K, mg, ga, bo⟩) (c' := ⟨K, mg, ga, F⟩) rfl rfl rfl r n, o,
    fun v F' H' s' r' => q v F' H' s' (Rep.re (c := ⟨K, mg, ga, F⟩) (c' := ⟨K, mg, ga, bo⟩) rfl rfl d v nd r')⟩
end DL

/-! ## DEsc -/
set_option Elab.async false
set_option autoImplicit false
set_option linter.all false
set_option maxRecDepth 100000
set_option maxHeartbeats 2000000
/-! DEsc: an own error class whose __init__(self, value) says super().__init__(value); self.value = value. -/
namespace PySem
namespace EscX
open PySem.W PySem.Calls PyProof.Rows PySem.HandSPX
/-! ### the text of __init__ -/
def iA : Arguments := { posonlyargs := [], args := [{ arg := "self", annotation := none, pos := ⟨4, 17, 4, 21⟩ }, { arg := "value", annotation := none, pos := ⟨4, 23, 4, 28⟩ }], vararg := none, kwonlyargs := [], kw_defaults := [], kwarg := none, defaults := [] }
def iB : List Stmt := [.Expr (.Call (.Attribute (.Call (.Name "super" ⟨5, 8, 5, 13⟩) [] [] ⟨5, 8, 5, 15⟩) "__init__" ⟨5, 8, 5, 24⟩) [.Name "value" ⟨5, 25, 5, 30⟩] [] ⟨5, 8, 5, 31⟩) ⟨5, 8, 5, 31⟩, .Assign [.Attribute (.Name "self" ⟨6, 8, 6, 12⟩) "value" ⟨6, 8, 6, 18⟩] (.Name "value" ⟨6, 21, 6, 26⟩) ⟨6, 8, 6, 26⟩]
def iS : Scope := { kind := .function, names := [(PySem.Str.ofString "self", .local), (PySem.Str.ofString "value", .local), (PySem.Str.ofString "__class__", .free), (PySem.Str.ofString "super", .globalImplicit)], isGenerator := false, isCoroutine := false, more := [] }
/-- what the written part says of __init__ at fI, of the class D in whose text it stands -/
structure EscI (prog : Program) (K : Frag) (mg : Str → Option Value) (D fI : Addr) : Prop where
  tI : typeIn K (.ref fI) = some (.type "function")
  sup : mg "super" = none
  clD : ∃ cd, clsIn K D = some cd
  op : nsIn K cStatics "thirdparty.any" = some none
  top : (prog.main.scope.names.lookup ("super" : Str)).isSome = false
  fn : ∃ (oc : Value) (od : Option Addr) (doc pm : Value) (an : Option Addr) (cda cc : Addr) (ct : Value) (osl : Array (Option Value)),
    K.lookup fI = some ⟨oc, od, .func (ksFn "__init__" "EscapeError.__init__" iA iB iS .none .none doc pm an (.ref cda) ct cc), osl⟩ ∧ codeIn K (.ref cda) "EscapeError.__init__" = true ∧
    (∃ (ccl : Value) (cdd : Option Addr) (vs : Array Value) (ccs : Array (Option Value)) (file : Str) (tf : Tok), K.lookup cda = some ⟨ccl, cdd, .fields vs, ccs⟩ ∧ vs[2]? = some (.str file tf) ∧ ((prog.main.file : Str) == file) = true) ∧
    (∃ (cl : Value) (cld : Option Addr) (csl : Array (Option Value)), K.lookup cc = some ⟨cl, cld, .cell (some (.ref D)), csl⟩)
/-- what the written part says of the class at C -/
structure EscC (K : Frag) (D fI C : Addr) : Prop where
  cls : ∃ nm q N bs bm sn sub ab col dd k0 k1 k2 k3 k5, K.lookup C = some (excClassObj nm q C N bs bm true sn sub ab col dd k0 k1 k2 k3 k5 "ValueError.__new__") ∧ refsVE bm = true
  sa : findIn K (.ref C) "__setattr__" = some (some (.builtin "object.__setattr__"))
  ga : findIn K (.ref C) "__getattribute__" = some (some (.builtin "BaseException.__getattribute__"))
  gg : findIn K (.ref C) "__getattr__" = some none
  noN : findIn K (.ref C) "value" = some none
  iC : findIn K (.ref C) "__init__" = some (some (.ref fI))
  kC : keepIn K (.ref C) = true
  exC : subIn K (.ref C) (.type "BaseException") = some true
  veC : subIn K (.ref C) (.type "ValueError") = some true
  tyC : typeIn K (.ref C) = some (.type "type")
  hdC : hasDictIn K C = true
  sub : mroIn K C (.ref D) = some true
  sup : ks_superIn K C D "__init__" = some (some (.builtin "ValueError.__init__"))
theorem one_size (v : Value) : [v].length ≤ sizeLine := by
  rw [sizeLine_eq]
  exact (by decide : 1 ≤ 16777216)
/-- what __init__ leaves of a fresh exception at x -/
structure InitEnd (h h' : Heap) (x C dx t1 : Addr) (v : Value) : Prop where
  keep : ∀ b o, b ≠ x → h.get? b = some o → h'.get? b = some o
  obj : h'.get? x = some { cls := .ref C, dict := some dx, data := .fields #[.ref t1, .none, .none, .none, .bool false, .none] }
  dbig : h.objs.size ≤ dx
  dne : dx ≠ x
  ns : h'.Ns1 dx (fun y => if y = "value" then some v else none)
structure OwnMade (h h' : Heap) (e C d : Addr) (v : Value) : Prop where
  keep : ∀ b o, h.get? b = some o → h'.get? b = some o
  new : h.objs.size ≤ e
  obj : ∃ t1 : Addr, h'.get? e = some { cls := .ref C, dict := some d, data := .fields #[.ref t1, .none, .none, .none, .bool false, .none] }
  dbig : h.objs.size ≤ d
  dne : d ≠ e
  ns : h'.Ns1 d (fun y => if y = "value" then some v else none)
section
variable {prog : Program} {w : World} {A : Around} {E : Value → Shared → Prop} {R : Result → Shared → Prop} {s : Shared} {K : Frag} {mg mb : Str → Option Value} {C D fI : Addr}
theorem esc_init (TI : EscI prog K mg D fI) (T : EscC K D fI C) {x t0 : Addr} {v : Value} (X : K.In s.heap) (hg : s.heap.Ns mainGlobals mg) (hb : s.heap.Ns builtinsNs mb) (boot : ∀ y : Str, y ≠ "__name__" → mb y = bootBuiltins y) (hlim : s.heap.NoLimit)
    (hx : s.heap.get? x = some (excO C t0)) (hnx : K.lookup x = none) (hroom : A.depth < recursionLimit) (hq : ∀ h' tk dx t1, InitEnd s.heap h' x C dx t1 v → R (.ok (.ret .none)) { s with heap := h', toks := tk }) :
    codeAny (model prog w) A (.call (.ref fI) ⟨[.ref x, v], []⟩) R s := by
  obtain ⟨oc, od, doc, pm, an, cda, cc, ct, osl, ho, hcd, ⟨ccl, cdd, vs, ccs, file, tf, hcode, hvs, hfile⟩, ⟨cl, cld, csl, hcell⟩⟩ := TI.fn
  obtain ⟨nm, q, N, bs, bm, sn, sub, ab, col, dd, k0, k1, k2, k3, k5, hC, hbm⟩ := T.cls
  obtain ⟨cdD, hclD⟩ := TI.clD
  have hcl : clsIn K C = some { name := nm, bases := bs, mro := .ref C :: bm, ns := N, qualname := q, hasDict := true, slotNames := sn, subclasses := sub, abstract := ab, collection := col, hasDel := false } := by unfold clsIn; rw [hC] <;> rfl
  refine ks_codeAny_call_defAt (fd := ksFn "__init__" "EscapeError.__init__" iA iB iS .none .none doc pm an (.ref cda) ct cc) (body := iB) (binds := [("self", .ref x), ("value", v)]) hroom (X _ _ ho) rfl hlim (codeRec_of X hcd) rfl
    (BindsTo.of_eq (by first | rfl | with_unfolding_all rfl)) (show ∀ y ∈ iS.names, y.2 ≠ .cell by decide) (fun y hy => ?_) (fun h₁ hn k => ?_) rfl rfl rfl
  · have e : y = (PySem.Str.ofString "self", .ref x) ∨ y = (PySem.Str.ofString "value", v) := by simpa using hy
    rcases e with rfl | rfl
    · rfl
    · rfl
  have X₁ : K.In h₁ := X.keeps k
  have hx₁ := k _ _ hx
  have hxL : s.heap.objs.size ≠ x := Nat.ne_of_gt (Heap.lt_size hx)
  obtain ⟨oD, hD1, hD2⟩ : ∃ oD, h₁.get? D = some oD ∧ oD.data = .cls cdD := by
    unfold clsIn at hclD
    split at hclD
    · rename_i c d cd' sl ho'
      cases hclD
      exact ⟨_, X₁ _ _ ho', rfl⟩
    · cases hclD
  have hv1 : ([(PySem.Str.ofString "self", Value.ref x), (PySem.Str.ofString "value", v)] : List (Str × Value)).reverse.lookup (PySem.Str.ofString "self") = some (Value.ref x) := by rfl
  have hv2 : ([(PySem.Str.ofString "self", Value.ref x), (PySem.Str.ofString "value", v)] : List (Str × Value)).reverse.lookup (PySem.Str.ofString "value") = some v := by rfl
  have hks : iS.names.lookup ("super" : Str) = some .globalImplicit := by rfl
  have hkc : iS.names.lookup ("__class__" : Str) = some .free := by rfl
  have hka : iS.names.lookup ("self" : Str) = some .local := by rfl
  have hkv : iS.names.lookup ("value" : Str) = some .local := by rfl
  show wpAt _ _ (.func iB (ksEnv "EscapeError.__init__" iS s.heap.objs.size fI (.ref cda) cc)) (execs iB (ksEnv "EscapeError.__init__" iS s.heap.objs.size fI (.ref cda) cc)) _ _ _
  refine ks_wpAt_execs_cons (ks_wpAt_Expr_any (ks_wpAt_MethodCall ?_))
  refine ks_wpAt_super_base (env := ksEnv "EscapeError.__init__" iS s.heap.objs.size fI (.ref cda) cc) hks hkc (by decide) rfl (X₁ _ _ ho) rfl (by rfl) rfl (X₁ _ _ hcode) rfl hvs hfile TI.top ?_
  refine ks_loadName_global rfl hks (loadGlobal_builtin (env := ksEnv "EscapeError.__init__" iS s.heap.objs.size fI (.ref cda) cc) (hg.keeps k) TI.sup (hb.keeps k) ((boot _ (by decide)).trans (by decide +kernel)) ⟨rfl, ?_⟩)
  refine wpAny_loadName_free rfl hkc rfl ⟨_, X₁ _ _ hcell, rfl⟩ ?_
  refine wpAny_loadName_local rfl hka hn hv1 ?_
  refine ks_wpAny_isType_cls hD1 hD2 ⟨rfl, ?_⟩
  refine ks_wpAny_call_super hD1 hD2 hx₁ rfl (fun c e => by cases e) (looks_mroIn X₁ T.sub) (fun h2 e2 k2 => ?_)
  have X2 : K.In h2 := X₁.keeps k2
  have I2 : InstAt h2 x (excO C t0) C none := ⟨k2 _ _ hx₁, rfl, rfl, trivial⟩
  have hsup := T.sup
  unfold ks_superIn at hsup
  rw [hcl] at hsup
  refine kxs_getMethod kxs_ValueError e2 (looks_opaque X2 TI.op) (l₀ := .ref C :: bm) (fun A Q E s k q => wpAny_bind ((looks_clsIn X2 hcl) A _ E s k (wpAny_pure q))) rfl X2 hsup (I2.type.andThen (looks_subIn X2 T.veC)) (ks_ne X2 I2 hcl) (by decide) ?_
  have k3 : ∀ b o, h2.get? b = some o → (h2.push (kxs_mw "ValueError.__init__" x)).get? b = some o := fun b o e => Heap.get?_push_of_some _ e
  have hu : (h2.push (kxs_mw "ValueError.__init__" x)).get? h2.objs.size = some (kxs_mw "ValueError.__init__" x) := Heap.get?_push_at rfl rfl
  have he3 : (h2.push (kxs_mw "ValueError.__init__" x)).get? x = some (excO C t0) := k3 _ _ (k2 _ _ hx₁)
  refine kxs_callWith (i := "ValueError.__init__") (x := x) (by rfl) (evalArgs_plain (spliced_cons (wpAny_Name (wpAny_loadName_local rfl hkv ((hn.keeps k2).keeps k3) hv2 (spliced_nil ⟨hu, ?_⟩)) (by decide))))
  refine wpAny_call (codeAny_of_tree ?_)
  show wpAny _ _ (callAny (.ref h2.objs.size) ⟨[v], []⟩) _ _ _
  simp only [callAny]
  refine wpAny_bind (wpAny_load hu ?_)
  simp only [kxs_mw, show (Value.type "method-wrapper" == Value.type "method" || Value.type "method-wrapper" == Value.type "builtin_function_or_method" || Value.type "method-wrapper" == Value.type "method-wrapper") = true by decide, if_true]
  refine KFB.if_so (by decide) ?_
  refine wpAny_bind (check_bound_init PySem.F.excBase_ValueError.toExcCallFacts (k3 _ _ (X2 _ _ hC)) he3 rfl ?_)
  refine wpAny_bind (wpAny_pure (wpAny_pure ?_))
  refine ⟨plainId_quiet PySem.F.excBase_ValueError.init.plain _, codeAny_builtin PySem.F.excBase_ValueError.initEntry ?_⟩
  refine exc_init_tree (cls := .ref C) (t0 := t0) (dv := none) (c2 := .none) (c3 := .none) (b4 := .bool false) he3 (one_size v) (fun h4 k4 hx4 _ => ?_)
  -- self.value = value
  have hL4 : ∀ o, h₁.get? s.heap.objs.size = some o → h4.get? s.heap.objs.size = some o := fun o e => k4 _ _ hxL (k3 _ _ (k2 _ _ e))
  have hn4 := hn.at hL4
  have X4 : K.In h4 := fun a o e => k4 a o (fun z => by rw [z, hnx] at e; cases e) (k3 _ _ (X2 _ _ e))
  refine ks_wpAt_execs_cons (wpAt_of_wpAny (plainObj_wpAny_Assign_Attribute ?_))
  refine wpAny_Name (wpAny_loadName_local rfl hkv hn4 hv2 (wpAny_Name (wpAny_loadName_local rfl hka hn4 hv1 ?_) (by decide))) (by decide)
  refine set_plain X4 (od := none) ⟨hx4, rfl, rfl, trivial⟩ T.sa ?_
  refine exc_osa X4 hx4 hcl (show refsVE (.ref C :: bm) = true from hbm) rfl T.noN (fun h5 tk5 dx k5 dn dne hx5 hn5 => ?_)
  refine wpAt_of_wpAny (wpAny_execs_nil (hq h5 tk5 dx _ ⟨fun b o hb e => k5 b o hb (k4 b o hb (k3 _ _ (k2 _ _ (k _ _ e)))), hx5, ?_, dne, hn5⟩))
  exact Nat.le_of_lt (Nat.lt_of_lt_of_le hn4.lt dn)
theorem esc_made (TI : EscI prog K mg D fI) (T : EscC K D fI C) {v : Value} (X : K.In s.heap) (hg : s.heap.Ns mainGlobals mg) (hb : s.heap.Ns builtinsNs mb) (boot : ∀ y : Str, y ≠ "__name__" → mb y = bootBuiltins y) (hlim : s.heap.NoLimit) (hroom : A.depth + 1 < recursionLimit)
    (hq : ∀ h' tk e d, OwnMade s.heap h' e C d v → R (.ok (.ret (.ref e))) { s with heap := h', toks := tk }) :
    codeAny (model prog w) A (.call (.ref C) ⟨[v], []⟩) R s := by
  obtain ⟨nm, q, N, bs, bm, sn, sub, ab, col, dd, k0, k1, k2, k3, k5, hC, hbm⟩ := T.cls
  obtain ⟨hp, g, dr, tk, os⟩ := s
  have k : ∀ b o, hp.get? b = some o → ((hp.push (kdv_tup [v])).push (excO C hp.objs.size)).get? b = some o := fun b o e => Heap.get?_push_of_some _ (Heap.get?_push_of_some _ e)
  have hget : ((hp.push (kdv_tup [v])).push (excO C hp.objs.size)).get? (hp.objs.size + 1) = some (excO C hp.objs.size) := by heap_get
  have hnx : K.lookup (hp.objs.size + 1) = none := by
    cases e : K.lookup (hp.objs.size + 1) with
    | none => rfl
    | some o =>
      have z : hp.get? (hp.objs.size + 1) = some o := X _ _ e
      exact absurd (Nat.lt_of_succ_lt (Heap.lt_size z)) (Nat.lt_irrefl _)
  refine call_own F.excBase_ValueError (fun X => refsVE_contains X bm hbm) (X _ _ hC) (looks_findIn X T.iC) (fun self => bind_fn X self TI.tI) (one_size v) ?_
  refine esc_init (s := ⟨(hp.push (kdv_tup [v])).push (excO C hp.objs.size), g, dr, tk, os⟩) TI T (X.keeps k) (hg.keeps k) (hb.keeps k) boot (hlim.keeps k) hget hnx ?_ fun h' tk' dx t1 ⟨k', hx, dn, dne, hns⟩ => ?_
  · show A.depth + 1 < recursionLimit
    exact hroom
  · have old : ∀ b o, hp.get? b = some o → h'.get? b = some o := fun b o e => k' b o (Nat.ne_of_lt (Nat.lt_succ_of_lt (Heap.lt_size e))) (k b o e)
    have z : hp.objs.size + 1 + 1 ≤ dx := by
      first
        | (simpa only [Heap.size_push] using dn)
        | exact dn
        | (have q := dn; rw [Heap.size_push, Heap.size_push] at q; exact q)
    exact ⟨rfl, hq h' tk' (hp.objs.size + 1) dx ⟨old, Nat.le_succ _, ⟨_, hx⟩, Nat.le_trans (Nat.le_trans (Nat.le_succ _) (Nat.le_succ _)) z, dne, hns⟩⟩
end
end EscX
end PySem

/-! ## DExc -/
set_option Elab.async false
set_option autoImplicit false
set_option linter.all false
set_option maxRecDepth 100000
set_option maxHeartbeats 4000000
/-! DExc: raise, calls that may raise, try .. except, what is caught, by plain data. -/
namespace DL
open PySem PySem.Spec PyProof.Rows L2
abbrev valueS : Str := PySem.Str.ofString "value"
/-- an own error class, by its name -/
structure ErrC (P : Program) (K : PySem.W.Frag) (mg : Str → Option Value) (x : Str) (C : Addr) : Prop where
  gC : mg x = some (.ref C)
  txt : ∃ D fI, PySem.EscX.EscI P K mg D fI ∧ PySem.EscX.EscC K D fI C
theorem relO_value {v : V} {v' : Value} (r : RelV v v') (f : Str) : RelO (List.lookup f [(valueS, v)]) (if f = "value" then some v' else none) := by
  by_cases hw : f = valueS
  · subst hw
    rw [if_pos rfl]
    have q : List.lookup valueS [(valueS, v)] = some v := by simp [List.lookup]
    rw [q]
    exact r
  · rw [if_neg hw]
    have qw : (f == valueS) = false := by simpa using hw
    have q2 : List.lookup f [(valueS, v)] = none := by simp [List.lookup, qw]
    rw [q2]
    trivial
section
variable {X : Cx} {x : Str} {C : Addr}
/-- X(e) -/
def tMkE (C : Addr) (ta : TA) : L2.St → Hp → XK → Prop := fun σ H Q => ta σ H fun vs H1 => ∃ v, vs = [v] ∧ ∀ d, H1 d = none → Q (.ref C) (some d) (upd H1 d (.xd [(valueS, v)]))
theorem pmk_esc {a : Expr} {ta : TA} {p pos : Pos} {k : Nat} (T : ErrC X.prog X.K X.mg x C) (hr : Room k X.A) (ha : PA X [a] ta) (hg : Gl X x) (hdb : (x == ("__debug__" : Str)) = false)
    (he : starEach (a :: []) X.env = (false, eval a X.env) :: starEach [] X.env := by rfl) (hpl : (backTo pos (starEach [] X.env)).any (·.1) = false := by rfl) :
    PMk X (.Call (.Name x p) [a] [] pos) (tMkE C ta) := by
  intro pins s σ H Q I h
  obtain ⟨D, fI, TI, TC⟩ := T.txt
  refine wpAny_Call_Name_kw (ld_glob I hg T.gC ?_ hdb)
  refine PySem.W.callWith_K (h₀ := X.base) I.ok.mod.kin TC.kC (thn (ha.run pos pins s σ H _ I h) fun us s1 hh => ?_) he hpl
  obtain ⟨vs, H1, I1, r1, v, ev, q1⟩ := hh
  subst ev
  refine ⟨I1.kIn, ?_⟩
  cases r1 with
  | cons rv rn =>
    rename_i v' us'
    cases rn
    show wpAny _ _ (call (.ref C) [v']) _ _ _
    have hlim := I1.nolimit
    have kin := I1.kIn
    have bk := I1.bk
    obtain ⟨mb, bns, boot⟩ := I1.ok.mod.blt
    have glob := I1.ok.mod.glob
    obtain ⟨hp, g, dr, tk, os⟩ := s1
    refine wpAny_call (PySem.EscX.esc_made TI TC kin (glob.keeps bk) (bns.keeps bk) boot hlim (by have := hr.dp; omega) fun h' tk' e d M => ?_)
    show MkP X pins σ Q (.ref e) ⟨h', g, dr, tk', os⟩
    obtain ⟨t1, hoe⟩ := M.obj
    have hns := M.ns
    obtain ⟨G', g1, g2⟩ := restrict h' fun b => decide (b ≠ e)
    have gk : ∀ b, b ≠ e → G'.get? b = h'.get? b := fun b hb => g1 b (decide_eq_true hb)
    have ge : G'.get? e = none := g2 e (by simp)
    have old : ∀ b o, hp.get? b = some o → G'.get? b = some o := fun b o q => (gk b (Nat.ne_of_lt (Nat.lt_of_lt_of_le (Heap.lt_size q) M.new))).trans (M.keep b o q)
    have ob : ObjOk X.prog X.w (upd H1 d (.xd [(valueS, v)])) G' d (.xd [(valueS, v)]) :=
      ⟨_, hns.at (fun o q => (gk d M.dne).trans q), fun f => relO_value rv f⟩
    have J : Inv X pins σ (upd H1 d (.xd [(valueS, v)])) ⟨G', g, dr, tk', os⟩ := I1.laid (t' := tk') old M.dbig ob
    refine ⟨e, _, _, ⟨G', g, dr, tk', os⟩, _, .ref C, some d, rfl, J, fun b o q => ?_, ge, hoe, ⟨rfl, rfl⟩, rfl, rfl, ?_, rfl, I1.bare, raises_own TC.exC TC.tyC, q1 d (I1.hok.fresh M.dbig)⟩
    · by_cases hb : b = e
      · have q' : G'.get? b = some o := q
        rw [hb, ge] at q'; cases q'
      · exact (gk b hb).symm.trans q
    · rw [upd_ne (Ne.symm M.dne)]
      exact I1.hok.fresh M.new
end

/-! ### a def that may raise -/
/-- x(e) is raised: told as an end of its own -/
def sThr (x : Str) (f : E) : S := fun δ => f δ >>= fun d => pure (.rt (.thr x d))
def D.isThr : D → Bool
  | .thr _ _ => true
  | _ => false
/-- a call whose outcome is let fall, or that raises -/
def sDoX (Fs : List D → M D) (fs : Es) : S := fun δ => fs δ >>= fun ds => Fs ds >>= fun d => if d.isThr then pure (.rt d) else pure (.nx δ)
/-- what is wanted where x(e) is raised -/
def RaisedAt (c : C) (F0 H0 : Hp) (g : Gs) (x : Str) (e : D) (W : Value → Option Addr → Hp → Prop) : Prop :=
  ∀ C dd u F' H', c.mg x = some (.ref C) → Stp c F0 H0 F' H' g → F' dd = some (.xd [(valueS, u)]) → Rep c F' u e → W (.ref C) (some dd) H'
/-- a statement that may raise -/
def tSB (c : C) (W : Value → Option Addr → Hp → Prop) (s : S) : TS := fun D σ H => ∃ F0 H0 F δ g r g', Wd c H0 F H σ δ g ∧ Stp c F0 H0 F H g ∧ Ok (s δ) g r g' ∧ match r with
  | .nx δ' => ∀ σ' F' H', Wd c H0 F' H' σ' δ' g' → Stp c F0 H0 F' H' g' → Same F F' → D.nx σ' H'
  | .rt d => (∀ v F' H', Stp c F0 H0 F' H' g' → Rep c F' v d → D.rt v H') ∧ ∀ x e, d = .thr x e → RaisedAt c F0 H0 g' x e W
  | .bk δ' => ∀ σ' F' H', Wd c H0 F' H' σ' δ' g' → Stp c F0 H0 F' H' g' → Same F F' → D.bk σ' H'
  | .ct δ' => ∀ σ' F' H', Wd c H0 F' H' σ' δ' g' → Stp c F0 H0 F' H' g' → Same F F' → D.ct σ' H'
theorem tSB_tS {c : C} {W : Value → Option Addr → Hp → Prop} {s : S} : ∀ D σ H, tSB c W s D σ H → tS c s D σ H := fun D σ H ⟨F0, H0, F, δ, g, r, g', w, sp, o, q⟩ => by
  refine ⟨F0, H0, F, δ, g, r, g', w, sp, o, ?_⟩
  cases r with
  | rt d => exact q.1
  | nx _ => exact q
  | bk _ => exact q
  | ct _ => exact q
/-- a call's promise, raising or not -/
def spB (K : PySem.W.Frag) (mg : Str → Option Value) (Fs : List D → M D) (vs : List V) (H : Hp) (Q : VK) (E : XK) : Prop := ∃ (ga : Option Addr) (bo : Hp) (F : Hp) (ds : List D) (g : Gs) (d : D) (g' : Gs), Same F H ∧ GenOk ⟨K, mg, ga, bo⟩ F H g ∧ RepAll ⟨K, mg, ga, bo⟩ F vs ds ∧ Ok (Fs ds) g d g' ∧
  (∀ v F' H', Stp ⟨K, mg, ga, bo⟩ F H F' H' g' → Rep ⟨K, mg, ga, bo⟩ F' v d → Q v H') ∧ ∀ x e, d = .thr x e → RaisedAt ⟨K, mg, ga, bo⟩ F H g' x e E
structure FnB (P : Program) (w : World) (K : PySem.W.Frag) (mg : Str → Option Value) (base : Heap) (k : Nat) (f : Addr) (fd : FuncData) (ps : List Str) (Fs : List D → M D) : Prop where
  run : ∀ (A : Around) (outer : List Env) (s : Shared) (H : Hp) (args : Args) (us : List Value) (vs : List V) (Q : VK) (E : XK), Room k A → A.guards = some [] → Env0 P w K mg base A outer s H → BindsTo s fd args (ps.zip us) → Vals vs us → vs.length = ps.length → spB K mg Fs vs H Q E →
    codeAny (model P w) A (.call (.ref f) args) (CR (L2.CX P w) outer P w H s Q E) s
  ar : ∀ ds g d g', Ok (Fs ds) g d g' → ds.length = ps.length
section
variable {P : Program} {w : World} {K : PySem.W.Frag} {mg : Str → Option Value} {base : Heap} {k : Nat} {f : Addr} {fd : FuncData} {ps : List Str}
theorem FnB.mono {j : Nat} {Fs : List D → M D} (F : FnB P w K mg base j f fd ps Fs) (h : j ≤ k) : FnB P w K mg base k f fd ps Fs := ⟨fun A outer s H args us vs Q E hr => F.run A outer s H args us vs Q E (hr.mono h), F.ar⟩
theorem fnB_of {x qual : Str} {st : Stmt} {N : List Str} {s : S} (F : Fun K x qual st f fd) (S : FnScope N ps (defScope st)) (hN : ps.length ≤ N.length := by decide)
    (hbody : ∀ (cdv : Value) (A : Around) (outer : List Env) (sh : Shared) (H : Hp) (ga : Option Addr) (bo : Hp) (E : XK), Room k (A.deeper (envOfC qual (defScope st) sh.heap.objs.size f cdv)) → (A.deeper (envOfC qual (defScope st) sh.heap.objs.size f cdv)).guards = some [] →
      Takes (cxOf (L2.CX P w) P w K mg base N qual (defScope st) f cdv A outer sh H E) (fun cls d _ H => E cls d H) →
      PSs (cxOf (L2.CX P w) P w K mg base N qual (defScope st) f cdv A outer sh H E) (defBody st) (tSB ⟨K, mg, ga, bo⟩ E s)) : FnB P w K mg base (k + 1) f fd ps (fn N.length ps.length s) := by
  obtain ⟨oc, od, kV, doc, pm, an, cdv, ct, osl, rfl, lk, hcd⟩ := F.ex
  refine ⟨fun A outer s H args us vs Q E hr hgd e0 hb r hl ⟨ga, bo, F1, ds, g, d, g', le, gen, ra, o, q1, q2⟩ => ?_, fun ds g d g' o => fn_ar o⟩
  have h1 := hbody cdv A outer s H ga bo E (hr.deeper _) hgd (takes_of (E := E) rfl rfl rfl rfl)
  have hd : ds.length = ps.length := by rw [← ra.length]; exact hl
  unfold fn at o
  rw [if_pos hd] at o
  obtain ⟨fl, g1, o1, o2⟩ := ok_bind.mp o
  have w0 := start_wd (N := N) le gen ra (by rw [hd]; exact hN)
  have h2 : tSB ⟨K, mg, ga, bo⟩ E _ { nx := fun _ H' => Q .non H', rt := Q } (start N vs) H := ⟨F1, H, F1, _, g, fl, g1, w0, .refl le gen, o1, by
    cases fl with
    | nx δ' =>
      obtain ⟨rfl, rfl⟩ := ok_pure.mp o2
      exact fun σ' F' H' w' sp' _ => q1 .non F' H' sp' .non
    | rt d' =>
      obtain ⟨rfl, rfl⟩ := ok_pure.mp o2
      exact ⟨q1, q2⟩
    | bk δ' => exact absurd o2 not_ok_stuck
    | ct δ' => exact absurd o2 not_ok_stuck⟩
  have KX : K.In s.heap := e0.mod.kin.keeps fun b o e => (e0.bs b o e).1
  have hkind : ∀ y ∈ ps.zip us, (defScope st).names.lookup y.1 = some .local ∨ ((defScope st).names.lookup y.1 = some .cell ∧ ((cellsFrom (s.heap.objs.size + 1) (defScope st).names []).lookup y.1).isSome = true) := by
    rintro ⟨n, v⟩ hy
    rcases S.par n (List.of_mem_zip hy).1 with q | q
    · exact .inl q
    · exact .inr ⟨q, PySem.W.cellsFrom_some _ _ _ (.inl q)⟩
  refine codeAny_call_function (hroom := hr.depth) (KX _ _ lk) rfl S.co S.gen rfl (PySem.W.codeRec_of KX hcd)
    (hb _ _ _ _ (wpAny_newFunctionEnv_cells S.kind hkind fun env he s1 x => ?_))
  subst he
  refine ⟨(e0.mod.nolimit.keeps fun b o e => (e0.bs b o e).1).keeps x.toInCall.keep, codeAny_func ?_⟩
  have I : Inv (cxOf (L2.CX P w) P w K mg base N qual (defScope st) f cdv A outer s H E) [] (start N vs) H s1 :=
    inv_start S hr.hd e0 hl r x
  refine wpAny_mono (h1.run [] s1 (start N vs) H _ I h2) (fun fl s' hs => ?_) fun e s' hs => hs
  cases fl with
  | ret u =>
    obtain ⟨v, σ', H', J, rv, q⟩ := hs
    exact ⟨v, H', J.os, J.bare, J.base, J.hok, rv, q⟩
  | next =>
    obtain ⟨σ', H', J, q⟩ := hs
    exact ⟨V.non, H', J.os, J.bare, J.base, J.hok, rfl, q⟩
  | brk =>
    obtain ⟨_, _, _, q⟩ := hs
    exact q.elim
  | cont =>
    obtain ⟨_, _, _, q⟩ := hs
    exact q.elim
end
/-- a def that may be called at level k: its function, raising or not -/
structure CalB (P : Program) (w : World) (K : PySem.W.Frag) (mg : Str → Option Value) (base : Heap) (k : Nat) (x : Str) (st : Stmt) (ps : List Str) (Fs : List D → M D) : Prop where
  ex : ∃ (f : Addr) (fd : FuncData), mg x = some (.ref f) ∧ Fun K x x st f fd ∧ Binds K fd ps [] ∧ FnB P w K mg base k f fd ps Fs
theorem At.calB {P : Program} {w : World} {K : PySem.W.Frag} {mg : Str → Option Value} {base : Heap} {k : Nat} {x : Str} {st : Stmt} {ps : List Str} {Fs : List D → M D} (a : At K mg x st ps) (h : ∀ f fd, Fun K x x st f fd → FnB P w K mg base k f fd ps Fs) : CalB P w K mg base k x st ps Fs := by
  obtain ⟨f, fd, h1, h2, h3⟩ := a.ex
  exact ⟨f, fd, h1, h2, h3, h f fd h2⟩
theorem CalB.mono {P : Program} {w : World} {K : PySem.W.Frag} {mg : Str → Option Value} {base : Heap} {j k : Nat} {x : Str} {st : Stmt} {ps : List Str} {Fs : List D → M D} (a : CalB P w K mg base j x st ps Fs) (h : j ≤ k) : CalB P w K mg base k x st ps Fs := by
  obtain ⟨f, fd, h1, h2, h3, h4⟩ := a.ex
  exact ⟨f, fd, h1, h2, h3, h4.mono h⟩
section
variable {X : Cx} {c : C} {W : Value → Option Addr → Hp → Prop} {st : Stmt} {sts xs ys : List Stmt} {s t : S} {e : Expr} {es : List Expr} {f : E} {fs : Es} {pos : Pos}
theorem dsB_of (h : PSs X sts (tS c s)) : PSs X sts (tSB c W s) := h.imp tSB_tS
theorem dB_of (h : PS X st (tS c s)) : PS X st (tSB c W s) := h.imp tSB_tS
theorem dsB_one (h : PS X st (tSB c W s)) : PSs X [st] (tSB c W s) := pss_one h
theorem seqB_imp : ∀ D σ H, tSB c W (sSeq s t) D σ H → tSeq (tSB c W s) (tSB c W t) D σ H := fun D σ H ⟨F0, H0, F, δ, g, r, g', w, sp, o, q⟩ => by
  obtain ⟨r1, g1, o1, o2⟩ := ok_bind.mp o
  refine ⟨F0, H0, F, δ, g, r1, g1, w, sp, o1, ?_⟩
  cases r1 with
  | nx δ1 =>
    intro σ1 F1 H1 w1 sp1 sm1
    refine ⟨F0, H0, F1, δ1, g1, r, g', w1, sp1, o2, ?_⟩
    cases r with
    | nx δ' => exact fun σ' F' H' w' sp' sm' => q σ' F' H' w' sp' (sm1.trans sm')
    | rt d => exact q
    | bk δ' => exact fun σ' F' H' w' sp' sm' => q σ' F' H' w' sp' (sm1.trans sm')
    | ct δ' => exact fun σ' F' H' w' sp' sm' => q σ' F' H' w' sp' (sm1.trans sm')
  | rt d =>
    obtain ⟨rfl, rfl⟩ := ok_pure.mp o2
    exact q
  | bk δ1 =>
    obtain ⟨rfl, rfl⟩ := ok_pure.mp o2
    exact q
  | ct δ1 =>
    obtain ⟨rfl, rfl⟩ := ok_pure.mp o2
    exact q
theorem dsB_cons (h1 : PS X st (tSB c W s)) (h2 : PSs X sts (tSB c W t)) : PSs X (st :: sts) (tSB c W (sSeq s t)) := (pss_cons h1 h2).imp seqB_imp
theorem dB_if {ca : Expr} {fc : E} (hc : PT X ca (tT c fc)) (ha : PSs X xs (tSB c W s)) (hb : PSs X ys (tSB c W t)) : PS X (.If ca xs ys pos) (tSB c W (sIf fc s t)) := (ps_if hc ha hb).imp fun D σ H ⟨F0, H0, F, δ, g, r, g', w, sp, o, q⟩ => by
  obtain ⟨x, g1, o1, o⟩ := ok_bind.mp o
  have fin : ∀ (u : S) F1 H1, Stp c F H F1 H1 g1 → Ok (u δ) g1 r g' → tSB c W u D σ H1 := fun u F1 H1 s1 ou => by
    refine ⟨F0, H0, F1, δ, g1, r, g', w.step s1, sp.trans s1, ou, ?_⟩
    cases r with
    | nx δ' => exact fun σ' F' H' w' sp' sm' => q σ' F' H' w' sp' (s1.sub.trans sm')
    | rt d => exact q
    | bk δ' => exact fun σ' F' H' w' sp' sm' => q σ' F' H' w' sp' (s1.sub.trans sm')
    | ct δ' => exact fun σ' F' H' w' sp' sm' => q σ' F' H' w' sp' (s1.sub.trans sm')
  split at o
  · exact ⟨H0, F, δ, g, true, g1, w, o1, fun F1 H1 s1 => iteT (fin s F1 H1 s1 o)⟩
  · exact ⟨H0, F, δ, g, false, g1, w, o1, fun F1 H1 s1 => iteF (fin t F1 H1 s1 o)⟩
  · exact absurd o not_ok_stuck
/-- raise x(e) -/
theorem dB_raise {k : Nat} {x : Str} {p pos2 : Pos} {C : Addr} {ga : Option Addr} {bo : Hp} (T : ErrC X.prog X.K X.mg x C) (hr : Room k X.A) (tk : Takes X (fun cls d _ H => W cls d H)) (he : PE X e (tP ⟨X.K, X.mg, ga, bo⟩ f)) (hc : X.calm = true := by rfl) (hg : Gl X x := by rfl) (hdb : (x == ("__debug__" : Str)) = false := by decide)
    (hs : starEach (e :: []) X.env = (false, eval e X.env) :: starEach [] X.env := by rfl) (hpl : (backTo pos (starEach [] X.env)).any (·.1) = false := by rfl) :
    PS X (.Raise (some (.Call (.Name x p) [e] [] pos)) none pos2) (tSB ⟨X.K, X.mg, ga, bo⟩ W (sThr x f)) := (ps_raise hc tk (pmk_esc T hr (pa_cons he pa_nil hs) hg hdb hs hpl)).imp fun D σ H ⟨F0, H0, F, δ, g, r, g', w, sp, o, q⟩ => by
  obtain ⟨d, g1, o1, o⟩ := ok_bind.mp o
  obtain ⟨rfl, rfl⟩ := ok_pure.mp o
  refine ⟨H0, F, δ, g, d, g1, w, o1, fun v F1 H1 s1 r1 => ⟨v, rfl, fun dd hd => ?_⟩⟩
  have st := Stp.lay (c := ⟨X.K, X.mg, ga, bo⟩) (o := .xd [(valueS, v)]) s1.le s1.gen hd
  exact q.2 x d rfl C dd v _ _ T.gC ((sp.trans s1).trans st) upd_same (r1.up st.sub)
/-- f(e, ..) as a statement -/
theorem pe_callB' {k : Nat} {g0 : Addr} {fd : FuncData} {ps : List Str} {Fs : List D → M D} {x : Str} {p : Pos} {t : TA} (F : FnB X.prog X.w X.K X.mg X.base k g0 fd ps Fs) (hr : Room k X.A) (hgd : X.A.guards = some []) (hm : X.mg x = some (.ref g0)) (hk : PySem.W.keepIn X.K (.ref g0) = true) (hb : Binds X.K fd ps []) {W' : WX} (tk : Takes X W') (ha : PA X (e :: es) t) (hg : Gl X x := by rfl)
    (hdb : (x == ("__debug__" : Str)) = false := by decide) (he : starEach (e :: es) X.env = (false, eval e X.env) :: starEach es X.env := by rfl) (hpl : (backTo pos (starEach es X.env)).any (·.1) = false := by rfl) :
    PE X (.Call (.Name x p) (e :: es) [] pos) (fun σ H Q => t σ H fun vs H1 => vs.length = ps.length ∧ spB X.K X.mg Fs vs H1 Q fun cls d H => W' cls d σ H) := by
  refine ⟨fun pins s σ H Q I h => ?_⟩
  refine wpAny_Call_Name_kw (ld_glob I hg hm ?_ hdb)
  refine PySem.W.callWith_K (h₀ := X.base) I.ok.mod.kin hk (thn (ha.run pos pins s σ H _ I h) fun us s1 ⟨vs, H1, I1, r, hl, q⟩ => ⟨I1.kIn, ?_⟩) he hpl
  have b := hb s1 us I1.kIn (by rw [List.append_nil, ← r.length]; exact hl)
  rw [List.append_nil] at b
  refine wpAny_call (codeAny_mono (F.run X.A X.stack s1 H1 ⟨us, []⟩ us vs Q _ hr hgd I1.env0 b r hl q) fun r s' hq => ?_)
  cases r with
  | error er => exact tk _ _ (XE.of_call I1 (fun _ _ _ h => h) hq)
  | ok fl =>
    cases fl with
    | ret u => exact I1.after hq
    | next => exact False.elim hq
    | brk => exact False.elim hq
    | cont => exact False.elim hq
theorem dB_do {j k : Nat} {ps : List Str} {Fs : List D → M D} {x : Str} {st : Stmt} {p p2 : Pos} {ga : Option Addr} {bo : Hp} (C : CalB X.prog X.w X.K X.mg X.base j x st ps Fs) (hr : Room k X.A) (hgd : X.A.guards = some []) (tk : Takes X (fun cls d _ H => W cls d H)) (ha : PA X (e :: es) (tAs ⟨X.K, X.mg, ga, bo⟩ fs)) (hj : j ≤ k := by decide) (hg : Gl X x := by rfl)
    (hdb : (x == ("__debug__" : Str)) = false := by decide) (he : starEach (e :: es) X.env = (false, eval e X.env) :: starEach es X.env := by rfl) (hpl : (backTo pos (starEach es X.env)).any (·.1) = false := by rfl)
    (hs : swapsWith (.Call (.Name x p) (e :: es) [] pos) none p2.line X.env = pure false := by rfl) :
    PS X (.Expr (.Call (.Name x p) (e :: es) [] pos) p2) (tSB ⟨X.K, X.mg, ga, bo⟩ W (sDoX Fs fs)) := by
  obtain ⟨g0, fd, h1, h2, h3, h4⟩ := C.ex
  refine (ps_expr (pe_callB' (h4.mono hj) hr hgd h1 h2.kp h3 tk ha hg hdb he hpl) hs).imp fun D σ H ⟨F0, H0, F, δ, g, r, g', w, sp, o, q⟩ => ?_
  obtain ⟨ds, g1, o1, o⟩ := ok_bind.mp o
  obtain ⟨d, g2, o2, o⟩ := ok_bind.mp o
  refine ⟨H0, F, δ, g, ds, g1, w, o1, fun vs F1 H1 s1 r1 => ⟨by rw [r1.length]; exact h4.ar _ _ _ _ o2, ga, bo, F1, ds, g1, d, g2, s1.le, s1.gen, r1, o2, fun v F2 H2 s2 r2 => ?_, fun x' e' ed => ?_⟩⟩
  · split at o
    · rename_i ht
      cases d <;> first | (cases ht; done) | cases r2
    · obtain ⟨rfl, rfl⟩ := ok_pure.mp o
      exact q σ F2 H2 ((w.step s1).step s2) ((sp.trans s1).trans s2) (s1.sub.trans s2.sub)
  · subst ed
    have o' : Ok (pure (Fl.rt (.thr x' e')) : M Fl) g2 r g' := o
    obtain ⟨rfl, rfl⟩ := ok_pure.mp o'
    exact fun C dd u F' H' m s2 e1 r2 => q.2 x' e' rfl C dd u F' H' m ((sp.trans s1).trans s2) e1 r2
end
end DL

/-! ## DTry -/
set_option Elab.async false
set_option autoImplicit false
set_option linter.all false
set_option maxRecDepth 100000
set_option maxHeartbeats 4000000
/-! DTry: try .. except, what is caught, defs as values, by plain data. -/
namespace DL
open PySem PySem.Spec PyProof.Rows L2
theorem exq_ok {P : Program} {w : World} {H : Hp} {h : Heap} {a C dd : Addr} {oe : Obj} {vs : Array Value} (e : h.get? a = some oe) (z : Zc (.ref C) (some dd) oe) (d : oe.data = .fields vs) : ObjOk P w H h a (exq a C dd) :=
  ⟨⟨oe, vs, e, z, d⟩, ⟨oe, e⟩, fun _ _ ⟨o, v, q, r⟩ k => ⟨o, v, k o q, r⟩⟩
section
variable {X : Cx} {pins : List (Addr × Obj)} {σ : L2.St} {H : Hp} {s : Shared}
/-- an object that is there, and was not at the entry, is tracked from here on -/
theorem track_exq {a C dd : Addr} {oe : Obj} {vs : Array Value} (I : Inv X ((a, oe) :: pins) σ H s) (h0 : X.s_0.heap.get? a = none) (z : Zc (.ref C) (some dd) oe) (d : oe.data = .fields vs) (hp : ∀ p ∈ X.pn ++ pins, p.1 ≠ a) : Inv X pins σ (upd H a (exq a C dd)) s := by
  obtain ⟨e, n, nL, nF, nc⟩ := I.pin (a, oe) (List.mem_append_right _ List.mem_cons_self)
  have ne0 : ∀ b o, X.s_0.heap.get? b = some o → b ≠ a := fun b o q z => by rw [z, h0] at q; cases q
  have neH : ∀ b u, H b = some u → b ≠ a := fun b u q z => by rw [z] at q; rw [show H a = none from n] at q; cases q
  refine ⟨I.ok, I.os, I.bare, ⟨fun b o q n1 hb hx => I.base.keep b o q n1 hb hx, fun b o q n1 hb hx => I.base.slot b o q n1 hb hx, fun b o q n1 hx => by rw [upd_ne (ne0 b o q)]; exact I.base.free b o q n1 hx, I.base.there, fun b xs q => ?_, fun b o u q => ?_, fun b ps q => ?_⟩,
    I.loc, I.cell, by rw [upd_ne (Ne.symm nL)]; exact I.free, fun x c q => ?_, fun p hp' => ?_, fun b u q => ?_, I.len⟩
  · have q' := I.base.tups b xs q
    rw [upd_ne (neH b _ q')]; exact q'
  · have q' := I.base.frzs b o u q
    rw [upd_ne (neH b _ q')]; exact q'
  · obtain ⟨m, q'⟩ := I.base.tbls b ps q
    exact ⟨m, by rw [upd_ne (neH b _ q')]; exact q'⟩
  · have ca : c ≠ a := fun z => by
      obtain ⟨v, o, ho, hd⟩ := I.cell x c q
      rw [z] at ho
      rw [show s.heap.get? a = some oe from e] at ho
      cases ho
      exact nc v hd
    rw [upd_ne ca]; exact I.freeC x c q
  · obtain ⟨q1, q2, q3, q4, q5⟩ := I.pin p (by
      rcases List.mem_append.mp hp' with z | z
      · exact List.mem_append_left _ z
      · exact List.mem_append_right _ (List.mem_cons_of_mem _ z))
    exact ⟨q1, by rw [upd_ne (hp p hp')]; exact q2, q3, q4, q5⟩
  · by_cases hb : b = a
    · subst hb
      rw [upd_same] at q
      cases q
      exact exq_ok e z d
    · rw [upd_ne hb] at q
      refine (I.hok b u q).stay (fun c v hc r => r) (fun c r => ?_) fun c xs r => ?_
      · rw [upd_ne (neH c _ r)]; exact r
      · rw [upd_ne (neH c _ r)]; exact r
end
/-- what 'except x as n: y = n' wishes: slot i is n's, slot j y's -/
def wCau (K : PySem.W.Frag) (cE : Value) (i j : Nat) (D : Ends) : WX := fun cls d σ H => ∃ C dd, cls = .ref C ∧ d = some dd ∧ PySem.W.exmOne K cls cE = some true ∧ ∀ a, H a = none → D.nx ((σ.set i (some (.ref a))).set j (some (.ref a)) |>.set i none) (upd H a (exq a C dd))
section
variable {X : Cx} {x n y : Str} {cE : Value} {i j : Nat} {body : List Stmt} {np p1 p2 p3 pos pos' : Pos} {tb : WX → TS}
theorem ps_try1 (hs : X.stack = X.env :: X.outer) (hf : X.env.frame = some X.env.locals) (hex : X.ex = []) (hN : X.N.Nodup) (hi : X.N[i]? = some n) (hln : X.env.kindOf n = some .local) (hj : X.N[j]? = some y) (hlj : X.env.kindOf y = some .local) (hc : Names X x cE)
    (hb : ∀ (W : WX) (pn : List (Addr × Obj)) (xe : Value → Shared → Prop), Takes (X.tr pn xe) W → PassesOwn (model X.prog X.w) X.A X.env xe → PSs (X.tr pn xe) body (tb W))
    (hd1 : (n == ("__debug__" : Str)) = false := by decide) (hd2 : (n == ("__classdict__" : Str)) = false := by decide) (hsw : swapsWithSole [.Name y p1] (.Name n p2) p3.line X.env = pure false := by rfl) (hw : swappedStores [.Name y p1] (.Name n p2) X.env = pure none := by rfl)
    (h1 : (assignEach [.Name y p1] X.env).map (·.2) = [assign (.Name y p1) X.env] := by rfl) :
    PS X (.Try body [.ExceptHandler (some (.Name x np)) (some n) [.Assign [.Name y p1] (.Name n p2) p3] pos'] [] [] pos) (fun D σ H => tb (wCau X.K cE i j D) D σ H) := by
  refine ⟨fun pins s σ H D I h => ?_⟩
  have ok := I.ok
  have hfr : X.A.frames = some (X.env :: X.outer) := by rw [ok.frames, hs]
  have hloc : Loc X.env.scope n := .inl hln
  refine wpAny_Try_except ?_
  refine wpAny_mono ((hb (wCau X.K cE i j D) (X.pn ++ pins) (fun e s₁ => wpAny (model X.prog X.w) X.A (noteFrame e X.env) (fun _ s₂ => wpAny (model X.prog X.w) X.A (setFlight e none) (fun _ s₃ =>
    wpAny (model X.prog X.w) X.A (handleBy e X.env [.ExceptHandler (some (.Name x np)) (some n) [.Assign [.Name y p1] (.Name n p2) p3] pos']) (SP X pins D) X.xe s₃) X.xe s₂) X.xe s₁) (fun u s' xx => ?_) PassesOwn.looking).run [] s σ H D (I.toTry _) h) (fun f s1 hsp => ?_) (fun e s1 he => he)
  · -- the catch
    obtain ⟨a, B, sI, pins', σ', H', cls, d, rfl, J', nb, up, sky, na, os, ag, C, dd, rfl, rfl, hb1, hyes⟩ := xx
    have J : Inv X pins σ' H' sI := J'.ofTry ok
    have sky' : Sky B (X.env :: X.outer) a (Zc (.ref C) (some dd)) X.env.locals s'.heap := by rw [← hs]; exact sky
    show wpAny (model X.prog X.w) X.A (noteFrame (.ref a) X.env) _ _ _
    refine Sky.land Zc.steady hfr hf sky' fun h3 fl3 up3 => ?_
    have J3 : Inv X pins σ' H' { s' with heap := h3 } := J.landed nb fl3.1 (up.trans up3) os ag
    obtain ⟨oe3, vs3, he3, hz3, hd3⟩ := fl3.there
    have notFr : ∀ {h : Heap} {o : Obj} {vs : Array Value}, h.FunFrames B (X.env :: X.outer) → h.get? a = some o → o.data = .fields vs → a ∉ frs (X.env :: X.outer) := fun {h o vs} ff e dd hm => by
      obtain ⟨_, o', e', hnf⟩ := ff.mem hm
      rw [e] at e'; cases e'
      exact hnf _ dd
    have nfr := notFr fl3.2.2.1 he3 hd3
    have nL : a ≠ X.env.locals := fun z => nfr (List.mem_filterMap.mpr ⟨X.env, List.mem_cons_self, by rw [hf, z]⟩)
    have nF : a ∉ X.fs := fun hm => by
      obtain ⟨e, he, q⟩ := List.mem_filterMap.mp hm
      exact nfr (List.mem_filterMap.mpr ⟨e, List.mem_cons_of_mem _ he, q⟩)
    -- it was not there when the def was entered
    have nI : sI.heap.get? a = none := by
      cases e : sI.heap.get? a with
      | none => rfl
      | some o =>
        have q := nb a o e (by rw [hs]; exact nfr)
        rw [fl3.2.1] at q
        cases q
    have n0 : X.s_0.heap.get? a = none := by
      cases e : X.s_0.heap.get? a with
      | none => rfl
      | some o =>
        obtain ⟨o', q⟩ := J.base.there a o e (by rw [hex]; simp)
        rw [nI] at q
        cases q
    have hpn : ∀ p ∈ X.pn ++ pins, p.1 ≠ a := fun p hp z => by
      have q := (J.pin p hp).1
      rw [z, nI] at q
      cases q
    have S3 := J3.suite he3 hd3 na nL nF
    refine wpAny_handleBy_cons (codeAny_handlers_test ?_) (by intro q; cases q)
    have LT : PySem.W.Looks (model X.prog X.w) h3 (typeOf (.ref a)) (.ref C) := fun A Q E s k q => wpAny_typeOf_ref (k _ _ he3) (by rw [hz3.1]; exact q)
    have LM := PySem.W.exm_one (M := model X.prog X.w) (J3.kIn) LT hb1
    have test : ∀ {Q : Value → Shared → Prop} {E : Value → Shared → Prop}, Q cE { s' with heap := h3 } → wpAny (model X.prog X.w) (X.A.mark (some (.ref a))) (eval (.Name x np) X.env) Q E { s' with heap := h3 } := fun {Q E} q => by
      obtain ⟨hg, hdbg, hm | ⟨hm, hv, hnn⟩⟩ := hc
      · exact ld_glob (X := X.suite a ((a, oe3) :: (X.pn ++ pins))) S3 hg hm q hdbg
      · exact ld_blt (X := X.suite a ((a, oe3) :: (X.pn ++ pins))) S3 hg hm hv q hnn hdbg
    refine test (LM.here ?_)
    refine codeAny_handlers_suite_as ?_
    refine HandSPX.lands_againZ fl3 fun h4 fl4 up4 => ?_
    have J4 : Inv X pins σ' H' { s' with heap := h4 } := J.landed nb fl4.1 ((up.trans up3).trans up4) os ag
    obtain ⟨oe4, vs4, he4, hz4, hd4⟩ := fl4.there
    have S4 := J4.suite he4 hd4 na nL nF
    refine store_ok (X := X.suite a ((a, oe4) :: (X.pn ++ pins))) (v := .ref a) S4 hN hi hloc rfl (fun s5 S5 => ?_) (.inr hln)
    have hil : i < σ'.length := by rw [J.len]; exact (List.getElem?_eq_some_iff.mp hi).1
    have hsu : PSs (X.suite a ((a, oe4) :: (X.pn ++ pins))) [.Assign [.Name y p1] (.Name n p2) p3] (tAsg (tVar i) (gName j)) := pss_one (ps_asg (pe_var hi (.inl hln) hd1 hd2) (pg_name (i := j) hN hj (.inl hlj) (hf := .inr hlj)) hsw hw h1)
    refine wpAny_mono (hsu.run [] s5 _ H' { nx := fun σ6 H6 => σ6 = (σ'.set i (some (.ref a))).set j (some (.ref a)) ∧ H6 = H', rt := fun _ _ => False, bk := fun _ _ => False, ct := fun _ _ => False } S5 ⟨.ref a, List.getElem?_set_self hil, rfl, rfl⟩) (fun f s6 hsp => ?_) (fun _ _ z => False.elim z)
    cases f with
    | next =>
      obtain ⟨σ6, H6, S6, rfl, rfl⟩ := hsp
      have S7 : Inv X ((a, oe4) :: pins) ((σ'.set i (some (.ref a))).set j (some (.ref a))) H6 s6 := ⟨ok, S6.os, S6.bare, S6.base, S6.loc, S6.cell, S6.free, S6.freeC, fun p hp => S6.pin p (by
        rw [List.append_nil]
        rcases List.mem_append.mp hp with z | z
        · exact List.mem_cons_of_mem _ (List.mem_append_left _ z)
        · rcases List.mem_cons.mp z with z | z
          · rw [z]; exact List.mem_cons_self
          · exact List.mem_cons_of_mem _ (List.mem_append_right _ z)), S6.hok, S6.len⟩
      exact gone_ok S7 hN hi hln fun s7 J7 => ⟨_, _, track_exq J7 n0 hz4 hd4 hpn, hyes a na⟩
    | brk =>
      obtain ⟨_, _, _, z⟩ := hsp
      exact z.elim
    | cont =>
      obtain ⟨_, _, _, z⟩ := hsp
      exact z.elim
    | ret u =>
      obtain ⟨_, _, _, _, _, z⟩ := hsp
      exact z.elim
  · cases f with
    | next =>
      obtain ⟨σ', H', J', q⟩ := hsp
      exact wpAny_execs_nil ⟨σ', H', J'.ofTry ok, q⟩
    | brk =>
      obtain ⟨σ', H', J', q⟩ := hsp
      exact ⟨σ', H', J'.ofTry ok, q⟩
    | cont =>
      obtain ⟨σ', H', J', q⟩ := hsp
      exact ⟨σ', H', J'.ofTry ok, q⟩
    | ret u =>
      obtain ⟨v, σ', H', J', r, q⟩ := hsp
      exact ⟨v, σ', H', J'.ofTry ok, r, q⟩
end
/-- in a try's body: what is raised leaves the slots as they stood -/
def tSC (c : C) (W : WX) (s : S) : TS := fun D σ H => ∃ F0 H0 F δ g r g', Wd c H0 F H σ δ g ∧ Stp c F0 H0 F H g ∧ Ok (s δ) g r g' ∧ match r with
  | .nx δ' => ∀ σ' F' H', Wd c H0 F' H' σ' δ' g' → Stp c F0 H0 F' H' g' → Same F F' → D.nx σ' H'
  | .rt d => d.isThr = true ∧ ∀ x e, d = .thr x e → ∀ C dd u F' H', c.mg x = some (.ref C) → Wd c H0 F' H' σ δ g' → Stp c F0 H0 F' H' g' → Same F F' → F' dd = some (.xd [(valueS, u)]) → Rep c F' u e → W (.ref C) (some dd) σ H'
  | .bk _ => False
  | .ct _ => False
def sTry (names : List Str) (i j : Nat) (s : S) : S := fun δ => s δ >>= fun r => match r with
  | .nx δ' => pure (.nx δ')
  | .rt (.thr x e) => if names.contains x then pure (.nx (((δ.set i .no).set j (.val (.exc x e))).set i .no)) else stuck
  | _ => stuck
section
variable {X : Cx} {x n y : Str} {cE : Value} {i j : Nat} {body xs ys : List Stmt} {np p1 p2 p3 pos pos' : Pos} {s t : S} {ga : Option Addr} {bo : Hp} {names : List Str} {c : C} {W : WX} {st : Stmt} {e : Expr} {es : List Expr} {fs : Es}
theorem ds_try (hs : X.stack = X.env :: X.outer) (hf : X.env.frame = some X.env.locals) (hex : X.ex = []) (hN : X.N.Nodup) (hi : X.N[i]? = some n) (hln : X.env.kindOf n = some .local) (hj : X.N[j]? = some y) (hlj : X.env.kindOf y = some .local) (hc : Names X x cE)
    (hE : ∀ z ∈ names, ∀ C, X.mg z = some (.ref C) → PySem.W.exmOne X.K (.ref C) cE = some true)
    (hb : ∀ (W : WX) (pn : List (Addr × Obj)) (xe : Value → Shared → Prop), Takes (X.tr pn xe) W → PSs (X.tr pn xe) body (tSC ⟨X.K, X.mg, ga, bo⟩ W s))
    (hd1 : (n == ("__debug__" : Str)) = false := by decide) (hd2 : (n == ("__classdict__" : Str)) = false := by decide) (hsw : swapsWithSole [.Name y p1] (.Name n p2) p3.line X.env = pure false := by rfl) (hw : swappedStores [.Name y p1] (.Name n p2) X.env = pure none := by rfl)
    (h1 : (assignEach [.Name y p1] X.env).map (·.2) = [assign (.Name y p1) X.env] := by rfl) :
    PS X (.Try body [.ExceptHandler (some (.Name x np)) (some n) [.Assign [.Name y p1] (.Name n p2) p3] pos'] [] [] pos) (tS ⟨X.K, X.mg, ga, bo⟩ (sTry names i j s)) :=
  (ps_try1 hs hf hex hN hi hln hj hlj hc (fun W pn xe tk _ => hb W pn xe tk) hd1 hd2 hsw hw h1).imp fun D σ H ⟨F0, H0, F, δ, g, r, g', w, sp, o, q⟩ => by
    obtain ⟨r1, g1, o1, o⟩ := ok_bind.mp o
    refine ⟨F0, H0, F, δ, g, r1, g1, w, sp, o1, ?_⟩
    split at o
    · obtain ⟨rfl, rfl⟩ := ok_pure.mp o
      exact q
    · rename_i x' e'
      split at o
      · rename_i hm
        obtain ⟨rfl, rfl⟩ := ok_pure.mp o
        refine ⟨rfl, fun x e ed C dd u F' H' m w' sp' sm e1 r1 => ?_⟩
        cases ed
        refine ⟨C, dd, rfl, rfl, hE _ (by simpa using hm) C m, fun a ha => ?_⟩
        have st := Stp.lay (c := ⟨X.K, X.mg, ga, bo⟩) (o := exq a C dd) w'.le w'.gen ha
        have ne : dd ≠ a := fun z => by
          rw [z] at e1
          have := w'.le _ _ e1
          rw [ha] at this
          cases this
        refine q _ _ _ ((((w'.step st).forget (i := i) (x := some (.ref a))).set (.exc m upd_same (by rw [upd_ne ne]; exact e1) (r1.up st.sub))).forget (i := i) (x := none)) (sp'.trans st) (sm.trans st.sub)
      · exact absurd o not_ok_stuck
    · exact absurd o not_ok_stuck
theorem dC_one (h : PS X st (tSC c W s)) : PSs X [st] (tSC c W s) := pss_one h
theorem dC_if {ca : Expr} {fc : E} (hc : PT X ca (tT c fc)) (ha : PSs X xs (tSC c W s)) (hb : PSs X ys (tSC c W t)) : PS X (.If ca xs ys pos) (tSC c W (sIf fc s t)) := (ps_if hc ha hb).imp fun D σ H ⟨F0, H0, F, δ, g, r, g', w, sp, o, q⟩ => by
  obtain ⟨x, g1, o1, o⟩ := ok_bind.mp o
  have fin : ∀ (u : S) F1 H1, Stp c F H F1 H1 g1 → Ok (u δ) g1 r g' → tSC c W u D σ H1 := fun u F1 H1 s1 ou => by
    refine ⟨F0, H0, F1, δ, g1, r, g', w.step s1, sp.trans s1, ou, ?_⟩
    cases r with
    | nx δ' => exact fun σ' F' H' w' sp' sm' => q σ' F' H' w' sp' (s1.sub.trans sm')
    | rt d => exact ⟨q.1, fun x e ed C dd u F' H' m w' sp' sm e1 r1 => q.2 x e ed C dd u F' H' m w' sp' (s1.sub.trans sm) e1 r1⟩
    | bk δ' => exact q
    | ct δ' => exact q
  split at o
  · exact ⟨H0, F, δ, g, true, g1, w, o1, fun F1 H1 s1 => iteT (fin s F1 H1 s1 o)⟩
  · exact ⟨H0, F, δ, g, false, g1, w, o1, fun F1 H1 s1 => iteF (fin t F1 H1 s1 o)⟩
  · exact absurd o not_ok_stuck
/-- defs by their names, as values -/
abbrev Tab := Str → Option (List D → M D)
structure TabB (P : Program) (w : World) (K : PySem.W.Frag) (mg : Str → Option Value) (base : Heap) (k : Nat) (T : Tab) : Prop where
  of : ∀ x Fs, T x = some Fs → ∃ st ps, CalB P w K mg base k x st ps Fs
def sCallX (T : Tab) (i : Nat) (fs : Es) : S := fun δ => fs δ >>= fun ds => match δ[i]? with
  | some (.val (.fn x)) => match T x with
    | some Fs => Fs ds >>= fun d => if d.isThr then pure (.rt d) else pure (.nx δ)
    | none => stuck
  | _ => stuck
theorem dC_call {k : Nat} {T : Tab} {z : Str} {p pz : Pos} (TB : TabB X.prog X.w X.K X.mg X.base k T) (hr : Room k X.A) (hgd : X.A.guards = some []) (tk : Takes X W) (hN : X.N[i]? = some z) (hv : Vis X.env.scope z) (ha : PA X (e :: es) (tAs ⟨X.K, X.mg, ga, bo⟩ fs))
    (hdb : (z == ("__debug__" : Str)) = false := by decide) (hcd : (z == ("__classdict__" : Str)) = false := by decide)
    (he : starEach (e :: es) X.env = (false, eval e X.env) :: starEach es X.env := by rfl) (hpl : (backTo pos (starEach es X.env)).any (·.1) = false := by rfl) (hs : swapsWith (.Call (.Name z p) (e :: es) [] pos) none pz.line X.env = pure false := by rfl) :
    PS X (.Expr (.Call (.Name z p) (e :: es) [] pos) pz) (tSC ⟨X.K, X.mg, ga, bo⟩ W (sCallX T i fs)) := by
  have pe : PE X (.Call (.Name z p) (e :: es) [] pos) (fun σ H Q => ∃ x Fs a, T x = some Fs ∧ X.mg x = some (.ref a) ∧ σ[i]? = some (some (.ref a)) ∧ tAs ⟨X.K, X.mg, ga, bo⟩ fs σ H fun vs H1 => spB X.K X.mg Fs vs H1 Q fun cls d H => W cls d σ H) := by
    refine ⟨fun pins s σ H Q I ⟨x, Fs, a, hT, hm, hσ, h⟩ => ?_⟩
    obtain ⟨st, ps, C⟩ := TB.of x Fs hT
    obtain ⟨g0, fd, h1, h2, h3, F⟩ := C.ex
    cases hm.symm.trans h1
    refine wpAny_Call_Name_kw (thn ((pe_var (pos := p) hN hv hdb hcd).run pins s σ H (fun v H1 => v = .ref a ∧ H1 = H) I ⟨.ref a, hσ, rfl, rfl⟩) fun u s1 ⟨v, H1, I1, r1, q1⟩ => ?_)
    obtain ⟨rfl, rfl⟩ := q1
    cases r1
    refine PySem.W.callWith_K (h₀ := X.base) I.ok.mod.kin h2.kp (thn (ha.run pos pins s1 σ _ _ I1 h) fun us s2 ⟨vs, H2, I2, r, q⟩ => ⟨I2.kIn, ?_⟩) he hpl
    have hl : vs.length = ps.length := by
      obtain ⟨_, _, _, ds, _, _, _, _, _, rr, o, _⟩ := q
      rw [rr.length]
      exact F.ar _ _ _ _ o
    have b := h3 s2 us I2.kIn (by rw [List.append_nil, ← r.length]; exact hl)
    rw [List.append_nil] at b
    refine wpAny_call (codeAny_mono (F.run X.A X.stack s2 H2 ⟨us, []⟩ us vs Q _ hr hgd I2.env0 b r hl q) fun r s' hq => ?_)
    cases r with
    | error er => exact tk _ _ (XE.of_call I2 (fun _ _ _ h => h) hq)
    | ok fl =>
      cases fl with
      | ret u => exact I2.after hq
      | next => exact False.elim hq
      | brk => exact False.elim hq
      | cont => exact False.elim hq
  refine (ps_expr pe hs).imp fun D σ H ⟨F0, H0, F, δ, g, r, g', w, sp, o, q⟩ => ?_
  obtain ⟨ds, g1, o1, o⟩ := ok_bind.mp o
  split at o
  · rename_i x hx
    split at o
    · rename_i Fs hT
      obtain ⟨v, e1, rv⟩ := w.val i _ hx
      cases rv with
      | @fn _ a _ em =>
        obtain ⟨d, g2, o2, o⟩ := ok_bind.mp o
        refine ⟨x, Fs, a, hT, em, e1, H0, F, δ, g, ds, g1, w, o1, fun vs F1 H1 s1 r1 => ⟨ga, bo, F1, ds, g1, d, g2, s1.le, s1.gen, r1, o2, fun v F2 H2 s2 r2 => ?_, fun x' e' ed => ?_⟩⟩
        · split at o
          · rename_i ht
            cases d <;> first | (cases ht; done) | cases r2
          · obtain ⟨rfl, rfl⟩ := ok_pure.mp o
            exact q σ F2 H2 ((w.step s1).step s2) ((sp.trans s1).trans s2) (s1.sub.trans s2.sub)
        · subst ed
          have o' : Ok (pure (Fl.rt (.thr x' e')) : M Fl) g2 r g' := o
          obtain ⟨rfl, rfl⟩ := ok_pure.mp o'
          exact fun C dd u F' H' m s2 e1 r2 => q.2 x' e' rfl C dd u F' H' m ((w.step s1).step s2) ((sp.trans s1).trans s2) (s1.sub.trans s2.sub) e1 r2
    · exact absurd o not_ok_stuck
  · exact absurd o not_ok_stuck
/-- a def's name as a value -/
theorem d_fn {z : Str} {p : Pos} (hm : ∃ a, X.mg z = some (.ref a)) (hg : Gl X z := by rfl) (hdb : (z == ("__debug__" : Str)) = false := by decide) : PE X (.Name z p) (tP ⟨X.K, X.mg, ga, bo⟩ (eK (.fn z))) := by
  obtain ⟨a, hm⟩ := hm
  refine ⟨fun pins s σ H Q I ⟨H0, F, δ, g, d, g', w, o, q⟩ => ?_⟩
  obtain ⟨rfl, rfl⟩ := ok_pure.mp o
  exact ld_glob I hg hm ⟨.ref a, H, I, rfl, q _ F H (.refl w.le w.gen) (.fn hm)⟩ hdb
end

/-! ### what was caught -/
/-- what an own error class says of its instances -/
structure ErrIs (K : PySem.W.Frag) (mg : Str → Option Value) (x : Str) (C : Addr) : Prop where
  gC : mg x = some (.ref C)
  cl : (PySem.W.clsIn K C).isSome = true
  ga : PySem.W.findIn K (.ref C) "__getattribute__" = some (some (.builtin "BaseException.__getattribute__"))
  gg : PySem.W.findIn K (.ref C) "__getattr__" = some none
  noN : PySem.W.findIn K (.ref C) "value" = some none
  exC : PySem.W.subIn K (.ref C) (.type "BaseException") = some true
  hdC : PySem.W.hasDictIn K C = true
  ha : PySem.W.findIn K (.ref C) "__class__" = some (some (.builtin "object.__class__"))
  hn : PySem.W.specialIn K (.builtin "object.__class__") "__get__" = some (some (.builtin "getset_descriptor.__get__"))
  ht : PySem.W.takesIn K (.builtin "object.__class__") = some true
  hm : PySem.W.mroIn K C (.type "object") = some true
/-- isinstance(d, T), T an own error class without classes under it -/
def dIsE (T : Str) (d : D) : M D := match d with
  | .exc x _ => pure (.bl (decide (x = T)))
  | .non => pure (.bl false)
  | _ => stuck
/-- d.value -/
def dVal (d : D) : M D := match d with
  | .exc _ e => pure e
  | _ => stuck
section
variable {X : Cx} {c : C} {a : Expr} {fa : E} {pos : Pos} {ga : Option Addr} {bo : Hp}
theorem exq_inst {pins : List (Addr × Obj)} {σ : L2.St} {H : Hp} {s : Shared} {a C dd : Addr} {u : V} (I : Inv X pins σ H s) (e2 : H a = some (exq a C dd)) (e3 : H dd = some (.xd [(valueS, u)])) : ∃ oe od v, PySem.W.InstAt s.heap a oe C (some od) ∧ PySem.W.lookIn "value" od = some (some v) ∧ RelV u v := by
  have x : ObjOk X.prog X.w H s.heap a (.ext fun h => ∃ (oe : Obj) (vs : Array Value), h.get? a = some oe ∧ Zc (.ref C) (some dd) oe ∧ oe.data = .fields vs) := I.hok a _ e2
  obtain ⟨oe, vs, g1, z, d⟩ := x.1
  obtain ⟨mA, hns, hr⟩ := (show ObjOk X.prog X.w H s.heap dd (.xd [(valueS, u)]) from I.hok dd _ e3)
  obtain ⟨od, ho, hl⟩ := lookIn_ns hns
  have l : List.lookup valueS [(valueS, u)] = some u := by simp [List.lookup]
  obtain ⟨v, hv, rv⟩ := RelO.some_of (v := u) (o := mA valueS) (by rw [← l]; exact hr valueS)
  exact ⟨oe, od, v, ⟨g1, z.1, by unfold PySem.W.notCls; rw [d] <;> rfl, by rw [z.2]; exact ho⟩, by rw [hl, hv], rv⟩
theorem d_val {xs : List Str} (T : ∀ x, ∀ C, X.mg x = some (.ref C) → x ∈ xs → ErrIs X.K X.mg x C) (ha : PE X a (tP ⟨X.K, X.mg, ga, bo⟩ fa)) (hb : attributeBase a "value" X.env (eval a X.env) = eval a X.env := by rfl) :
    PE X (.Attribute a "value" pos) (tP ⟨X.K, X.mg, ga, bo⟩ (eF (fun d => match d with | .exc x e => if xs.contains x then pure e else stuck | _ => stuck) fa)) := by
  refine ⟨fun pins s σ H Q I ⟨H0, F, δ, g, d, g', w, o, q⟩ => ?_⟩
  obtain ⟨x, g1, o1, o⟩ := ok_bind.mp o
  split at o
  · rename_i y e
    split at o
    · rename_i hy
      obtain ⟨rfl, rfl⟩ := ok_pure.mp o
      refine attr_of hb (thn (ha.run pins s σ H (fun v H1 => ∃ F1, Stp ⟨X.K, X.mg, ga, bo⟩ F H F1 H1 g1 ∧ Rep ⟨X.K, X.mg, ga, bo⟩ F1 v (.exc y e)) I ⟨H0, F, δ, g, _, g1, w, o1, fun v F1 H1 s1 r1 => ⟨F1, s1, r1⟩⟩) fun u s1 ⟨v, H1, I1, rv, F1, st, r1⟩ => ?_)
      cases r1 with
      | @exc _ b C dd _ z _ m e2 e3 r2 =>
        cases rv
        obtain ⟨oe, od, v', J, l, rv⟩ := exq_inst I1 (st.le _ _ e2) (st.le _ _ e3)
        have E := T y C m (by simpa using hy)
        exact HandSPX.exc_get I1.kIn J E.ga E.gg E.exC (PySem.W.findObj_own E.hdC E.noN rfl l) (handed_of rv) ⟨z, H1, I1.tok _, rv, q _ F1 H1 st r2⟩
    · exact absurd o not_ok_stuck
  · exact absurd o not_ok_stuck
theorem isE_c {T : Str} {CT : Addr} {xs : List Str} (hT : X.mg T = some (.ref CT)) (E : ∀ x, ∀ C, X.mg x = some (.ref C) → x ∈ xs → ErrIs X.K X.mg x C ∧ PySem.W.kitOne X.K (.ref C) (.ref CT) = some (decide (x = T))) (hN : PySem.W.kitOne X.K (.type "NoneType") (.ref CT) = some false) :
    CallR X (.builtin "isinstance") (fun vs H Q => ∃ v F d g d' g', vs = [v, .ref CT] ∧ Same F H ∧ GenOk ⟨X.K, X.mg, ga, bo⟩ F H g ∧ Rep ⟨X.K, X.mg, ga, bo⟩ F v d ∧ Ok ((match d with | .exc x _ => if xs.contains x then pure (.bl (decide (x = T))) else stuck | .non => pure (.bl false) | _ => stuck : M D)) g d' g' ∧ ∀ v' F' H', Stp ⟨X.K, X.mg, ga, bo⟩ F H F' H' g' → Rep ⟨X.K, X.mg, ga, bo⟩ F' v' d' → Q v' H') := by
  intro pins s σ H vs us Q I r ⟨v, F, d, g, d', g', ev, le, gen, rd, o, q⟩
  subst ev
  split at o
  · rename_i x e
    split at o
    · rename_i hy
      obtain ⟨rfl, rfl⟩ := ok_pure.mp o
      cases rd with
      | @exc _ b C dd _ z _ m e2 e3 r2 =>
        obtain ⟨u1, u2, rfl, r1, r2'⟩ := vals2 r
        cases r1
        cases r2'
        obtain ⟨oe, od, v', J, l, rv⟩ := exq_inst I (le _ _ e2) (le _ _ e3)
        obtain ⟨E1, E2⟩ := E x C m (by simpa using hy)
        exact PySem.W.kia_one (PySem.W.kitx_exc E1.cl E1.ga E1.gg E1.exC E1.ha E1.hn E1.ht E1.hm) I.kIn J E2 (fun z => nomatch z) fun tk => ⟨.bl _, H, I.tok tk, rfl, q _ F H (.refl le gen) (.bl _)⟩
    · exact absurd o not_ok_stuck
  · obtain ⟨rfl, rfl⟩ := ok_pure.mp o
    cases rd
    exact call_isi pins s σ H _ us Q I r ⟨.non, .ref CT, .type "NoneType", .ref CT, false, rfl, .own CT, .base .non, hN, q _ F H (.refl le gen) (.bl _)⟩
  · exact absurd o not_ok_stuck
end
end DL

/-! ## DScope -/
set_option Elab.async false
set_option autoImplicit false
set_option linter.all false
set_option maxRecDepth 100000
set_option maxHeartbeats 4000000
/-! DScope: a block whose new values are spoilt at its end: what stood before is read alone within. -/
namespace DL
open PySem PySem.Spec PyProof.Rows L2

/-! ### what is read alone, looked through -/
mutual
/-- all that is read alone, as what it is -/
def D.un : D → D
  | .bor d => d.un
  | .lst xs => .lst (uns xs)
  | .tup xs => .tup (uns xs)
  | .exc x d => .exc x d.un
  | d => d
def uns : List D → List D
  | [] => []
  | x :: xs => x.un :: uns xs
end
theorem uns_map : ∀ xs : List D, uns xs = xs.map D.un
  | [] => rfl
  | x :: xs => by rw [uns, uns_map xs]; rfl
mutual
theorem un_nb : ∀ d : D, d.nb = true → d.un = d
  | .non, _ => rfl
  | .bl _, _ => rfl
  | .int _, _ => rfl
  | .str _, _ => rfl
  | .lst xs, h => by rw [D.un, uns_nb xs (by simpa [D.nb] using h)]
  | .tup xs, h => by rw [D.un, uns_nb xs (by simpa [D.nb] using h)]
  | .dct _, _ => rfl
  | .gen, _ => rfl
  | .fn _, _ => rfl
  | .exc x d, h => by rw [D.un, un_nb d (by simpa [D.nb] using h)]
  | .thr _ _, _ => rfl
  | .bor _, h => by simp [D.nb] at h
theorem uns_nb : ∀ xs : List D, nbs xs = true → uns xs = xs
  | [], _ => rfl
  | x :: xs, h => by
    simp only [nbs, Bool.and_eq_true] at h
    rw [uns, un_nb x h.1, uns_nb xs h.2]
end
section
variable {c : C} {H : Hp}
mutual
theorem un_rep : ∀ (d : D) {F : Hp} (v : V), Same F H → Same c.bo H → Rep c F v d → Rep c (un F c.bo) v d.un
  | .non, _, _, _, _, r => by cases r; exact .non
  | .bl b, _, _, _, _, r => by cases r; exact .bl b
  | .int b, _, _, _, _, r => by cases r; exact .int b
  | .str b, _, _, _, _, r => by cases r; exact .str b
  | .lst ds, _, _, h1, h2, r => by
    cases r with
    | lst e q => exact .lst (un_l _ _ e) (uns_rep ds _ h1 h2 q)
  | .tup ds, _, _, h1, h2, r => by
    cases r with
    | tup e q => exact .tup (un_l _ _ e) (uns_rep ds _ h1 h2 q)
  | .dct _, _, _, _, _, r => by
    cases r with
    | dct0 e => exact .dct0 (un_l _ _ e)
  | .gen, _, _, _, _, r => by
    cases r with
    | gen e => exact .gen e
  | .fn x, _, _, _, _, r => by
    cases r with
    | fn e => exact .fn e
  | .exc x d, _, _, h1, h2, r => by
    cases r with
    | exc e1 e2 e3 q => exact .exc e1 (un_l _ _ e2) (un_l _ _ e3) (un_rep d _ h1 h2 q)
  | .thr _ _, _, _, _, _, r => by cases r
  | .bor d, F, _, h1, h2, r => by
    cases r with
    | bor q =>
      have e := un_rep d _ h2 h2 q
      refine e.up fun a o eo => ?_
      refine un_r h1 h2 a o ?_
      unfold un at eo
      cases h : c.bo a with
      | some u => rw [h] at eo; exact eo
      | none => rw [h] at eo; cases eo
theorem uns_rep : ∀ (ds : List D) {F : Hp} (vs : List V), Same F H → Same c.bo H → RepAll c F vs ds → RepAll c (un F c.bo) vs (uns ds)
  | [], _, _, _, _, r => by cases r; exact .nil
  | d :: ds, _, _, h1, h2, r => by
    cases r with
    | cons q t => exact .cons (un_rep d _ h1 h2 q) (uns_rep ds _ h1 h2 t)
end
theorem unB_RepB {F : Hp} {v : V} {d : D} (h1 : Same F H) (h2 : Same c.bo H) (r : RepB c F H v d) : RepB c (un F c.bo) H v d.un := by
  rcases r with r | ⟨a, vs, ds, e1, e2, e3, e4, r⟩
  · exact .inl (un_rep d v h1 h2 r)
  · subst e2
    exact .inr ⟨a, vs, uns ds, e1, rfl, e3, e4, uns_rep ds vs h1 h2 r⟩
end
/-- an outcome that is no object, of all that is looked through -/
def hI (h : D → D → M D) (x y : D) : M D := h x.un y.un >>= fun d => if d.imm then pure d else stuck
def hU (h : D → M D) (x : D) : M D := h x.un >>= fun d => if d.imm then pure d else stuck
section
variable {X : Cx} {c : C} {f : Value → Value → Sem Value} {u : Value}
theorem oD_i {h : D → D → M D} {x y : V} {H : Hp} {Q : VK} : oD c (hI h) x y H Q → oD c h x y H Q := fun ⟨F, d, e, d', g, g', le, gen, rx, ry, o, q⟩ => by
  obtain ⟨d1, g1, o1, o⟩ := ok_bind.mp o
  split at o
  · rename_i hi
    obtain ⟨rfl, rfl⟩ := ok_pure.mp o
    exact ⟨un F c.bo, d.un, e.un, d1, g, g1, un_le le gen.bo, GenOk.unB gen, unB_RepB le gen.bo rx, unB_RepB le gen.bo ry, o1, fun v F' H' s r => q v F H' (Stp.unB gen le s) (imm_any hi r)⟩
  · exact absurd o not_ok_stuck
theorem op_i {h : D → D → M D} (ho : OpR X f (oD c h)) : OpR X f (oD c (hI h)) := fun pins s σ H x y a b Q I r1 r2 q => ho pins s σ H x y a b Q I r1 r2 (oD_i q)
theorem uD_i {h : D → M D} {x : V} {H : Hp} {Q : VK} : uD c (hU h) x H Q → uD c h x H Q := fun ⟨F, d, d', g, g', le, gen, rx, o, q⟩ => by
  obtain ⟨d1, g1, o1, o⟩ := ok_bind.mp o
  split at o
  · rename_i hi
    obtain ⟨rfl, rfl⟩ := ok_pure.mp o
    exact ⟨un F c.bo, d.un, d1, g, g1, un_le le gen.bo, GenOk.unB gen, unB_RepB le gen.bo rx, o1, fun v F' H' s r => q v F H' (Stp.unB gen le s) (imm_any hi r)⟩
  · exact absurd o not_ok_stuck
theorem c1_i {h : D → M D} (hc : CallR X u (c1 c h)) : CallR X u (c1 c (hU h)) := fun pins s σ H xs us Q I r ⟨x, e, q⟩ => hc pins s σ H xs us Q I r ⟨x, e, uD_i q⟩
end
/-- a list that is read alone, as a list of what is read alone -/
def dUw (d : D) : M D := match d with
  | .bor (.lst xs) => pure (.lst (xs.map wrapB))
  | d => pure d
section
variable {X : Cx} {c : C} {a e : Expr} {f : E} {pos : Pos}
theorem d_uw (h : PE X a (tP c f)) : PE X a (tR c (eF dUw f)) := h.imp fun σ H Q ⟨H0, F, δ, g, d, g', w, o, q⟩ => by
  obtain ⟨x, g1, o1, o⟩ := ok_bind.mp o
  unfold dUw at o
  split at o
  · obtain ⟨rfl, rfl⟩ := ok_pure.mp o
    refine ⟨H0, F, δ, g, _, g1, w, o1, fun v F1 H1 s1 r1 => ?_⟩
    cases r1 with
    | bor r1 =>
      cases r1 with
      | @lst _ a vs _ ea ra => exact q _ F1 H1 s1 (.inr ⟨a, vs, _, rfl, rfl, s1.gen.bo _ _ ea, fun n => (by rw [s1.gen.nb a n] at ea; cases ea), wrapB_rep ra⟩)
  · obtain ⟨rfl, rfl⟩ := ok_pure.mp o
    exact ⟨H0, F, δ, g, _, g1, w, o1, fun v F1 H1 s1 r1 => q v F1 H1 s1 r1.b⟩
end
/-! ### calls with an outcome that is no object -/
/-- f(e, ..) of all that is looked through -/
def eCallD (Fs : List D → M D) (fs : Es) : E := fun δ => fs δ >>= fun ds => Fs (uns ds) >>= fun d => if d.imm then pure d else stuck
def eCallDK (Fs : List D → M D) (ix : List Nat) (fs : Es) : E := fun δ => fs δ >>= fun ds => Fs (pick ix (uns ds)) >>= fun d => if d.imm then pure d else stuck
section
variable {X : Cx} {j k : Nat} {ps ks : List Str} {Fs : List D → M D} {x : Str} {st : Stmt} {p pos : Pos} {e : Expr} {es : List Expr} {fs gs : Es} {ga : Option Addr} {bo : Hp} {kws : List Keyword}
theorem dcD (C : Cal X.prog X.w X.K X.mg X.base j x st ps Fs) (hr : Room k X.A) (hgd : X.A.guards = some []) (ha : PA X (e :: es) (tAs ⟨X.K, X.mg, ga, bo⟩ fs)) (hj : j ≤ k := by decide) (hg : Gl X x := by rfl)
    (hdb : (x == ("__debug__" : Str)) = false := by decide) (he : starEach (e :: es) X.env = (false, eval e X.env) :: starEach es X.env := by rfl) (hpl : (backTo pos (starEach es X.env)).any (·.1) = false := by rfl) :
    PE X (.Call (.Name x p) (e :: es) [] pos) (tP ⟨X.K, X.mg, ga, bo⟩ (eCallD Fs fs)) := by
  obtain ⟨f, fd, h1, h2, h3, h4⟩ := C.ex
  refine (pe_callQ (h4.q.mono hj) hr hgd h1 h2.kp h3 ha hg hdb he hpl).imp fun σ H Q ⟨H0, F1, δ, g, d, g', w, o, q⟩ => ?_
  obtain ⟨ds, g1, o1, o⟩ := ok_bind.mp o
  obtain ⟨d1, g2, o2, o⟩ := ok_bind.mp o
  split at o
  · rename_i hi
    obtain ⟨rfl, rfl⟩ := ok_pure.mp o
    refine ⟨H0, F1, δ, g, ds, g1, w, o1, fun vs F1 H1 s1 r1 => ⟨by rw [r1.length, ← List.length_map (f := D.un), ← uns_map]; exact h4.ar _ _ _ _ o2, ga, bo, un F1 bo, _, g1, d1, g2, un_le s1.le s1.gen.bo, GenOk.unB (c := ⟨X.K, X.mg, ga, bo⟩) s1.gen, uns_rep (c := ⟨X.K, X.mg, ga, bo⟩) ds vs s1.le s1.gen.bo r1, o2, fun v F2 H2 s2 r2 => ?_⟩⟩
    exact q v F1 H2 (s1.trans (Stp.unB (c := ⟨X.K, X.mg, ga, bo⟩) s1.gen s1.le s2)) (imm_any hi r2)
  · exact absurd o not_ok_stuck
theorem dcDK0 {ix : List Nat} (C : Cal X.prog X.w X.K X.mg X.base j x st ps Fs) (hr : Room k X.A) (hgd : X.A.guards = some []) (hkw : KwOk x st ps ks 0 ix) (hks : PK X kws (tAs ⟨X.K, X.mg, ga, bo⟩ gs)) (hn2 : EsN ks.length gs) (hj : j ≤ k := by decide)
    (hg : Gl X x := by rfl) (hall : (backToKw pos (keywordEach kws X.env)).all (·.1.isSome) = true := by rfl) (hke : (backToKw pos (keywordEach kws X.env)).filterMap (·.1) = ks := by rfl)
    (hdb : (x == ("__debug__" : Str)) = false := by decide) (hpl : ((backTo pos (starEach [] X.env)).any (·.1) || (backToKw pos (keywordEach kws X.env)).any (·.1.isNone)) = false := by rfl) :
    PE X (.Call (.Name x p) [] kws pos) (tP ⟨X.K, X.mg, ga, bo⟩ (eCallDK Fs ix gs)) := by
  obtain ⟨f, fd, h1, h2, h3, h4⟩ := C.ex
  refine (pe_callQK0 (h4.q.mono hj) hr hgd h1 h2.kp (kwB_of h2 hkw) hks hg hall hke hdb hpl).imp fun σ H Q ⟨H0, F1, δ, g, d, g', w, o, q⟩ => ?_
  obtain ⟨ds, g1, o1, o⟩ := ok_bind.mp o
  obtain ⟨d1, g2, o2, o⟩ := ok_bind.mp o
  split at o
  · rename_i hi
    obtain ⟨rfl, rfl⟩ := ok_pure.mp o
    refine ⟨H0, F1, δ, g, ds, g1, w, o1, fun vs F1 H1 s1 r1 => ⟨by rw [r1.length]; exact hn2 _ _ _ _ o1, ga, bo, un F1 bo, _, g1, d1, g2, un_le s1.le s1.gen.bo, GenOk.unB (c := ⟨X.K, X.mg, ga, bo⟩) s1.gen, pick_rep (uns_rep (c := ⟨X.K, X.mg, ga, bo⟩) ds vs s1.le s1.gen.bo r1), o2, fun v F2 H2 s2 r2 => ?_⟩⟩
    exact q v F1 H2 (s1.trans (Stp.unB (c := ⟨X.K, X.mg, ga, bo⟩) s1.gen s1.le s2)) (imm_any hi r2)
  · exact absurd o not_ok_stuck
end

/-! ### the scope -/
/-- a slot at a scope's begin: what it holds is read alone -/
def wrapSl : Sl → Sl
  | .val .gen => .val .gen
  | .val (.fn x) => .val (.fn x)
  | .val d => if d.nb then .val (wrapB d) else .no
  | _ => .no
/-- a slot behind it: what is new is forgotten -/
def unSl : Sl → Sl
  | .val .gen => .val .gen
  | .val (.fn x) => .val (.fn x)
  | .val (.bor d) => if d.nb then .val d else .no
  | .val d => if d.imm then .val d else .no
  | _ => .no
theorem unSl_imm {d : D} (h : d.imm = true) : unSl (.val d) = .val d := by
  cases d <;> first | rfl | (cases h; done)
abbrev Cin (c : C) (F : Hp) : C := ⟨c.K, c.mg, c.ga, F⟩
theorem wrap_slot {c : C} {F : Hp} {v : V} {d e : D} (hs : wrapSl (.val d) = .val e) (r : Rep c F v d) : Rep (Cin c F) (fun _ => none) v e := by
  have gen : ∀ d : D, d.nb = true → Rep c F v d → Rep (Cin c F) (fun _ => none) v (wrapB d) := fun d n r => by
    have r' := Rep.re (c := c) (c' := Cin c F) rfl rfl d v n r
    unfold wrapB
    split
    · rename_i hi
      exact imm_any hi r'
    · exact .bor r'
  have other : ∀ d : D, Rep c F v d → wrapSl (.val d) = .val e → wrapSl (.val d) = (if D.nb d then Sl.val (wrapB d) else Sl.no) → Rep (Cin c F) (fun _ => none) v e := fun d r hs hd => by
    rw [hd] at hs
    split at hs
    · rename_i n
      cases hs
      exact gen _ n r
    · cases hs
  cases d with
  | gen =>
    cases hs
    cases r with
    | gen q => exact .gen q
  | fn x =>
    cases hs
    cases r with
    | fn q => exact .fn q
  | _ => exact other _ r hs rfl
theorem un_slot {c : C} {F F1 : Hp} {v : V} {d e : D} (hs : unSl (.val d) = .val e) (r : Rep (Cin c F) F1 v d) : Rep c F v e := by
  cases d with
  | gen =>
    cases hs
    cases r with
    | gen q => exact .gen q
  | fn x =>
    cases hs
    cases r with
    | fn q => exact .fn q
  | bor d =>
    replace hs : (if D.nb d then Sl.val d else Sl.no) = Sl.val e := hs
    split at hs
    · rename_i n
      cases hs
      cases r with
      | bor q => exact Rep.re (c := Cin c F) (c' := c) rfl rfl _ v n q
    · cases hs
  | non => cases hs; cases r; exact .non
  | bl b => cases hs; cases r; exact .bl b
  | int b => cases hs; cases r; exact .int b
  | str b => cases hs; cases r; exact .str b
  | _ => cases hs
def sScope (s : S) : S := fun δ => s (δ.map wrapSl) >>= fun r => match r with
  | .rt d => if d.imm then pure (.rt d) else stuck
  | r => pure r
/-- within: c the outer world, F what was relied on, HE the heap at the begin -/
def tSS (c : C) (s : S) : TS := fun D σ H => ∃ F0 H0 F HE gE F1 δ g r g', Stp c F0 H0 F HE gE ∧ Same c.bo H0 ∧ Wd (Cin c F) HE F1 H σ δ g ∧ Stp (Cin c F) (fun _ => none) HE F1 H g ∧ Ok (s δ) g r g' ∧ match r with
  | .nx δ' => ∀ σ' H', Wd c H0 F H' σ' δ' g' → Stp c F0 H0 F H' g' → D.nx σ' H'
  | .rt d => d.imm = true ∧ ∀ v H', Stp c F0 H0 F H' g' → Rep c F v d → D.rt v H'
  | .bk δ' => ∀ σ' H', Wd c H0 F H' σ' δ' g' → Stp c F0 H0 F H' g' → D.bk σ' H'
  | .ct δ' => ∀ σ' H', Wd c H0 F H' σ' δ' g' → Stp c F0 H0 F H' g' → D.ct σ' H'
/-- from within to without, where all but new objects is as it was -/
theorem scope_out {c : C} {F0 H0 F HE F1 H H' : Hp} {gE g : Gs} {σ : L2.St} {δ : Dlt} (so : Stp c F0 H0 F HE gE) (hb : Same c.bo H0) (w : Wd (Cin c F) HE F1 H σ δ g) (si : Stp (Cin c F) (fun _ => none) HE F1 H g)
    (hH : ∀ a, F1 a = none → H' a = H a) : Wd c H0 F H' σ (δ.map unSl) g ∧ Stp c F0 H0 F H' g := by
  have new : ∀ a, F1 a ≠ none → HE a = none := fun a h => si.new a h rfl
  have old : ∀ a o, c.ga ≠ some a → HE a = some o → H' a = some o := fun a o n e => by
    rw [hH a ?_]
    · exact si.ext a o n e
    · cases q : F1 a with
      | none => rfl
      | some u => rw [new a (by rw [q]; simp)] at e; cases e
  have genF : ∀ a, c.ga = some a → F a = none := fun a n => (so.gen.gen a n).1
  have leH : Same F H' := fun a o e => old a o (fun n => by rw [genF a n] at e; cases e) (so.le a o e)
  have gen : GenOk c F H' g := ⟨fun a n => ⟨genF a n, by
    obtain ⟨q1, q2⟩ := si.gen.gen a n
    rw [hH a q1]; exact q2⟩, fun a o e => old a o (fun n => by rw [so.gen.nb a n] at e; cases e) (so.gen.bo a o e), so.gen.nb⟩
  have st : Stp c F0 H0 F H' g := ⟨so.sub, fun a o n e => old a o n (so.ext a o n e), so.new, leH, gen⟩
  refine ⟨⟨leH, gen, by rw [List.length_map]; exact w.len, fun i d h => ?_, fun i xs h => ?_, fun i j xs ys _ h => ?_, hb⟩, st⟩
  · rw [List.getElem?_map] at h
    cases e : δ[i]? with
    | none => rw [e] at h; cases h
    | some sl =>
      rw [e] at h
      have h : unSl sl = .val d := Option.some.inj h
      cases sl with
      | val d0 =>
        obtain ⟨v, e1, r⟩ := w.val i d0 e
        exact ⟨v, e1, un_slot h r⟩
      | no => cases h
      | own xs => cases h
  all_goals
    rw [List.getElem?_map] at h
    cases e : δ[i]? with
    | none => rw [e] at h; cases h
    | some sl =>
      rw [e] at h
      have h : unSl sl = .own xs := Option.some.inj h
      cases sl with
      | no => cases h
      | own xs => cases h
      | val d0 =>
        unfold unSl at h
        split at h <;> first | (cases h; done) | (split at h <;> cases h)
section
variable {X : Cx} {c : C} {a b e : Expr} {st : Stmt} {sts xs ys : List Stmt} {s t : S} {f fa fb : E} {pos : Pos}
theorem dss_scope (h : PSs X sts (tSS c s)) : PSs X sts (tS c (sScope s)) := h.imp fun D σ H ⟨F0, H0, F, δ, g, r, g', w, sp, o, q⟩ => by
  have wi : Wd (Cin c F) H (fun _ => none) H σ (δ.map wrapSl) g := by
    refine ⟨fun a o e => (by cases e), ⟨fun a n => ⟨rfl, (w.gen.gen a n).2⟩, w.le, fun a n => (w.gen.gen a n).1⟩, by rw [List.length_map]; exact w.len, fun i d h => ?_, fun i xs h => ?_, fun i j xs ys _ h => ?_, w.le⟩
    · rw [List.getElem?_map] at h
      cases e : δ[i]? with
      | none => rw [e] at h; cases h
      | some sl =>
        rw [e] at h
        have h : wrapSl sl = .val d := Option.some.inj h
        cases sl with
        | val d0 =>
          obtain ⟨v, e1, r⟩ := w.val i d0 e
          exact ⟨v, e1, wrap_slot h r⟩
        | no => cases h
        | own xs => cases h
    all_goals
      rw [List.getElem?_map] at h
      cases e : δ[i]? with
      | none => rw [e] at h; cases h
      | some sl =>
        rw [e] at h
        have h : wrapSl sl = .own xs := Option.some.inj h
        cases sl with
        | no => cases h
        | own xs => cases h
        | val d0 =>
          unfold wrapSl at h
          split at h <;> first | (cases h; done) | (split at h <;> cases h)
  obtain ⟨r1, g1, o1, o⟩ := ok_bind.mp o
  refine ⟨F0, H0, F, H, g, fun _ => none, _, g, r1, g1, sp, w.bo0, wi, .refl wi.le wi.gen, o1, ?_⟩
  cases r1 with
  | nx δ' =>
    obtain ⟨rfl, rfl⟩ := ok_pure.mp o
    exact fun σ' H' w' sp' => q σ' F H' w' sp' (.refl F)
  | rt d =>
    replace o : Ok (if d.imm then pure (Fl.rt d) else stuck) g1 r g' := o
    split at o
    · rename_i hi
      obtain ⟨rfl, rfl⟩ := ok_pure.mp o
      exact ⟨hi, fun v H' sp' r' => q v F H' sp' r'⟩
    · exact absurd o not_ok_stuck
  | bk δ' =>
    obtain ⟨rfl, rfl⟩ := ok_pure.mp o
    exact fun σ' H' w' sp' => q σ' F H' w' sp' (.refl F)
  | ct δ' =>
    obtain ⟨rfl, rfl⟩ := ok_pure.mp o
    exact fun σ' H' w' sp' => q σ' F H' w' sp' (.refl F)
end
/-! ### within a scope -/
theorem scope_stp {c : C} {F0 H0 F HE F1 H H' : Hp} {gE g : Gs} (so : Stp c F0 H0 F HE gE) (si : Stp (Cin c F) (fun _ => none) HE F1 H g) (hH : ∀ a, F1 a = none → H' a = H a) : Stp c F0 H0 F H' g := by
  have new : ∀ a, F1 a ≠ none → HE a = none := fun a h => si.new a h rfl
  have old : ∀ a o, c.ga ≠ some a → HE a = some o → H' a = some o := fun a o n e => by
    rw [hH a ?_]
    · exact si.ext a o n e
    · cases q : F1 a with
      | none => rfl
      | some u => rw [new a (by rw [q]; simp)] at e; cases e
  have genF : ∀ a, c.ga = some a → F a = none := fun a n => (so.gen.gen a n).1
  have leH : Same F H' := fun a o e => old a o (fun n => by rw [genF a n] at e; cases e) (so.le a o e)
  have gen : GenOk c F H' g := ⟨fun a n => ⟨genF a n, by
    obtain ⟨q1, q2⟩ := si.gen.gen a n
    rw [hH a q1]; exact q2⟩, fun a o e => old a o (fun n => by rw [so.gen.nb a n] at e; cases e) (so.gen.bo a o e), so.gen.nb⟩
  exact ⟨so.sub, fun a o n e => old a o n (so.ext a o n e), so.new, leH, gen⟩
/-- a statement's reading, whatever is read alone -/
def tSw (K : PySem.W.Frag) (mg : Str → Option Value) (s : S) : TS := fun D σ H => ∃ ga bo, tS ⟨K, mg, ga, bo⟩ s D σ H
theorem psw {X : Cx} {st : Stmt} {s : S} (h : ∀ ga bo, PS X st (tS ⟨X.K, X.mg, ga, bo⟩ s)) : PS X st (tSw X.K X.mg s) := ⟨fun pins t σ H D I ⟨ga, bo, q⟩ => (h ga bo).run pins t σ H D I q⟩
def tTw (K : PySem.W.Frag) (mg : Str → Option Value) (f : E) : TT := fun σ H Q => ∃ ga bo, tT ⟨K, mg, ga, bo⟩ f σ H Q
theorem ptw {X : Cx} {e : Expr} {f : E} (h : ∀ ga bo, PT X e (tT ⟨X.K, X.mg, ga, bo⟩ f)) : PT X e (tTw X.K X.mg f) := ⟨fun pins t σ H Q I ⟨ga, bo, q⟩ => (h ga bo).run pins t σ H Q I q⟩
theorem imm_c {c c' : C} {F F' : Hp} {v : V} {d : D} (h : d.imm = true) (r : Rep c F v d) : Rep c' F' v d := by
  cases d with
  | non => cases r; exact .non
  | bl b => cases r; exact .bl b
  | int i => cases r; exact .int i
  | str x => cases r; exact .str x
  | _ => cases h
def sSeqS (a t : S) : S := fun δ => a δ >>= fun r => match r with
  | .nx δ1 => t δ1
  | .rt d => if d.imm then pure (.rt d) else stuck
  | .bk δ1 => pure (.bk (δ1.map unSl))
  | .ct δ1 => pure (.ct (δ1.map unSl))
def sUn : S := fun δ => pure (.nx (δ.map unSl))
section
variable {X : Cx} {c : C} {a b e : Expr} {st : Stmt} {sts xs ys : List Stmt} {s t : S} {f fa fb fc : E} {pos : Pos} {ga : Option Addr} {bo : Hp}
theorem dSS_nil : PSs X [] (tSS c sUn) := pss_nil.imp fun D σ H ⟨F0, H0, F, HE, gE, F1, δ, g, r, g', so, hb, w, si, o, q⟩ => by
  obtain ⟨rfl, rfl⟩ := ok_pure.mp o
  obtain ⟨w', s'⟩ := scope_out so hb w si (fun _ _ => rfl)
  exact q σ H w' s'
theorem dSS_cons (h1 : ∀ ga bo, PS X st (tS ⟨X.K, X.mg, ga, bo⟩ s)) (h2 : PSs X sts (tSS ⟨X.K, X.mg, ga, bo⟩ t)) : PSs X (st :: sts) (tSS ⟨X.K, X.mg, ga, bo⟩ (sSeqS s t)) :=
  (pss_cons (psw h1) h2).imp fun D σ H ⟨F0, H0, F, HE, gE, F1, δ, g, r, g', so, hb, w, si, o, q⟩ => by
    obtain ⟨r1, g1, o1, o⟩ := ok_bind.mp o
    refine ⟨ga, F, fun _ => none, HE, F1, δ, g, r1, g1, w, si, o1, ?_⟩
    cases r1 with
    | nx δ1 => exact fun σ' F' H' w' si' _ => ⟨F0, H0, F, HE, gE, F', δ1, g1, r, g', so, hb, w', si', o, q⟩
    | rt d =>
      replace o : Ok (if d.imm then pure (Fl.rt d) else stuck) g1 r g' := o
      split at o
      · rename_i hi
        obtain ⟨rfl, rfl⟩ := ok_pure.mp o
        exact fun v F' H' si' r' => q.2 v H' (scope_stp so si' fun _ _ => rfl) (imm_c hi r')
      · exact absurd o not_ok_stuck
    | bk δ1 =>
      obtain ⟨rfl, rfl⟩ := ok_pure.mp o
      exact fun σ' F' H' w' si' _ => by
        obtain ⟨w2, s2⟩ := scope_out so hb w' si' (fun _ _ => rfl)
        exact q σ' H' w2 s2
    | ct δ1 =>
      obtain ⟨rfl, rfl⟩ := ok_pure.mp o
      exact fun σ' F' H' w' si' _ => by
        obtain ⟨w2, s2⟩ := scope_out so hb w' si' (fun _ _ => rfl)
        exact q σ' H' w2 s2
theorem dSS_if (hc : ∀ ga bo, PT X a (tT ⟨X.K, X.mg, ga, bo⟩ fc)) (ha : PSs X xs (tSS ⟨X.K, X.mg, ga, bo⟩ s)) (hb : PSs X ys (tSS ⟨X.K, X.mg, ga, bo⟩ t)) : PSs X [.If a xs ys pos] (tSS ⟨X.K, X.mg, ga, bo⟩ (sIf fc s t)) :=
  (pss_one (ps_if (ptw hc) ha hb)).imp fun D σ H ⟨F0, H0, F, HE, gE, F1, δ, g, r, g', so, hb, w, si, o, q⟩ => by
    obtain ⟨x, g1, o1, o⟩ := ok_bind.mp o
    have fin : ∀ (u : S) F2 H2, Stp (Cin ⟨X.K, X.mg, ga, bo⟩ F) F1 H F2 H2 g1 → Ok (u δ) g1 r g' → tSS ⟨X.K, X.mg, ga, bo⟩ u D σ H2 := fun u F2 H2 s1 ou => ⟨F0, H0, F, HE, gE, F2, δ, g1, r, g', so, hb, w.step s1, si.trans s1, ou, q⟩
    split at o
    · exact ⟨ga, F, HE, F1, δ, g, true, g1, w, o1, fun F2 H2 s1 => iteT (fin s F2 H2 s1 o)⟩
    · exact ⟨ga, F, HE, F1, δ, g, false, g1, w, o1, fun F2 H2 s1 => iteF (fin t F2 H2 s1 o)⟩
    · exact absurd o not_ok_stuck
end

/-! ### spoiling -/
mutual
/-- lists that are not too long, all the way down -/
def D.sm : D → Bool
  | .lst xs => decide (xs.length ≤ 1000000) && sms xs
  | .tup xs => sms xs
  | _ => true
def sms : List D → Bool
  | [] => true
  | x :: xs => x.sm && sms xs
end
def D.isLT : D → Bool
  | .lst _ => true
  | .tup _ => true
  | _ => false
mutual
/-- v has the shape of d, its lists (all in N) perhaps longer -/
inductive RepS (H : Hp) (N : Addr → Prop) (B : Nat) : V → D → Prop
  | lst {a : Addr} {vs ex : List V} {ds : List D} : H a = some (.lst (vs ++ ex)) → N a → (vs ++ ex).length + B ≤ sizeLine → RepSs H N B vs ds → RepS H N B (.ref a) (.lst ds)
  | tup {a : Addr} {vs : List V} {ds : List D} : H a = some (.tup vs) → RepSs H N B vs ds → RepS H N B (.ref a) (.tup ds)
  | oth {v : V} {d : D} : d.isLT = false → RepS H N B v d
inductive RepSs (H : Hp) (N : Addr → Prop) (B : Nat) : List V → List D → Prop
  | nil : RepSs H N B [] []
  | cons {v : V} {vs : List V} {d : D} {ds : List D} : RepS H N B v d → RepSs H N B vs ds → RepSs H N B (v :: vs) (d :: ds)
end
theorem RepSs.get {H : Hp} {N : Addr → Prop} {B : Nat} : ∀ {vs : List V} {ds : List D} {k : Nat} {d : D}, RepSs H N B vs ds → ds[k]? = some d → ∃ v, vs[k]? = some v ∧ RepS H N B v d
  | _, _, _, _, .nil, e => by simp at e
  | _, _, 0, _, .cons r _, e => by simp at e; subst e; exact ⟨_, rfl, r⟩
  | _, _, k + 1, d, .cons _ t, e => by
    obtain ⟨v, h1, h2⟩ := RepSs.get (k := k) (d := d) t (by simpa using e)
    exact ⟨v, by simpa using h1, h2⟩
section
variable {c : C} {F H : Hp} {B : Nat}
mutual
theorem reps_of (le : Same F H) (hB : B ≤ 1000000) : ∀ (d : D) (v : V), d.sm = true → Rep c F v d → RepS H (fun a => F a ≠ none) B v d
  | .lst ds, _, h, r => by
    simp only [D.sm, Bool.and_eq_true, decide_eq_true_eq] at h
    cases r with
    | @lst _ a vs _ e q =>
      have l := q.length
      refine .lst (ex := []) (by rw [List.append_nil]; exact le _ _ e) (by rw [e]; simp) (by rw [List.append_nil, sizeLine_eq, l]; omega) (reps_ofs le hB ds vs h.2 q)
  | .tup ds, _, h, r => by
    cases r with
    | @tup _ a vs _ e q => exact .tup (le _ _ e) (reps_ofs le hB ds vs (by simpa [D.sm] using h) q)
  | .non, _, _, _ => .oth rfl
  | .bl _, _, _, _ => .oth rfl
  | .int _, _, _, _ => .oth rfl
  | .str _, _, _, _ => .oth rfl
  | .dct _, _, _, _ => .oth rfl
  | .gen, _, _, _ => .oth rfl
  | .fn _, _, _, _ => .oth rfl
  | .exc _ _, _, _, _ => .oth rfl
  | .thr _ _, _, _, _ => .oth rfl
  | .bor _, _, _, _ => .oth rfl
theorem reps_ofs (le : Same F H) (hB : B ≤ 1000000) : ∀ (ds : List D) (vs : List V), sms ds = true → RepAll c F vs ds → RepSs H (fun a => F a ≠ none) B vs ds
  | [], _, _, r => by cases r; exact .nil
  | d :: ds, _, h, r => by
    simp only [sms, Bool.and_eq_true] at h
    cases r with
    | cons q t => exact .cons (reps_of le hB d _ h.1 q) (reps_ofs le hB ds _ h.2 t)
end
variable {N : Addr → Prop}
mutual
theorem reps_grow {b : Addr} {ys : List V} {x : V} (hb : H b = some (.lst ys)) : ∀ (d : D) (v : V), RepS H N (B + 1) v d → RepS (upd H b (.lst (ys ++ [x]))) N B v d
  | .lst ds, _, r => by
    cases r with
    | @lst a vs ex _ e n l q =>
      by_cases h : a = b
      · subst h
        rw [hb] at e
        cases e
        exact .lst (ex := ex ++ [x]) (by rw [upd_same, List.append_assoc]) n (by rw [← List.append_assoc, List.length_append]; simp only [List.length_cons, List.length_nil]; omega) (reps_grows hb ds vs q)
      · exact .lst (by rw [upd_ne h]; exact e) n (by omega) (reps_grows hb ds vs q)
    | oth h => cases h
  | .tup ds, _, r => by
    cases r with
    | @tup a vs _ e q =>
      have h : a ≠ b := fun z => by rw [z, hb] at e; cases e
      exact .tup (by rw [upd_ne h]; exact e) (reps_grows hb ds vs q)
    | oth h => cases h
  | .non, _, _ => .oth rfl
  | .bl _, _, _ => .oth rfl
  | .int _, _, _ => .oth rfl
  | .str _, _, _ => .oth rfl
  | .dct _, _, _ => .oth rfl
  | .gen, _, _ => .oth rfl
  | .fn _, _, _ => .oth rfl
  | .exc _ _, _, _ => .oth rfl
  | .thr _ _, _, _ => .oth rfl
  | .bor _, _, _ => .oth rfl
theorem reps_grows {b : Addr} {ys : List V} {x : V} (hb : H b = some (.lst ys)) : ∀ (ds : List D) (vs : List V), RepSs H N (B + 1) vs ds → RepSs (upd H b (.lst (ys ++ [x]))) N B vs ds
  | [], _, r => by cases r; exact .nil
  | d :: ds, _, r => by
    cases r with
    | cons q t => exact .cons (reps_grow hb d _ q) (reps_grows hb ds _ t)
end
end
/-- a path into what a slot holds, its last step first -/
def dfol (d : D) : List Nat → Option D
  | [] => some d
  | k :: p => (dfol d p).bind fun e => match e with
    | .lst xs => xs[k]?
    | .tup xs => xs[k]?
    | _ => none
inductive Fol (H : Hp) (v : V) : List Nat → V → Prop
  | nil : Fol H v [] v
  | step {p : List Nat} {k : Nat} {b : Addr} {xs : List V} {w : V} : Fol H v p (.ref b) → (H b = some (.lst xs) ∨ H b = some (.tup xs)) → xs[k]? = some w → Fol H v (k :: p) w
theorem fol_of {H : Hp} {N : Addr → Prop} {B : Nat} {v : V} {d : D} (r : RepS H N B v d) : ∀ {p : List Nat} {e : D}, dfol d p = some e → ∃ w, Fol H v p w ∧ RepS H N B w e
  | [], e, h => by cases h; exact ⟨v, .nil, r⟩
  | k :: p, e, h => by
    obtain ⟨e1, h1, h2⟩ := Option.bind_eq_some_iff.mp h
    obtain ⟨w, f, rw'⟩ := fol_of r h1
    cases e1 with
    | lst xs =>
      cases rw' with
      | @lst a vs ex _ e2 n l q =>
        obtain ⟨u, q1, q2⟩ := q.get h2
        exact ⟨u, .step f (.inl e2) (by rw [List.getElem?_append_left (List.getElem?_eq_some_iff.mp q1).1]; exact q1), q2⟩
      | oth h => cases h
    | tup xs =>
      cases rw' with
      | @tup a vs _ e2 q =>
        obtain ⟨u, q1, q2⟩ := q.get h2
        exact ⟨u, .step f (.inr e2) q1, q2⟩
      | oth h => cases h
    | _ => cases h2
def tAt (i : Nat) (p : List Nat) : TE := fun σ H Q => ∃ v w, σ[i]? = some (some v) ∧ Fol H v p w ∧ Q w H
section
variable {X : Cx} {a e : Expr} {i k : Nat} {p : List Nat}
theorem pa_nm (h : PE X a (tVar i)) : PE X a (tAt i []) := h.imp fun σ H Q ⟨v, w, e, f, q⟩ => by
  cases f
  exact ⟨v, e, q⟩
theorem pa_ix {j : Nat} {kp ip : Pos} (h : PE X a (tAt i p)) : PE X (.Subscript a (.Constant (.int (k : Nat)) j kp) ip) (tAt i (k :: p)) := (pe_ix ix_seq h pe_int (fun _ _ => rfl)).imp fun σ H Q ⟨v, w, e, f, q⟩ => by
  cases f with
  | @step _ _ b xs _ f hb hk =>
    refine ⟨v, _, e, f, ?_⟩
    rcases hb with hb | hb
    · exact .inl ⟨b, xs, _, w, rfl, rfl, SqL.of hb, atI_nat hk, q⟩
    · exact .inr (.inl ⟨b, xs, _, w, rfl, rfl, SqT.of hb, atI_nat hk, q⟩)
/-- ..append('odd') -/
def tOddP (i : Nat) (p : List Nat) : TS := fun D σ H => ∃ v b ys, σ[i]? = some (some v) ∧ Fol H v p (.ref b) ∧ H b = some (.lst ys) ∧ ys.length < sizeLine ∧ D.nx σ (upd H b (.lst (ys ++ [.str "odd"])))
theorem ps_oddP {apos pos p2 sp : Pos} {sj : Nat} (hv : PE X a (tAt i p)) (hbase : attributeBase a "append" X.env (eval a X.env) = eval a X.env := by rfl)
    (hfew : ((backTo pos (starEach [.Constant (.str "odd") sj sp] X.env)).all (fun x => !x.1) && (backToKw pos (keywordEach [] X.env)).all (fun x => x.1.isSome) && decide ([Expr.Constant (.str "odd") sj sp].length + ([] : List Keyword).length + (if ([] : List Keyword).isEmpty then 0 else 1) < 30)) = true := by rfl)
    (hline : (apos.endLine == pos.line) = true := by rfl) (hs : starEach [.Constant (.str "odd") sj sp] X.env = (false, eval (.Constant (.str "odd") sj sp) X.env) :: starEach [] X.env := by rfl)
    (hsw : swapsWith (.Call (.Attribute a "append" apos) [.Constant (.str "odd") sj sp] [] pos) none p2.line X.env = pure false := by rfl) :
    PS X (.Expr (.Call (.Attribute a "append" apos) [.Constant (.str "odd") sj sp] [] pos) p2) (tOddP i p) :=
  (ps_expr (pe_bm PySem.F.plainAttrs_list PySem.F.slot_list_append PySem.F.type_list_append mt_append hv (pa_cons pe_str pa_nil hs) hbase hfew hline hs rfl) hsw).imp fun D σ H ⟨v, b, ys, e, f, h, hz, q⟩ =>
    ⟨v, .ref b, e, f, .inl ⟨rfl, ys, SqL.of h⟩, b, ys, .str "odd", rfl, rfl, h, hz, q⟩
def tOdds : List (Nat × List Nat) → TS
  | [] => tNext
  | q :: r => tSeq (tOddP q.1 q.2) (tOdds r)
theorem pso_nil : PSs X [] (tOdds []) := pss_nil
theorem pso_cons {st : Stmt} {sts : List Stmt} {r : List (Nat × List Nat)} (h : PS X st (tOddP i p)) (t : PSs X sts (tOdds r)) : PSs X (st :: sts) (tOdds ((i, p) :: r)) := pss_cons h t
end
def okAt (δ : Dlt) (q : Nat × List Nat) : Bool := match δ[q.1]? with
  | some (.val d) => d.sm && (match dfol d q.2 with
    | some (.lst _) => true
    | _ => false)
  | _ => false
def sOdd (ps : List (Nat × List Nat)) : S := fun δ => if ps.length ≤ 1000 ∧ ps.all (okAt δ) = true then pure (.nx (δ.map unSl)) else stuck
theorem odds_run {F1 Hs : Hp} {De : Ends} {σ : L2.St} : ∀ (ps : List (Nat × List Nat)) (H : Hp), (∀ a, F1 a = none → H a = Hs a) → (∀ q ∈ ps, ∃ v d e, σ[q.1]? = some (some v) ∧ RepS H (fun a => F1 a ≠ none) ps.length v d ∧ dfol d q.2 = some (.lst e)) →
    (∀ H', (∀ a, F1 a = none → H' a = Hs a) → De.nx σ H') → tOdds ps De σ H
  | [], H, h1, _, h3 => h3 H h1
  | q :: r, H, h1, h2, h3 => by
    obtain ⟨v, d, e, e1, rd, e2⟩ := h2 q List.mem_cons_self
    obtain ⟨w, f, rw'⟩ := fol_of rd e2
    cases rw' with
    | oth h => cases h
    | @lst b vs ex _ e3 n l _ =>
      refine ⟨v, b, vs ++ ex, e1, f, e3, ?_, ?_⟩
      · rw [List.length_cons] at l
        omega
      · refine odds_run r _ (fun a ha => ?_) (fun q' hq => ?_) h3
        · rw [upd_ne (fun z => n (by rw [← z]; exact ha))]
          exact h1 a ha
        · obtain ⟨v', d', e', k1, k2, k3⟩ := h2 q' (List.mem_cons_of_mem _ hq)
          exact ⟨v', d', e', k1, reps_grow e3 d' v' (by rw [List.length_cons] at k2; exact k2), k3⟩
section
variable {X : Cx} {c : C} {sts : List Stmt} {ps : List (Nat × List Nat)}
theorem dSS_odd (h : PSs X sts (tOdds ps)) : PSs X sts (tSS c (sOdd ps)) := h.imp fun D σ H ⟨F0, H0, F, HE, gE, F1, δ, g, r, g', so, hb, w, si, o, q⟩ => by
  unfold sOdd at o
  split at o
  · rename_i hc
    obtain ⟨rfl, rfl⟩ := ok_pure.mp o
    refine odds_run (F1 := F1) (Hs := H) ps H (fun _ _ => rfl) (fun p hp => ?_) fun H' hH => ?_
    · have k := List.all_eq_true.mp hc.2 p hp
      unfold okAt at k
      split at k
      · rename_i d hd
        rw [Bool.and_eq_true] at k
        obtain ⟨v, e1, r⟩ := w.val _ _ hd
        obtain ⟨k1, k2⟩ := k
        split at k2
        · rename_i e he
          exact ⟨v, d, e, e1, reps_of w.le (by omega) d v k1 r, he⟩
        · cases k2
      · cases k
    · obtain ⟨w', s'⟩ := scope_out so hb w si hH
      exact q σ H' w' s'
  · exact absurd o not_ok_stuck
end
end DL

/-! ## DOps4 -/
set_option Elab.async false
set_option autoImplicit false
set_option linter.all false
set_option maxRecDepth 100000
set_option maxHeartbeats 4000000
/-! DOps4: x is True, repr of data with {} within, divmod, list(range(..)), reversed of what is read alone. -/
namespace DL
open PySem PySem.Spec PyProof.Rows L2
/-! ### is True, is False -/
def dIsBl (b : Bool) (d : D) : M D := match d with
  | .bl c => pure (.bl (decide (c = b)))
  | .bor _ => stuck
  | _ => pure (.bl false)
def dNotBl (b : Bool) (d : D) : M D := match d with
  | .bl c => pure (.bl (!decide (c = b)))
  | .bor _ => stuck
  | _ => pure (.bl true)
section
variable {M' : Model} {A : Around} {E : Value → Shared → Prop} {s : Shared}
theorem is_bl_gen {v : Value} {b : Bool} {Q : Value → Shared → Prop} (hv : ∀ p, v ≠ .builtin p) (h : Q (.bool (v == .bool b)) s) : wpAny M' A (compareOp .Is v (.bool b)) Q E s := by
  cases v with
  | builtin p => exact absurd rfl (hv p)
  | _ => exact wpAny_pure h
theorem isnot_bl_gen {v : Value} {b : Bool} {Q : Value → Shared → Prop} (hv : ∀ p, v ≠ .builtin p) (h : Q (.bool (!(v == .bool b))) s) : wpAny M' A (compareOp .IsNot v (.bool b)) Q E s := by
  cases v with
  | builtin p => exact absurd rfl (hv p)
  | _ => exact wpAny_pure h
end
theorem relV_bl {x : V} {v : Value} {b : Bool} (r : RelV x v) (hx : ∀ n, x ≠ .ty n) : (v == Value.bool b) = decide (x = .bl b) ∧ ∀ p, v ≠ .builtin p := by
  cases x with
  | non => cases r; exact ⟨rfl, fun p z => nomatch z⟩
  | bl c => cases r; exact ⟨by cases b <;> cases c <;> rfl, fun p z => nomatch z⟩
  | int _ => obtain ⟨t, rfl⟩ := r; exact ⟨rfl, fun p z => nomatch z⟩
  | str _ => obtain ⟨t, rfl⟩ := r; exact ⟨rfl, fun p z => nomatch z⟩
  | byt _ => obtain ⟨t, rfl⟩ := r; exact ⟨rfl, fun p z => nomatch z⟩
  | flt _ => obtain ⟨t, rfl⟩ := r; exact ⟨rfl, fun p z => nomatch z⟩
  | ref _ => cases r; exact ⟨rfl, fun p z => nomatch z⟩
  | ty n => exact absurd rfl (hx n)
section
variable {X : Cx} {c : C} {a e e2 : Expr} {fa f f2 : E} {pos p : Pos}
def blB (b : Bool) : D → Bool
  | .bl c => decide (c = b)
  | _ => false
theorem isBl_rep {F : Hp} {v : V} {d : D} {b : Bool} (hb : ∀ e, d ≠ .bor e) (r : Rep c F v d) : (∀ n, v ≠ .ty n) ∧ decide (v = .bl b) = blB b d := by
  cases r with
  | bl x => exact ⟨fun n z => (nomatch z), by cases x <;> cases b <;> rfl⟩
  | bor _ => exact absurd rfl (hb _)
  | _ => exact ⟨fun n z => (nomatch z), rfl⟩
theorem isBl_b {F H : Hp} {v : V} {d : D} {b : Bool} (hb : ∀ e, d ≠ .bor e) (r : RepB c F H v d) : (∀ n, v ≠ .ty n) ∧ decide (v = .bl b) = blB b d := by
  rcases r with r | ⟨a, vs, ds, rfl, rfl, _⟩
  · exact isBl_rep hb r
  · exact ⟨fun n z => (nomatch z), rfl⟩
theorem pc_isBl {b : Bool} {j pos'} (ha : PE X a (tR c fa)) : PC X .Is a (.Constant (.bool b) j pos') (tP c (eF (dIsBl b) fa)) := by
  refine ⟨fun pins s σ H Q I ⟨H0, F, δ, g, d, g', w, o, q⟩ => ?_⟩
  obtain ⟨x, g1, o1, o⟩ := ok_bind.mp o
  refine thn (ha.run pins s σ H (fun v H1 => ∃ F1, Stp c F H F1 H1 g1 ∧ RepB c F1 H1 v x) I ⟨H0, F, δ, g, x, g1, w, o1, fun v F1 H1 s1 r1 => ⟨F1, s1, r1⟩⟩) fun v s1 ⟨y, H1, I1, r1, F1, st, rb⟩ => ?_
  have hb : ∀ e, x ≠ .bor e := fun e z => by subst z; exact absurd o not_ok_stuck
  obtain ⟨k1, k2⟩ := isBl_b (b := b) hb rb
  obtain ⟨k3, k4⟩ := relV_bl (b := b) r1 k1
  refine Constant_bool (is_bl_gen k4 ?_)
  rw [k3, k2]
  unfold dIsBl at o
  split at o
  · obtain ⟨rfl, rfl⟩ := ok_pure.mp o
    exact ⟨.bl _, H1, I1, rfl, q _ F1 H1 st (.bl _)⟩
  · exact absurd o not_ok_stuck
  · obtain ⟨rfl, rfl⟩ := ok_pure.mp o
    refine ⟨.bl _, H1, I1, ?_, q _ F1 H1 st (.bl _)⟩
    rename_i h1 h2 h3
    have e : blB b x = false := by cases x <;> first | rfl | exact absurd rfl (h1 _) | exact absurd rfl (h2 _)
    rw [e]
    rfl
theorem pc_notBl {b : Bool} {j pos'} (ha : PE X a (tR c fa)) : PC X .IsNot a (.Constant (.bool b) j pos') (tP c (eF (dNotBl b) fa)) := by
  refine ⟨fun pins s σ H Q I ⟨H0, F, δ, g, d, g', w, o, q⟩ => ?_⟩
  obtain ⟨x, g1, o1, o⟩ := ok_bind.mp o
  refine thn (ha.run pins s σ H (fun v H1 => ∃ F1, Stp c F H F1 H1 g1 ∧ RepB c F1 H1 v x) I ⟨H0, F, δ, g, x, g1, w, o1, fun v F1 H1 s1 r1 => ⟨F1, s1, r1⟩⟩) fun v s1 ⟨y, H1, I1, r1, F1, st, rb⟩ => ?_
  have hb : ∀ e, x ≠ .bor e := fun e z => by subst z; exact absurd o not_ok_stuck
  obtain ⟨k1, k2⟩ := isBl_b (b := b) hb rb
  obtain ⟨k3, k4⟩ := relV_bl (b := b) r1 k1
  refine Constant_bool (isnot_bl_gen k4 ?_)
  rw [k3, k2]
  unfold dNotBl at o
  split at o
  · obtain ⟨rfl, rfl⟩ := ok_pure.mp o
    exact ⟨.bl _, H1, I1, rfl, q _ F1 H1 st (.bl _)⟩
  · exact absurd o not_ok_stuck
  · obtain ⟨rfl, rfl⟩ := ok_pure.mp o
    refine ⟨.bl _, H1, I1, ?_, q _ F1 H1 st (.bl _)⟩
    rename_i h1 h2 h3
    have e : blB b x = false := by cases x <;> first | rfl | exact absurd rfl (h1 _) | exact absurd rfl (h2 _)
    rw [e]
    rfl

theorem d_isBl {b : Bool} {j pos'} (ha : PE X a (tR c fa)) : PE X (.Compare a [.Is] [.Constant (.bool b) j pos'] pos) (tP c (eF (dIsBl b) fa)) := pe_cmp (pc_isBl ha) rfl
theorem d_notBl {b : Bool} {j pos'} (ha : PE X a (tR c fa)) : PE X (.Compare a [.IsNot] [.Constant (.bool b) j pos'] pos) (tP c (eF (dNotBl b) fa)) := pe_cmp (pc_notBl ha) rfl
theorem dt_isBl {b : Bool} {j pos'} (ha : PE X a (tR c fa)) : PT X (.Compare a [.Is] [.Constant (.bool b) j pos'] pos) (tT c (eF (dIsBl b) fa)) := (pt_cmp (pc_isBl ha) rfl).imp fun σ H Q ⟨H0, F, δ, g, d, g', w, o, q⟩ =>
  ⟨H0, F, δ, g, .bl d, g', w, o, fun v F1 H1 s1 r => by cases r; exact ⟨_, rfl, q F1 H1 s1⟩⟩
theorem dt_notBl {b : Bool} {j pos'} (ha : PE X a (tR c fa)) : PT X (.Compare a [.IsNot] [.Constant (.bool b) j pos'] pos) (tT c (eF (dNotBl b) fa)) := (pt_cmp (pc_notBl ha) rfl).imp fun σ H Q ⟨H0, F, δ, g, d, g', w, o, q⟩ =>
  ⟨H0, F, δ, g, .bl d, g', w, o, fun v F1 H1 s1 r => by cases r; exact ⟨_, rfl, q F1 H1 s1⟩⟩

/-! ### repr, {} within -/
mutual
def D.rq : Nat → D → Bool
  | n + 1, .lst xs => rqs n xs
  | n + 1, .tup xs => rqs n xs
  | _, .dct [] => true
  | _, .non => true
  | _, .bl _ => true
  | _, .int i => decide (i.natAbs.log2 < 1920)
  | _, .str x => PyData.strOk x
  | _, _ => false
def rqs : Nat → List D → Bool
  | _, [] => true
  | n, x :: xs => D.rq n x && rqs n xs
end
theorem rq_gen (n : Nat) : D.rq n .gen = false := by cases n <;> rfl
theorem rq_fn (n : Nat) {x : Str} : D.rq n (.fn x) = false := by cases n <;> rfl
theorem rq_exc (n : Nat) {x : Str} {d : D} : D.rq n (.exc x d) = false := by cases n <;> rfl
theorem rq_thr (n : Nat) {x : Str} {d : D} : D.rq n (.thr x d) = false := by cases n <;> rfl
theorem rq_bor (n : Nat) {d : D} : D.rq n (.bor d) = false := by cases n <;> rfl
theorem rqs_all {n : Nat} : ∀ {xs : List D}, rqs n xs = true ↔ ∀ d ∈ xs, d.rq n = true
  | [] => by simp [rqs]
  | x :: xs => by
    have := rqs_all (n := n) (xs := xs)
    simp [rqs, this]
section
variable {pins : List (Addr × Obj)} {σ : L2.St} {H : Hp} {s : Shared}
mutual
theorem rq_reads (I : Inv X pins σ H s) {F : Hp} (le : Same F H) : ∀ (n : Nat) (d : D) (v : V) (u : Value), d.rq n = true → Rep c F v d → RelV v u → ∃ as, Reads s.heap u d.py as
  | _, .non, _, _, _, r, rv => by cases r; cases rv; exact ⟨_, Reads.none⟩
  | _, .bl b, _, _, _, r, rv => by cases r; cases rv; exact ⟨_, Reads.bool b⟩
  | _, .int i, _, _, _, r, rv => by cases r; obtain ⟨t, rfl⟩ := rv; exact ⟨_, Reads.int i t⟩
  | _, .str x, _, _, _, r, rv => by cases r; obtain ⟨t, rfl⟩ := rv; exact ⟨_, Reads.str x t⟩
  | 0, .lst ds, _, _, h, _, _ => by simp [D.rq] at h
  | 0, .tup ds, _, _, h, _, _ => by simp [D.rq] at h
  | n + 1, .lst ds, _, _, h, r, rv => by
    cases r with
    | @lst _ a vs _ e q =>
      cases rv
      obtain ⟨its, rvs, ⟨o, m, ho, hc, _, hd⟩, _⟩ := I.list (SqL.of (le _ _ e))
      obtain ⟨as, hr⟩ := rq_readss I le n ds vs its (by simpa [D.rq] using h) q rvs
      exact ⟨_, Reads.list ho hc hd hr⟩
  | n + 1, .tup ds, _, _, h, r, rv => by
    cases r with
    | @tup _ a vs _ e q =>
      cases rv
      obtain ⟨_, its, rvs, o, ho, hc, _, hd⟩ := I.hok a _ (le _ _ e)
      obtain ⟨as, hr⟩ := rq_readss I le n ds vs its (by simpa [D.rq] using h) q rvs
      exact ⟨_, Reads.tuple ho hc hd hr⟩
  | _, .dct kvs, _, _, _, r, rv => by
    cases r with
    | @dct0 _ a ea =>
      cases rv
      obtain ⟨_, hsm, vs, kv, o, es, ep, e1, e2, e3, _, e4, _⟩ := I.hok a _ (le _ _ ea)
      cases kv
      have en : es.toList = [] := by
        cases e5 : es.toList with
        | nil => rfl
        | cons x r => rw [e5] at e4; cases e4
      exact ⟨_, Reads.dict (kvs := []) (as := []) (bs := []) e1 e2.1 e3 (by rw [en]; exact .nil) (by rw [en]; exact .nil)⟩
  | _, .gen, _, _, h, _, _ => by rw [rq_gen] at h; cases h
  | _, .fn _, _, _, h, _, _ => by rw [rq_fn] at h; cases h
  | _, .exc _ _, _, _, h, _, _ => by rw [rq_exc] at h; cases h
  | _, .thr _ _, _, _, h, _, _ => by rw [rq_thr] at h; cases h
  | _, .bor _, _, _, h, _, _ => by rw [rq_bor] at h; cases h
theorem rq_readss (I : Inv X pins σ H s) {F : Hp} (le : Same F H) : ∀ (n : Nat) (ds : List D) (vs : List V) (us : List Value), rqs n ds = true → RepAll c F vs ds → Vals vs us → ∃ as, ReadsAll s.heap us (pys ds) as
  | _, [], _, _, _, r, rv => by cases r; cases rv; exact ⟨_, ReadsAll.nil⟩
  | n, d :: ds, _, _, h, r, rv => by
    simp only [rqs, Bool.and_eq_true] at h
    cases r with
    | cons r1 r2 =>
      cases rv with
      | cons v1 v2 =>
        obtain ⟨as, q1⟩ := rq_reads I le n d _ _ h.1 r1 v1
        obtain ⟨bs, q2⟩ := rq_readss I le n ds _ _ h.2 r2 v2
        exact ⟨_, ReadsAll.cons q1 q2⟩
end
mutual
/-- how what is printed of such data comes about: of dicts alone it is to be known that none is sys.modules -/
theorem rq_repr (I : Inv X pins σ H s) {F : Hp} (le : Same F H) : ∀ (n : Nat) (d : D) (v : V) (u : Value), d.rq n = true → Rep c F v d → RelV v u → d.py.shown.length ≤ sizeLine → ∃ bs, ReadAtMost s.heap d.py.depth bs ∧ ReprK X.prog X.w bs s.heap d.py.depth u d.py.shown
  | _, .non, _, _, _, r, rv, _ => by cases r; cases rv; exact ⟨[], (fun _ z => nomatch z), .of_is ReprIs.none _ _ _⟩
  | _, .bl b, _, _, _, r, rv, _ => by
    cases r; cases rv
    refine ⟨[], (fun _ z => nomatch z), ?_⟩
    have q : ReprK X.prog X.w [] s.heap (D.bl b).py.depth (.bool b) (if b then Str.ofString "True" else Str.ofString "False") := .of_is (ReprIs.bool b) _ _ _
    cases b <;> exact q
  | n, .int i, _, _, h, r, rv, _ => by
    cases r; obtain ⟨t, rfl⟩ := rv
    exact ⟨[], (fun _ z => nomatch z), .of_is (ReprIs.int t (by cases n <;> exact of_decide_eq_true h)) _ _ _⟩
  | _, .str x, _, _, _, r, rv, hz => by cases r; obtain ⟨t, rfl⟩ := rv; exact ⟨[], (fun _ z => nomatch z), .of_is (ReprIs.str x t hz) _ _ _⟩
  | 0, .lst ds, _, _, h, _, _, _ => by simp [D.rq] at h
  | 0, .tup ds, _, _, h, _, _, _ => by simp [D.rq] at h
  | n + 1, .lst ds, _, _, h, r, rv, hz => by
    cases r with
    | @lst _ a vs _ e q =>
      cases rv
      obtain ⟨its, rvs, ⟨o, m, ho, hc, _, hd⟩, _⟩ := I.list (SqL.of (le _ _ e))
      have hh : rqs n ds = true := by simpa [D.rq] using h
      obtain ⟨as, hr⟩ := rq_readss I le n ds vs its hh q rvs
      have rd : Reads s.heap (.ref a) (.list (pys ds)) _ := Reads.list ho hc hd hr
      obtain ⟨bs, hb, hk⟩ := rq_reprs I le n ds vs its hh q rvs fun t ht => Nat.le_trans (listText_mem_le ht) hz
      have na : a ∉ bs := not_mem_of_deeper rd (Nat.lt_succ_self _) hb
      refine ⟨a :: bs, ReadAtMost.cons rd (Nat.le_succ _) hb, ?_⟩
      cases its with
      | nil =>
        cases hr' : pys ds with
        | nil =>
          have e2 : (D.lst ds).py = .list [] := by rw [D.py, hr']
          rw [e2]
          exact (ReprK.listEmpty (as := []) ho hc hd).more fun _ z => absurd z (List.not_mem_nil)
        | cons y r => rw [hr'] at hr; cases hr
      | cons x l => exact ReprK.list ho hc hd na (by have := hk.length_eq; simpa using this) fun i y ey => hk.item i y (by simpa using ey)
  | n + 1, .tup ds, _, _, h, r, rv, hz => by
    cases r with
    | @tup _ a vs _ e q =>
      cases rv
      obtain ⟨_, its, rvs, o, ho, hc, _, hd⟩ := I.hok a _ (le _ _ e)
      have hh : rqs n ds = true := by simpa [D.rq] using h
      obtain ⟨as, hr⟩ := rq_readss I le n ds vs its hh q rvs
      have rd : Reads s.heap (.ref a) (.tuple (pys ds)) _ := Reads.tuple ho hc hd hr
      obtain ⟨bs, hb, hk⟩ := rq_reprs I le n ds vs its hh q rvs fun t ht => Nat.le_trans (tupleText_mem_le ht) hz
      exact ⟨a :: bs, ReadAtMost.cons rd (Nat.le_succ _) hb, ReprK.tuple ho hc hd (not_mem_of_deeper rd (Nat.lt_succ_self _) hb) hk⟩
  | _, .dct kvs, _, _, _, r, rv, _ => by
    cases r with
    | @dct0 _ a ea =>
      cases rv
      obtain ⟨_, hsm, vs, kv, o, es, ep, e1, e2, e3, _, e4, _⟩ := I.hok a _ (le _ _ ea)
      cases kv
      have en : es.toList = [] := by
        cases e5 : es.toList with
        | nil => rfl
        | cons x r => rw [e5] at e4; cases e4
      have rd : Reads s.heap (.ref a) (.dict []) _ := Reads.dict (kvs := []) (as := []) (bs := []) e1 e2.1 e3 (by rw [en]; exact .nil) (by rw [en]; exact .nil)
      exact ReprK.of_reads rd rfl (fun _ hm => by
        have z : sysModules = a := by simpa using hm
        rw [z] at hsm
        simp at hsm) (by decide +kernel)
  | _, .gen, _, _, h, _, _, _ => by rw [rq_gen] at h; cases h
  | _, .fn _, _, _, h, _, _, _ => by rw [rq_fn] at h; cases h
  | _, .exc _ _, _, _, h, _, _, _ => by rw [rq_exc] at h; cases h
  | _, .thr _ _, _, _, h, _, _, _ => by rw [rq_thr] at h; cases h
  | _, .bor _, _, _, h, _, _, _ => by rw [rq_bor] at h; cases h
theorem rq_reprs (I : Inv X pins σ H s) {F : Hp} (le : Same F H) : ∀ (n : Nat) (ds : List D) (vs : List V) (us : List Value), rqs n ds = true → RepAll c F vs ds → Vals vs us → (∀ t ∈ PyData.shownAll (pys ds), t.length ≤ sizeLine) →
    ∃ bs, ReadAtMost s.heap (PyData.depthAll (pys ds)) bs ∧ ReprAllK X.prog X.w bs s.heap (PyData.depthAll (pys ds)) us (PyData.shownAll (pys ds))
  | _, [], _, _, _, r, rv, _ => by cases r; cases rv; exact ⟨[], (fun _ z => nomatch z), .nil⟩
  | n, d :: ds, _, _, h, r, rv, hz => by
    simp only [rqs, Bool.and_eq_true] at h
    cases r with
    | cons r1 r2 =>
      cases rv with
      | cons v1 v2 =>
        obtain ⟨b1, m1, k1⟩ := rq_repr I le n d _ _ h.1 r1 v1 (hz _ List.mem_cons_self)
        obtain ⟨b2, m2, k2⟩ := rq_reprs I le n ds _ _ h.2 r2 v2 fun t ht => hz t (List.mem_cons_of_mem _ ht)
        refine ⟨b1 ++ b2, (m1.mono (Nat.le_max_left _ _)).append (m2.mono (Nat.le_max_right _ _)), .cons ?_ ?_⟩
        · exact (k1.more fun b hb => List.mem_append_left _ hb).level_le (Nat.le_max_left _ _)
        · exact k2.more_le (fun b hb => List.mem_append_right _ hb) (Nat.le_max_right _ _)
end
mutual
theorem rq_lay : ∀ (n : Nat) (d : D), d.rq n = true → d.py.showable = true ∧ d.py.depth ≤ n + 1
  | _, .non, _ => by simp [D.py, PyData.depth, PyData.showable]
  | _, .bl b, _ => by simp [D.py, PyData.depth, PyData.showable]
  | n, .int i, h => by
    have q : i.natAbs.log2 < 1920 := by cases n <;> exact of_decide_eq_true h
    simp [D.py, PyData.depth, PyData.showable, q]
  | n, .str x, h => by
    have q : PyData.strOk x = true := by cases n <;> exact h
    simp [D.py, PyData.depth, PyData.showable, q]
  | 0, .lst ds, h => by cases h
  | 0, .tup ds, h => by cases h
  | n + 1, .lst ds, h => by
    obtain ⟨h1, h2⟩ := rq_lays n ds h
    simp only [D.py, PyData.depth, PyData.showable]
    exact ⟨h1, by omega⟩
  | n + 1, .tup ds, h => by
    obtain ⟨h1, h2⟩ := rq_lays n ds h
    simp only [D.py, PyData.depth, PyData.showable]
    exact ⟨h1, by omega⟩
  | n, .dct kvs, h => by
    cases kvs with
    | nil => simp [D.py, pyKv, PyData.depth, PyData.showable, PyData.depthKv, PyData.showableKv]
    | cons _ _ => cases n <;> cases h
  | n, .gen, h => by rw [rq_gen] at h; cases h
  | n, .fn _, h => by rw [rq_fn] at h; cases h
  | n, .exc _ _, h => by rw [rq_exc] at h; cases h
  | n, .thr _ _, h => by rw [rq_thr] at h; cases h
  | n, .bor _, h => by rw [rq_bor] at h; cases h
theorem rq_lays : ∀ (n : Nat) (ds : List D), rqs n ds = true → PyData.showableAll (pys ds) = true ∧ PyData.depthAll (pys ds) ≤ n + 1
  | _, [], _ => by simp [pys, PyData.depthAll, PyData.showableAll]
  | n, d :: ds, h => by
    simp only [rqs, Bool.and_eq_true] at h
    obtain ⟨h1, h2⟩ := rq_lay n d h.1
    obtain ⟨k1, k2⟩ := rq_lays n ds h.2
    simp only [pys, PyData.depthAll, PyData.showableAll, h1, k1]
    exact ⟨rfl, by omega⟩
end
def dReprN (d : D) : M D := if d.rq 60 && lim d.py.shown.length then pure (.str d.py.shown) else stuck
theorem reprN_c (hg : X.A.guards = some []) (hu : X.A.units + 65 < cLine) : CallR X (.builtin "repr") (c1 c dReprN) := by
  intro pins s σ H xs us Q I rv h
  obtain ⟨x, rfl, F, d, d', g, g', le, gen, r, o, q⟩ := h
  obtain ⟨u, rfl, rx⟩ := Vals.one rv
  unfold dReprN at o
  split at o
  · rename_i hh
    obtain ⟨rfl, rfl⟩ := ok_pure.mp o
    rw [Bool.and_eq_true] at hh
    have hz : d.py.shown.length ≤ sizeLine := lim_le hh.2
    have q : Q (.str d.py.shown) H := q _ F H (.refl le gen) (.str _)
    obtain ⟨l1, l2⟩ := rq_lay 60 d hh.1
    have fin : ∀ (h' : Heap) (t : Tok) tk, (∀ b o, s.heap.get? b = some o → h'.get? b = some o) → EP X pins σ Q (.str d.py.shown t) { s with heap := h', toks := tk } := fun h' t tk hk => ⟨.str d.py.shown, H, I.kept hk, ⟨_, rfl⟩, q⟩
    cases d with
    | lst ds =>
      obtain ⟨a, vs, rfl, ea, ra⟩ := r.lst le
      cases rx
      have hh1 : rqs 59 ds = true := by simpa [D.rq] using hh.1
      obtain ⟨its, rvs, ⟨o, m, ho, hc, _, hd⟩, _⟩ := I.list (SqL.of ea)
      obtain ⟨as, hr⟩ := rq_readss I le 59 ds vs its hh1 ra rvs
      have rd : Reads s.heap (.ref a) (.list (pys ds)) _ := Reads.list ho hc hd hr
      obtain ⟨bs, hb, hk⟩ := rq_reprs I le 59 ds vs its hh1 ra rvs fun t ht => Nat.le_trans (listText_mem_le ht) hz
      have na : a ∉ bs := not_mem_of_deeper rd (Nat.lt_succ_self _) hb
      have l3 : PyData.depthAll (pys ds) + 1 ≤ 61 := l2
      refine call_repr_slot (by omega) ⟨o, ho, hc⟩ PySem.F.slot_list_repr.toG ?_
      cases its with
      | nil =>
        cases hr' : pys ds with
        | nil =>
          have e2 : (D.lst ds).py = .list [] := by rw [D.py, hr']
          rw [e2] at fin
          exact call_list_repr_empty ⟨o, ho, hc⟩ ho hd ⟨_, _, rfl, fin s.heap _ _ fun _ _ e => e⟩
        | cons y r => rw [hr'] at hr; cases hr
      | cons x l => exact call_list_reprK ho hc hd na (by have := hk.length_eq; simpa using this) (fun i y ey => hk.item i y (by simpa using ey)) hg (fun b _ => Clear.nil b) (by show X.A.units + 1 + _ < cLine; omega) (fun _ _ e => e) (fun h' t tk hk => ⟨_, _, rfl, fin h' t tk hk⟩) hz
    | tup ds =>
      have a1 := r.rep rfl
      cases a1 with
      | @tup _ a vs _ e q =>
        cases rx
        have hh1 : rqs 59 ds = true := by simpa [D.rq] using hh.1
        obtain ⟨_, its, rvs, o, ho, hc, _, hd⟩ := I.hok a _ (le _ _ e)
        obtain ⟨as, hr⟩ := rq_readss I le 59 ds vs its hh1 q rvs
        have rd : Reads s.heap (.ref a) (.tuple (pys ds)) _ := Reads.tuple ho hc hd hr
        obtain ⟨bs, hb, hk⟩ := rq_reprs I le 59 ds vs its hh1 q rvs fun t ht => Nat.le_trans (tupleText_mem_le ht) hz
        have l3 : PyData.depthAll (pys ds) + 1 ≤ 61 := l2
        exact call_repr_slot (by omega) ⟨o, ho, hc⟩ PySem.F.slot_tuple_repr (call_tuple_reprK ho hc hd (not_mem_of_deeper rd (Nat.lt_succ_self _) hb) hk hg (fun b _ => Clear.nil b) (by show X.A.units + 1 + _ < cLine; omega) (fun _ _ e => e) (fun h' t tk hk => ⟨_, _, rfl, fin h' t tk hk⟩) hz)
    | dct kvs =>
      have a1 := r.rep rfl
      cases a1 with
      | @dct0 _ a ea =>
        cases rx
        obtain ⟨_, hsm, vs, kv, o, es, ep, e1, e2, e3, _, e4, _⟩ := I.hok a _ (le _ _ ea)
        cases kv
        have en : es.toList = [] := by
          cases e5 : es.toList with
          | nil => rfl
          | cons x r => rw [e5] at e4; cases e4
        have rd : Reads s.heap (.ref a) (.dict []) _ := Reads.dict (kvs := []) (as := []) (bs := []) e1 e2.1 e3 (by rw [en]; exact .nil) (by rw [en]; exact .nil)
        exact repr_of_reads' rd rfl (fun _ hm => by
          have z : sysModules = a := by simpa using hm
          rw [z] at hsm
          simp at hsm) hg (by simp only [PyData.depth, PyData.depthKv]; omega) (fun _ _ e => e) (fun h' t tk hk => fin h' t tk hk) hz
    | non =>
      have a1 := r.rep rfl
      cases a1
      cases rx
      exact PySem.P.repr_of_none ⟨.str D.non.py.shown, H, I.tok _, ⟨_, rfl⟩, q⟩
    | bl b =>
      have a1 := r.rep rfl
      cases a1
      cases rx
      refine PySem.P.repr_of_bool ⟨.str (D.bl b).py.shown, H, I.tok _, ⟨s.toks, ?_⟩, q⟩
      cases b <;> rfl
    | int i =>
      have a1 := r.rep rfl
      cases a1
      obtain ⟨t, rfl⟩ := rx
      exact PySem.P.repr_of_int (of_decide_eq_true hh.1) ⟨.str (D.int i).py.shown, H, I.tok _, ⟨_, rfl⟩, q⟩
    | str z =>
      have a1 := r.rep rfl
      cases a1
      obtain ⟨t, rfl⟩ := rx
      exact PySem.P.repr_of_str ⟨.str (D.str z).py.shown, H, I.tok _, ⟨_, rfl⟩, q⟩ hz
    | gen => rw [rq_gen] at hh; cases hh.1
    | fn _ => rw [rq_fn] at hh; cases hh.1
    | exc _ _ => rw [rq_exc] at hh; cases hh.1
    | thr _ _ => rw [rq_thr] at hh; cases hh.1
    | bor _ => rw [rq_bor] at hh; cases hh.1
  · exact absurd o not_ok_stuck
end
/-! ### divmod, list(range(n)), reversed of what is read alone -/
def dDivmod (d e : D) : M D := match d, e with
  | .int i, .int j => if 0 < j ∧ Builtin.Int.intBits i ≤ 4000 then pure (.tup [.int (i / j), .int (i % j)]) else stuck
  | _, _ => stuck
def eLR (a : E) : E := fun δ => a δ >>= fun x => match x with
  | .int j => if -1000000 < j ∧ j < 1000000 then pure (.lst ((List.range j.toNat).map fun k => .int (k : Nat))) else stuck
  | _ => stuck
def xVw (a : E) : Es := fun δ => a δ >>= fun x => rowOf x >>= fun xs => pure xs.reverse
theorem RepAll.ofMap {α : Type} {c : C} {F : Hp} {f : α → V} {g : α → D} (h : ∀ x, Rep c F (f x) (g x)) : ∀ xs : List α, RepAll c F (xs.map f) (xs.map g)
  | [] => .nil
  | x :: xs => .cons (h x) (RepAll.ofMap h xs)
section
variable {X : Cx} {c : C} {a e tg : Expr} {fa f : E} {pos p : Pos}
theorem divmod_c : CallR X (.builtin "divmod") (c2 c dDivmod) := by
  intro pins s σ H xs us Q I rv h
  obtain ⟨x, y, rfl, F, d, e, d', g, g', le, gen, r1, r2, o, q⟩ := h
  unfold dDivmod at o
  split at o
  · split at o
    · rename_i hl
      obtain ⟨rfl, rfl⟩ := ok_pure.mp o
      have a1 := r1.rep rfl
      have a2 := r2.rep rfl
      cases a1; cases a2
      refine call_divmodW pins s σ H _ us Q I rv ⟨_, _, rfl, divp_ok hl.1 (by omega), fun p hp => ?_⟩
      exact q _ _ _ (Stp.lay le gen hp) (.tup upd_same (.cons (.int _) (.cons (.int _) .nil)))
    · exact absurd o not_ok_stuck
  · exact absurd o not_ok_stuck
theorem d_lr {p2 : Pos} (hm : X.mg "list" = none) (hr : X.mg "range" = none) (h : PE X a (tR c fa)) (hc : X.calm = true := by rfl) (hg : Gl X "list" := by rfl) (hg2 : Gl X "range" := by rfl) (hs : starEach [a] X.env = (false, eval a X.env) :: starEach [] X.env := by rfl)
    (na : starEach [.Call (.Name "range" p2) [a] [] pos] X.env = (false, eval (.Call (.Name "range" p2) [a] [] pos) X.env) :: starEach [] X.env := by rfl) {pos2 : Pos} : PE X (.Call (.Name "list" p) [.Call (.Name "range" p2) [a] [] pos] [] pos2) (tP c (eLR fa)) :=
  (pe_listRg hc hg hm (prg_1 hg2 hr h hs) na).imp fun σ H Q ⟨H0, F, δ, g, d, g', w, o, q⟩ => by
    obtain ⟨x, g1, o1, o⟩ := ok_bind.mp o
    split at o
    · rename_i j
      split at o
      · rename_i hj
        obtain ⟨rfl, rfl⟩ := ok_pure.mp o
        refine ⟨H0, F, δ, g, _, g1, w, o1, fun v F1 H1 s1 r1 => ?_⟩
        have r1 := r1.rep rfl
        cases r1
        refine ⟨j, rfl, ⟨by omega, by omega, by omega, by omega, by omega⟩, fun b hb => ?_⟩
        have st := Stp.lay (o := .lst (rgV 0 j)) s1.le s1.gen hb
        refine q _ _ _ (s1.trans st) (.lst upd_same ?_)
        unfold rgV
        simp only [Int.sub_zero, Int.zero_add]
        refine RepAll.ofMap (fun k => .int _) _
      · exact absurd o not_ok_stuck
    · exact absurd o not_ok_stuck
/-- for x in reversed(xs), xs read alone too -/
theorem walk_rev {K : PySem.W.Frag} {a : Addr} {vs : List V} {F H : Hp} {zs : List D} (h : ∀ F1 H1, Same F F1 → Same F1 H1 → Same c.bo H1 → H1 a = some (.lst vs)) (ra : RepAll c F vs zs) : WalkD c (Itv K a vs.length) [] F H zs.reverse := by
  have hl := ra.length
  refine ⟨fun _ z => (nomatch z), fun i F2 H2 hi t1 t2 _ sb => ?_, fun F2 H2 t1 t2 _ sb => ?_, fun i F2 H2 g x H3 hi t1 t2 _ gen hy => ?_⟩
  · rw [List.length_reverse] at hi
    obtain ⟨v, hv, _⟩ := ra.get (List.getElem?_eq_getElem (show zs.length - 1 - i < zs.length by omega))
    exact ⟨by omega, vs, v, SqL.of (h F2 H2 t1 t2 sb), by rw [hl]; exact hv⟩
  · show vs.length ≤ _
    rw [List.length_reverse, hl]
    exact Nat.le_refl _
  · obtain ⟨rfl, hx⟩ := hy
    obtain ⟨d, hd, rd⟩ := ra.getV (hx vs (SqL.of (h F2 _ t1 t2 gen.bo)))
    refine ⟨F2, d, ?_, .refl t2 gen, rd.up t1⟩
    rw [List.length_reverse] at hi
    rw [List.getElem?_reverse hi, ← hl]
    exact hd
theorem di_revw (hm : X.mg "reversed" = none) (h : PE X e (tP c f)) (hg : Gl X "reversed" := by rfl) (hs : starEach [e] X.env = [(false, eval e X.env)] := by rfl) : PI X tg (.Call (.Name "reversed" p) [e] [] pos) (iD c (xVw f)) :=
  (pi_reversed hg hm (pa_cons h pa_nil (by rw [hs]; rfl)) hs).imp fun σ H R ⟨H0, F, δ, g, ds, g', w, o, q⟩ => by
    obtain ⟨x, g1, o1, o⟩ := ok_bind.mp o
    obtain ⟨zs, g2, o2, o⟩ := ok_bind.mp o
    obtain ⟨rfl, rfl⟩ := ok_pure.mp o
    unfold rowOf at o2
    split at o2
    · obtain ⟨rfl, rfl⟩ := ok_pure.mp o2
      refine ⟨H0, F, δ, g, _, g1, w, o1, fun v F1 H1 s1 r1 => ?_⟩
      cases r1 with
      | @lst _ a vs _ ea ra => exact ⟨a, vs, rfl, SqL.of (s1.le _ _ ea), q _ F1 H1 s1 (walk_rev (fun F2 H2 t1 t2 _ => t2 _ _ (t1 _ _ ea)) ra)⟩
    · obtain ⟨rfl, rfl⟩ := ok_pure.mp o2
      refine ⟨H0, F, δ, g, _, g1, w, o1, fun v F1 H1 s1 r1 => ?_⟩
      cases r1 with
      | bor r1 =>
        cases r1 with
        | @lst _ a vs _ ea ra => exact ⟨a, vs, rfl, SqL.of (s1.gen.bo _ _ ea), q _ F1 H1 s1 (walk_rev (fun F2 H2 t1 t2 sb => sb _ _ ea) (wrapB_rep ra))⟩
    · exact absurd o2 not_ok_stuck
end
end
end DL

/-! ## DEnd -/
set_option Elab.async false
set_option autoImplicit false
set_option linter.all false
set_option maxRecDepth 100000
set_option maxHeartbeats 4000000
/-! DEnd: the law's own call, by a promise FnQ. -/
namespace DL
open PySem PySem.Spec PyProof.Rows L2
section
variable {P : Program} {w : World} {K : PySem.W.Frag} {mg mb : Str → Option Value} {t : Shared} {p : Addr} {us : List Value}
/-- where the law starts: nothing but the script is tracked -/
theorem start_env {H : Hp} (inK : K.In t.heap) (top : t.heap.Ns mainGlobals mg) (bns : t.heap.Ns builtinsNs mb) (boot : ∀ y : Str, y ≠ "__name__" → mb y = bootBuiltins y) (free : t.heap.NoLimit) (noG : t.gens = #[])
    (sc : t.heap.get? p = some { cls := .type "list", data := .seq us.toArray }) (good : HOk P w H t.heap) (one : ∀ c, H c ≠ none → c = p) (apart : H p ≠ none → K.lookup p = none) :
    ∃ base : Heap, K.In base ∧ base.Ns mainGlobals mg ∧ Env0 P w K mg base callerA [] t H := by
  have low : ∀ {c : Addr} {o : Obj}, t.heap.get? c = some o → c ≠ p ∨ H p = none → (hidT t.heap H).get? c = some o := fun {c o} e n => hidT_get e (by
    by_cases z : c = p
    · rcases n with n | n
      · exact absurd z n
      · rw [z]; exact n
    · cases q : H c with
      | none => rfl
      | some u => exact absurd (one c (by rw [q]; simp)) z)
  have dct : ∀ {c : Addr} {o : Obj} {xs : Array DictEntry} {n : Nat}, t.heap.get? c = some o → o.data = .dict xs n → c ≠ p := fun {c o xs n} e d z => by
    rw [z, sc] at e
    cases e
    have d : Data.seq us.toArray _ = Data.dict xs n := d
    cases d
  have ns : ∀ {c : Addr} {m : Str → Option Value}, t.heap.Ns c m → (hidT t.heap H).Ns c m := fun {c m} ⟨o, xs, n, e, d, r⟩ => ⟨o, xs, n, low e (.inl (dct e d)), d, r⟩
  have inB : K.In (hidT t.heap H) := fun c o e => low (inK c o e) (by
    by_cases z : c = p
    · refine .inr ?_
      cases q : H p with
      | none => rfl
      | some u =>
        have n := apart (by rw [q]; simp)
        rw [z, n] at e; cases e
    · exact .inl z)
  obtain ⟨mc, f1, f2⟩ := free
  refine ⟨_, inB, ns top, { frames := rfl, mod := ⟨inB, ns top, ⟨mb, ns bns, boot⟩, ⟨mc, ns f1, f2⟩⟩, bs := fun c o e => of_hidT e, bsz := Nat.le_of_eq (hidT_size _ _), funs := trivial, frf := fun c hc => ?_, hok := good, bare := .of_eq noG }⟩
  exact absurd (show c ∈ ([] : List Addr) from hc) (by simp)
theorem call_lawQ {k : Nat} {f : Addr} {fd : FuncData} {x : Str} {sp : List V → Hp → VK → Prop} {ns : List Int} (inK : K.In t.heap) (top : t.heap.Ns mainGlobals mg) (bns : t.heap.Ns builtinsNs mb) (boot : ∀ y : Str, y ≠ "__name__" → mb y = bootBuiltins y) (free : t.heap.NoLimit) (noG : t.gens = #[])
    (sc : t.heap.get? p = some { cls := .type "list", data := .seq us.toArray }) (nums : IntsAre us ns) (few : ns.length ≤ sizeLine) (room : Room k callerA) (G : ∀ base : Heap, K.In base → base.Ns mainGlobals mg → FnQ P w K mg base k f fd [x] sp)
    (bind : ∀ (s : Shared) (u : Value), BindsTo s fd ⟨[u], []⟩ [(x, u)]) (keeps : ∀ H : Hp, Only H → SqL K H p (ns.map V.int) → sp [.ref p] H fun v _ => v = .bl true) :
    codeAny (model P w) callerA (.call (.ref f) ⟨[.ref p], []⟩) (fun r s' => r = .ok (.ret (.bool true)) ∧ OldK t.heap s'.heap ∧ s'.os = t.os ∧ AllBare s'.gens) t := by
  have rv := vals_ints nums
  have lv := nums.length
  have go : ∀ H : Hp, Only H → SqL K H p (ns.map V.int) → HOk P w H t.heap → (∀ c, H c ≠ none → c = p) → (H p ≠ none → K.lookup p = none) →
      codeAny (model P w) callerA (.call (.ref f) ⟨[.ref p], []⟩) (fun r s' => r = .ok (.ret (.bool true)) ∧ OldK t.heap s'.heap ∧ s'.os = t.os ∧ AllBare s'.gens) t := fun H only sq good one apart => by
    obtain ⟨base, b1, b2, env⟩ := start_env inK top bns boot free noG sc good one apart
    refine codeAny_mono ((G base b1 b2).run callerA [] t H ⟨[.ref p], []⟩ [.ref p] [.ref p] _ room rfl env (bind t (.ref p)) (.cons rfl .nil) rfl (keeps H only sq)) fun r s' h => ?_
    match r, h with
    | .ok (.ret u), ⟨v, H', os, bare, stay, good', rel, q⟩ =>
      have q : v = .bl true := q
      subst q
      have rel : u = Value.bool true := rel
      subst rel
      refine ⟨rfl, OldK.of_keep fun c o e => ?_, os, bare⟩
      rcases only c with z | ⟨ob, xs, z⟩
      · exact stay.keep c o e z (fun m => absurd (show c ∈ ([] : List Addr) from m) (by simp)) (by simp)
      · obtain ⟨g1, _⟩ := good c _ z
        obtain ⟨g2, _⟩ := good' c _ (stay.frzs c ob _ z)
        rw [e] at g1
        cases g1
        exact g2
  cases lk : K.lookup p with
  | some o =>
    have e := inK p o lk
    rw [sc] at e
    cases e
    exact go (fun _ => none) (fun _ => .inl rfl) (.inr ⟨_, us.toArray, _, lk, rfl, rfl, rfl, by rw [List.size_toArray, lv]; exact few, by simpa using rv⟩) (fun c u z => nomatch (show (none : Option HO) = some u from z)) (fun c z => absurd rfl z) fun z => absurd rfl z
  | none =>
    have at' : ∀ c u, (if c = p then some (HO.frz { cls := .type "list", data := .seq us.toArray } (.lst (ns.map V.int))) else none) = some u → c = p ∧ u = HO.frz { cls := .type "list", data := .seq us.toArray } (.lst (ns.map V.int)) := fun c u e => by
      by_cases z : c = p
      · rw [if_pos z] at e
        exact ⟨z, (Option.some.inj e).symm⟩
      · rw [if_neg z] at e; cases e
    refine go (fun c => if c = p then some (.frz { cls := .type "list", data := .seq us.toArray } (.lst (ns.map V.int))) else none) (fun c => ?_) (.inl (.inr ⟨{ cls := .type "list", data := .seq us.toArray }, if_pos rfl⟩)) (fun c u e => ?_) (fun c n => ?_) fun _ => lk
    · by_cases z : c = p
      · exact .inr ⟨_, _, if_pos z⟩
      · exact .inl (if_neg z)
    · obtain ⟨rfl, rfl⟩ := at' c u e
      exact ⟨sc, by rw [List.length_map]; exact few, us, _, rv, sc⟩
    · by_cases z : c = p
      · exact z
      · exact absurd (if_neg z) n
end
theorem walk_ofQ {l : PySem.W.OpenLaw} {n k : Nat} {q : Program} {loose : List Str} {XP : (Str → Option Value) → Heap → Prop} {YP : World → Heap → Prop} {d : DefRec} {K : Params → PySem.W.Frag} {sp : World → List V → Hp → VK → Prop} {x : Str}
    (most : l.most = some n) (few : n ≤ sizeLine) (nodef : d.params.defaults = []) (room : Room k callerA) (inK : ∀ (w : World) (h : Heap), YP w h → (K w.params).In h)
    (G : ∀ (w : World) (mg : Str → Option Value) (f : Addr) (h : Heap), (K w.params).In h → h.Ns mainGlobals mg → mg d.name = some (.ref f) →
      ∃ fd : FuncData, (∀ (s : Shared) (u : Value), BindsTo s fd ⟨[u], []⟩ [(x, u)]) ∧ ∀ base : Heap, (K w.params).In base → base.Ns mainGlobals mg → FnQ l.prog w (K w.params) mg base k f fd [x] (sp w))
    (keeps : ∀ (w : World) (H : Hp) (p : Addr) (ns : List Int), ns.length ≤ n → Only H → SqL (K w.params) H p (ns.map V.int) → sp w [.ref p] H fun v _ => v = .bl true) :
    PySem.W.WalkO q loose XP YP l.row.toRowW d [] (fun f vs => PySem.call f vs) := by
  refine Att.attach_call most nodef fun w s₀ t mg mb f o pm cd doc p us ns T Y ho hd hcd hm sc nums len noG => ?_
  obtain ⟨fd, b, g⟩ := G w mg f _ (inK w _ Y) T.T.g hm
  exact call_lawQ (inK w _ Y) T.T.g T.T.b T.T.builtins T.T.nolimit noG sc nums (Nat.le_trans len few) room g b fun H o s => keeps w H p ns len o s
end DL

/-! ## DOdd -/
set_option Elab.async false
set_option autoImplicit false
set_option linter.all false
set_option maxRecDepth 100000
set_option maxHeartbeats 4000000
/-! DOdd: a turn of a loop over new lists that are spoilt at the turn's end. -/
namespace DL
open PySem PySem.Spec PyProof.Rows L2
/-- a statement's reading, whatever is read alone -/
def tSx (K : PySem.W.Frag) (mg : Str → Option Value) (s : S) : TS := fun D σ H => ∃ ga bo, tS ⟨K, mg, ga, bo⟩ s D σ H
theorem psx {X : Cx} {st : Stmt} {s : S} (h : ∀ ga bo, PS X st (tS ⟨X.K, X.mg, ga, bo⟩ s)) : PS X st (tSx X.K X.mg s) := ⟨fun pins t σ H D I ⟨ga, bo, q⟩ => (h ga bo).run pins t σ H D I q⟩
/-- x[0].append('odd'), x.append('odd') -/
def tOdd1 (K : PySem.W.Frag) (i : Nat) : TS := fun D σ H => ∃ r b u us ys, σ[i]? = some (some (.ref r)) ∧ H r = some (.lst (u :: us)) ∧ u = .ref b ∧ H b = some (.lst ys) ∧ ys.length < sizeLine ∧ D.nx σ (upd H b (.lst (ys ++ [.str "odd"])))
def tOdd0 (K : PySem.W.Frag) (i : Nat) : TS := fun D σ H => ∃ r ys, σ[i]? = some (some (.ref r)) ∧ H r = some (.lst ys) ∧ ys.length < sizeLine ∧ D.nx σ (upd H r (.lst (ys ++ [.str "odd"])))
section
variable {X : Cx} {a : Expr} {i : Nat}
theorem ps_odd0 {apos pos p2 sp : Pos} {sj : Nat} (hv : PE X a (tVar i)) (hbase : attributeBase a "append" X.env (eval a X.env) = eval a X.env := by rfl)
    (hfew : ((backTo pos (starEach [.Constant (.str "odd") sj sp] X.env)).all (fun x => !x.1) && (backToKw pos (keywordEach [] X.env)).all (fun x => x.1.isSome) && decide ([Expr.Constant (.str "odd") sj sp].length + ([] : List Keyword).length + (if ([] : List Keyword).isEmpty then 0 else 1) < 30)) = true := by rfl)
    (hline : (apos.endLine == pos.line) = true := by rfl) (hs : starEach [.Constant (.str "odd") sj sp] X.env = (false, eval (.Constant (.str "odd") sj sp) X.env) :: starEach [] X.env := by rfl)
    (hsw : swapsWith (.Call (.Attribute a "append" apos) [.Constant (.str "odd") sj sp] [] pos) none p2.line X.env = pure false := by rfl) :
    PS X (.Expr (.Call (.Attribute a "append" apos) [.Constant (.str "odd") sj sp] [] pos) p2) (tOdd0 X.K i) :=
  (ps_expr (pe_bm PySem.F.plainAttrs_list PySem.F.slot_list_append PySem.F.type_list_append mt_append hv (pa_cons pe_str pa_nil hs) hbase hfew hline hs rfl) hsw).imp fun D σ H ⟨r, ys, e, h, hz, q⟩ =>
    ⟨.ref r, e, .inl ⟨rfl, ys, SqL.of h⟩, r, ys, .str "odd", rfl, rfl, h, hz, q⟩
theorem ps_odd1 {apos pos p2 sp kp ip : Pos} {sj kj : Nat} (hv : PE X a (tVar i)) (hbase : attributeBase (.Subscript a (.Constant (.int 0) kj kp) ip) "append" X.env (eval (.Subscript a (.Constant (.int 0) kj kp) ip) X.env) = eval (.Subscript a (.Constant (.int 0) kj kp) ip) X.env := by rfl)
    (hfew : ((backTo pos (starEach [.Constant (.str "odd") sj sp] X.env)).all (fun x => !x.1) && (backToKw pos (keywordEach [] X.env)).all (fun x => x.1.isSome) && decide ([Expr.Constant (.str "odd") sj sp].length + ([] : List Keyword).length + (if ([] : List Keyword).isEmpty then 0 else 1) < 30)) = true := by rfl)
    (hline : (apos.endLine == pos.line) = true := by rfl) (hs : starEach [.Constant (.str "odd") sj sp] X.env = (false, eval (.Constant (.str "odd") sj sp) X.env) :: starEach [] X.env := by rfl)
    (hsw : swapsWith (.Call (.Attribute (.Subscript a (.Constant (.int 0) kj kp) ip) "append" apos) [.Constant (.str "odd") sj sp] [] pos) none p2.line X.env = pure false := by rfl) :
    PS X (.Expr (.Call (.Attribute (.Subscript a (.Constant (.int 0) kj kp) ip) "append" apos) [.Constant (.str "odd") sj sp] [] pos) p2) (tOdd1 X.K i) :=
  (ps_expr (pe_bm PySem.F.plainAttrs_list PySem.F.slot_list_append PySem.F.type_list_append mt_append (pe_ix ix_list hv pe_int (fun _ _ => rfl)) (pa_cons pe_str pa_nil hs) hbase hfew hline hs rfl) hsw).imp fun D σ H ⟨r, b, u, us, ys, e, h1, eu, h2, hz, q⟩ => by
    subst eu
    exact ⟨.ref r, e, ⟨r, _, 0, .ref b, rfl, rfl, SqL.of h1, atI_nat (j := 0) rfl, .inl ⟨rfl, ys, SqL.of h2⟩, b, ys, .str "odd", rfl, rfl, h2, hz, q⟩⟩
end
/-- new lists, apart from what is relied on -/
structure NewAt (c : C) (F H0 : Hp) (L : Addr) (H N : Hp) (v : V) (d : D) : Prop where
  le : Same N H
  ap : ∀ a, N a ≠ none → F a = none ∧ H0 a = none ∧ a ≠ L ∧ c.ga ≠ some a
  rep : Rep c N v d
  nb : d.nb = true
/-- the state of a def over wheels, a text and a row, behind the turn's body -/
def oddEnd (fl : Fl) : M (D × Str) := match fl with
  | .nx [.val .gen, .val (.bor w), .val (.str k), .val (.lst (.lst x :: xs)), _, _, _] => if w.nb = true ∧ lim (x.length + 2) = true ∧ lim (xs.length + 2) = true then pure (w, k) else stuck
  | _ => stuck
def oddTurn (body : S) (w : D) (k : Str) (r : D) : M (D × Str) := body [.val .gen, .val (.bor w), .val (.str k), .val r, .no, .no, .no] >>= oddEnd
def keep3 (w : D) (k : Str) : Dlt := [.val .gen, .val w, .val (.str k), .no, .no, .no, .no]
theorem odd_turn {c : C} {sA sB : S} {F0 H0 F H N O : Hp} {σ : L2.St} {g g' : Gs} {w w' r : D} {k k' : Str} {v : V} {L : Addr} {lv : List V} {De : Ends} {K : PySem.W.Frag} (wd : Wd c H0 F H σ (keep3 w k) g) (sp : Stp c F0 H0 F H g) (hw : w.nb = true) (hL : H L = some (.lst lv)) (hLg : c.ga ≠ some L)
    (nw : NewAt c F H0 L H N v r) (oO : Same O H) (ap : ∀ a, N a ≠ none → O a = none) (og : ∀ a, c.ga = some a → O a = none) (ok : Ok (oddTurn (sSeq sA sB) w k r) g (w', k') g')
    (hn : ∀ σ' H', Wd c H0 F H' σ' (keep3 w' k') g' → Stp c F0 H0 F H' g' → w'.nb = true → H' L = some (.lst lv) → Same O H' → De.nx σ' H') :
    tSeq (tSx c.K c.mg sA) (tSeq (tSx c.K c.mg sB) (tSeq (tOdd1 K 3) (tOdd0 K 3))) De (σ.set 3 (some v)) H := by
  obtain ⟨fl, g1, ok1, ok2⟩ := ok_bind.mp ok
  unfold oddEnd at ok2
  split at ok2
  · rename_i w1 k1 x xs s4 s5 s6
    split at ok2
    · rename_i hc
      obtain ⟨hw1, hx, hxs⟩ := hc
      obtain ⟨e, rfl⟩ := ok_pure.mp ok2
      cases e
      obtain ⟨fa, g2, okA, okB⟩ := ok_bind.mp ok1
      cases fa with
      | nx δ1 =>
        have l7 : σ.length = 7 := wd.len.symm
        have gab : ∀ a, c.ga = some a → N a = none := fun a n => by
          cases e : N a with
          | none => rfl
          | some o => exact absurd n (nw.ap a (by rw [e]; simp)).2.2.2
        have gen1 : GenOk ⟨c.K, c.mg, c.ga, F⟩ N H g := ⟨fun a n => ⟨gab a n, (wd.gen.gen a n).2⟩, wd.le, fun a n => (wd.gen.gen a n).1⟩
        have rv : ∀ (i : Nat) (d : DL.D), [Sl.val D.gen, .val (.bor w), .val (.str k), .val r, .no, .no, .no][i]? = some (Sl.val d) → ∃ u, (σ.set 3 (some v))[i]? = some (some u) ∧ Rep ⟨c.K, c.mg, c.ga, F⟩ N u d := fun i d h => by
          match i, h with
          | 0, h =>
            cases h
            obtain ⟨u, e1, e2⟩ := wd.val 0 .gen rfl
            refine ⟨u, by rw [List.getElem?_set_ne (by decide)]; exact e1, ?_⟩
            cases e2 with
            | gen e => exact .gen e
          | 1, h =>
            cases h
            obtain ⟨u, e1, e2⟩ := wd.val 1 w rfl
            exact ⟨u, by rw [List.getElem?_set_ne (by decide)]; exact e1, .bor (Rep.re (c := c) (c' := ⟨c.K, c.mg, c.ga, F⟩) rfl rfl w u hw e2)⟩
          | 2, h =>
            cases h
            obtain ⟨u, e1, e2⟩ := wd.val 2 (.str k) rfl
            refine ⟨u, by rw [List.getElem?_set_ne (by decide)]; exact e1, ?_⟩
            cases e2
            exact .str k
          | 3, h =>
            cases h
            exact ⟨v, by rw [List.getElem?_set_self (by omega)], Rep.re (c := c) (c' := ⟨c.K, c.mg, c.ga, F⟩) rfl rfl r v nw.nb nw.rep⟩
          | 4, h => cases h
          | 5, h => cases h
          | 6, h => cases h
          | i + 7, h => simp at h
        have no : ∀ (i : Nat) (zs : List DL.D), [Sl.val D.gen, .val (.bor w), .val (.str k), .val r, .no, .no, .no][i]? ≠ some (Sl.own zs) := fun i zs h => by
          match i, h with
          | 0, h => cases h
          | 1, h => cases h
          | 2, h => cases h
          | 3, h => cases h
          | 4, h => cases h
          | 5, h => cases h
          | 6, h => cases h
          | i + 7, h => simp at h
        have w1 : Wd ⟨c.K, c.mg, c.ga, F⟩ H N H (σ.set 3 (some v)) [.val .gen, .val (.bor w), .val (.str k), .val r, .no, .no, .no] g :=
          ⟨nw.le, gen1, by simp [l7], rv, fun i zs h => absurd h (no i zs), fun i j xs ys _ h => absurd h (no i xs), wd.le⟩
        refine ⟨c.ga, F, N, H, N, _, g, _, g2, w1, .refl nw.le gen1, okA, fun σ2 F2 H2 w2 s2 _ => ⟨c.ga, F, N, H, F2, _, g2, _, g1, w2, s2, okB, fun σ3 F3 H3 w3 s3 _ => ?_⟩⟩
        obtain ⟨z3, b1, r3⟩ := w3.val 3 _ rfl
        cases r3 with
        | @lst _ p vs _ ep rp =>
          cases rp with
          | @cons _ u us _ _ ru rus =>
            cases ru with
            | @lst _ b ys _ eb rb =>
              have lys := rb.length
              have lus := rus.length
              have hx' := lim_le hx
              have hxs' := lim_le hxs
              -- what is spoilt is apart from all that stays
              have off : ∀ a, F3 a ≠ none → F a = none ∧ H0 a = none ∧ a ≠ L ∧ c.ga ≠ some a ∧ O a = none := fun a n => by
                have ng : c.ga ≠ some a := fun z => n (w3.gen.gen a z).1
                by_cases hN : N a = none
                · have hH := s3.new a n hN
                  refine ⟨?_, ?_, fun z => ?_, ng, ?_⟩
                  · cases e : F a with
                    | none => rfl
                    | some o => rw [wd.le a o e] at hH; cases hH
                  · cases e : H0 a with
                    | none => rfl
                    | some o => rw [sp.ext a o ng e] at hH; cases hH
                  · rw [z, hL] at hH; cases hH
                  · cases e : O a with
                    | none => rfl
                    | some o => rw [oO a o e] at hH; cases hH
                · obtain ⟨q1, q2, q3, q4⟩ := nw.ap a hN
                  exact ⟨q1, q2, q3, q4, ap a hN⟩
              have offb := off b (by rw [eb]; simp)
              have offp := off p (by rw [ep]; simp)
              refine ⟨p, b, .ref b, us, ys, b1, w3.le _ _ ep, rfl, w3.le _ _ eb, by omega, ?_⟩
              have hz : ∃ zs, upd H3 b (.lst (ys ++ [.str "odd"])) p = some (.lst zs) ∧ zs.length < sizeLine := by
                by_cases e : p = b
                · subst e
                  exact ⟨_, upd_same, by rw [List.length_append]; simp; omega⟩
                · exact ⟨_, by rw [upd_ne e]; exact w3.le _ _ ep, by simp; omega⟩
              obtain ⟨zs, hz1, hz2⟩ := hz
              refine ⟨p, zs, b1, hz1, hz2, ?_⟩
              have stay : ∀ a o, a ≠ b → a ≠ p → H3 a = some o → upd (upd H3 b (.lst (ys ++ [.str "odd"]))) p (.lst (zs ++ [.str "odd"])) a = some o := fun a o n1 n2 e => by
                rw [upd_ne n2, upd_ne n1]; exact e
              have exH : ∀ a o, c.ga ≠ some a → H a = some o → H3 a = some o := s3.ext
              have s5 : Stp c F0 H0 F (upd (upd H3 b (.lst (ys ++ [.str "odd"]))) p (.lst (zs ++ [.str "odd"]))) g1 := by
                have ext : ∀ a o, c.ga ≠ some a → H0 a = some o → upd (upd H3 b (.lst (ys ++ [.str "odd"]))) p (.lst (zs ++ [.str "odd"])) a = some o := fun a o n e =>
                  stay a o (ne_of_none e offb.2.1) (ne_of_none e offp.2.1) (exH a o n (sp.ext a o n e))
                refine ⟨sp.sub, ext, sp.new, fun a o e => ?_, ⟨fun a n => ⟨(wd.gen.gen a n).1, ?_⟩, fun a o e => ?_, wd.gen.nb⟩⟩
                · have n : c.ga ≠ some a := fun z => by rw [(wd.gen.gen a z).1] at e; cases e
                  exact stay a o (ne_of_none e offb.1) (ne_of_none e offp.1) (exH a o n (wd.le a o e))
                · exact stay a _ (fun z => offb.2.2.2.1 (by rw [← z]; exact n)) (fun z => offp.2.2.2.1 (by rw [← z]; exact n)) (w3.gen.gen a n).2
                · have n : c.ga ≠ some a := fun z => by rw [wd.gen.nb a z] at e; cases e
                  exact ext a o n (wd.bo0 a o e)
              have no2 : ∀ (i : Nat) (zs : List DL.D), (keep3 w' k')[i]? ≠ some (Sl.own zs) := fun i zs h => by
                match i, h with
                | 0, h => cases h
                | 1, h => cases h
                | 2, h => cases h
                | 3, h => cases h
                | 4, h => cases h
                | 5, h => cases h
                | 6, h => cases h
                | i + 7, h => simp [keep3] at h
              refine hn σ3 _ ⟨s5.le, s5.gen, w3.len, fun i d h => ?_, fun i zs h => absurd h (no2 i zs), fun i j xs ys _ h => absurd h (no2 i xs), wd.bo0⟩ s5 hw1 ?_ (fun a o e => ?_)
              · match i, h with
                | 0, h =>
                  cases h
                  obtain ⟨u, e1, e2⟩ := w3.val 0 .gen rfl
                  refine ⟨u, e1, ?_⟩
                  cases e2 with
                  | gen e => exact .gen e
                | 1, h =>
                  cases h
                  obtain ⟨u, e1, e2⟩ := w3.val 1 _ rfl
                  cases e2 with
                  | bor e2 => exact ⟨u, e1, Rep.re (c := ⟨c.K, c.mg, c.ga, F⟩) (c' := c) rfl rfl _ u hw1 e2⟩
                | 2, h =>
                  cases h
                  obtain ⟨u, e1, e2⟩ := w3.val 2 _ rfl
                  refine ⟨u, e1, ?_⟩
                  cases e2
                  exact .str _
                | 3, h => cases h
                | 4, h => cases h
                | 5, h => cases h
                | 6, h => cases h
                | i + 7, h => simp [keep3] at h
              · exact stay L _ (Ne.symm offb.2.2.1) (Ne.symm offp.2.2.1) (exH L _ hLg hL)
              · have n : c.ga ≠ some a := fun z => by rw [og a z] at e; cases e
                exact stay a o (fun z => by rw [z, offb.2.2.2.2] at e; cases e) (fun z => by rw [z, offp.2.2.2.2] at e; cases e) (exH a o n (oO a o e))
      | rt d =>
        obtain ⟨e, _⟩ := ok_pure.mp okB
        cases e
      | bk δ' =>
        obtain ⟨e, _⟩ := ok_pure.mp okB
        cases e
      | ct δ' =>
        obtain ⟨e, _⟩ := ok_pure.mp okB
        cases e
    · exact absurd ok2 not_ok_stuck
  · exact absurd ok2 not_ok_stuck
/-- for x in [f(w), f(p=w)]: A; B; x[0].append('odd'); x.append('odd') -/
def sRows (Fs : List D → M D) (sA sB : S) : S := fun δ => match δ with
  | [.val .gen, .val w, .val (.str k), .no, .no, .no, .no] => if w.nb then Fs [wrapB w] >>= fun r1 => Fs [wrapB w] >>= fun r2 => if r1.nb && r2.nb then
      oddTurn (sSeq sA sB) w k r1 >>= fun p => oddTurn (sSeq sA sB) p.1 p.2 r2 >>= fun p => pure (.nx (keep3 p.1 p.2)) else stuck else stuck
  | _ => stuck
def tOne (K : PySem.W.Frag) (mg : Str → Option Value) (Fs : List D → M D) : TE := fun σ H Q => tCons (tVar 1) tNil σ H fun vs H1 => vs.length = 1 ∧ spN K mg Fs vs H1 Q
def tOneK (K : PySem.W.Frag) (mg : Str → Option Value) (Fs : List D → M D) : TE := fun σ H Q => tCons (tVar 1) tNil σ H fun vs H1 => vs.length = 1 ∧ spN K mg Fs (pick [0] vs) H1 Q
theorem oddEnd_nb {fl : Fl} {g g' : Gs} {p : D × Str} (h : Ok (oddEnd fl) g p g') : p.1.nb = true := by
  unfold oddEnd at h
  split at h
  · split at h
    · rename_i hc
      obtain ⟨rfl, _⟩ := ok_pure.mp h
      exact hc.1
    · exact absurd h not_ok_stuck
  · exact absurd h not_ok_stuck
theorem rows_imp {c : C} {Fs : List D → M D} {sA sB : S} : ∀ De σ H, tS c (sRows Fs sA sB) De σ H →
    tFor (iList c.K (tLst (tCons (tOne c.K c.mg Fs) (tCons (tOneK c.K c.mg Fs) tNil)))) (gName 3) (tSeq (tSx c.K c.mg sA) (tSeq (tSx c.K c.mg sB) (tSeq (tOdd1 c.K 3) (tOdd0 c.K 3)))) De σ H := fun De σ H ⟨F0, H0, F, δ, g, r, g', wd, sp, o, q⟩ => by
  unfold sRows at o
  split at o
  · rename_i w k
    split at o
    · rename_i hw
      obtain ⟨r1, g1, o1, o⟩ := ok_bind.mp o
      obtain ⟨r2, g2, o2, o⟩ := ok_bind.mp o
      split at o
      · rename_i hnb
        rw [Bool.and_eq_true] at hnb
        obtain ⟨⟨wa, ka⟩, g3, o3, o⟩ := ok_bind.mp o
        obtain ⟨⟨wb, kb⟩, g4, o4, o⟩ := ok_bind.mp o
        obtain ⟨rfl, rfl⟩ := ok_pure.mp o
        obtain ⟨x1, e1, rx⟩ := wd.val 1 w rfl
        have genF : ∀ a, c.ga = some a → F a = none := fun a n => (wd.gen.gen a n).1
        refine ⟨x1, e1, rfl, c.ga, c.bo, F, [w], g, r1, g1, wd.le, wd.gen, .cons rx .nil, by simp [nbs, hw], o1, hnb.1, fun v1 F1 H1 s1 q1 => ?_⟩
        have t1 : Stp c F H (un F F1) H1 g1 := Stp.newer (c0 := ⟨c.K, c.mg, c.ga, F⟩) wd.le wd.gen rfl s1
        have leF1 : Same F H1 := fun a o e => t1.ext a o (fun n => by rw [genF a n] at e; cases e) (wd.le a o e)
        have gen1 : GenOk c F H1 g1 := ⟨fun a n => ⟨genF a n, (t1.gen.gen a n).2⟩, t1.gen.bo, t1.gen.nb⟩
        refine ⟨x1, e1, rfl, c.ga, c.bo, F, [w], g1, r2, g2, leF1, gen1, .cons rx .nil, by simp [nbs, hw], o2, hnb.2, fun v2 F2 H2 s2 q2 => ?_⟩
        have t2 : Stp c F H1 (un F F2) H2 g2 := Stp.newer (c0 := ⟨c.K, c.mg, c.ga, F⟩) leF1 gen1 rfl s2
        refine ⟨by show 2 ≤ sizeLine; decide, fun L hL => ⟨L, rfl, ⟨_, SqL.of upd_same⟩, ?_⟩⟩
        have gaN : ∀ a, c.ga = some a → H2 a ≠ none := fun a n => by rw [(s2.gen.gen a n).2]; simp
        have hLg : c.ga ≠ some L := fun n => gaN L n hL
        have k1 : ∀ a o, c.ga ≠ some a → H a = some o → H2 a = some o := fun a o n e => t2.ext a o n (t1.ext a o n e)
        have k2 : ∀ a o, c.ga ≠ some a → H a = some o → upd H2 L (.lst [v1, v2]) a = some o := fun a o n e => by
          rw [upd_ne (ne_of_none (k1 a o n e) hL)]; exact k1 a o n e
        have f1g : ∀ a, c.ga = some a → F1 a = none := fun a n => (s1.gen.gen a n).1
        have f2g : ∀ a, c.ga = some a → F2 a = none := fun a n => (s2.gen.gen a n).1
        have le1 : Same F1 (upd H2 L (.lst [v1, v2])) := fun a o e => by
          have n : c.ga ≠ some a := fun z => by rw [f1g a z] at e; cases e
          have e2 := t2.ext a o n (s1.le a o e)
          rw [upd_ne (ne_of_none e2 hL)]; exact e2
        have le2 : Same F2 (upd H2 L (.lst [v1, v2])) := fun a o e => by
          rw [upd_ne (ne_of_none (s2.le a o e) hL)]; exact s2.le a o e
        have hH0 : ∀ a, c.ga ≠ some a → H a = none → H0 a = none := fun a n h => by
          cases e : H0 a with
          | none => rfl
          | some o => rw [sp.ext a o n e] at h; cases h
        have hF : ∀ a, H a = none → F a = none := fun a h => by
          cases e : F a with
          | none => rfl
          | some o => rw [wd.le a o e] at h; cases h
        have new1 : ∀ a, F1 a ≠ none → H a = none := fun a n => s1.new a n rfl
        have new2 : ∀ a, F2 a ≠ none → H1 a = none := fun a n => s2.new a n rfl
        have h1H : ∀ a, c.ga ≠ some a → H1 a = none → H a = none := fun a n h => by
          cases e : H a with
          | none => rfl
          | some o => rw [t1.ext a o n e] at h; cases h
        have nF2 : ∀ a, F2 a ≠ none → c.ga ≠ some a := fun a h z => h (f2g a z)
        have nF1 : ∀ a, F1 a ≠ none → c.ga ≠ some a := fun a h z => h (f1g a z)
        have a1 : NewAt c F H0 L (upd H2 L (.lst [v1, v2])) F1 v1 r1 := ⟨le1, fun a n => ⟨hF a (new1 a n), hH0 a (nF1 a n) (new1 a n), (fun z => by
          rw [z] at n
          cases e : F1 L with
          | none => exact n e
          | some o => rw [t2.ext L o hLg (s1.le L o e)] at hL; cases hL), nF1 a n⟩, q1, hnb.1⟩
        have a2 : ∀ H', Same F2 H' → NewAt c F H0 L H' F2 v2 r2 := fun H' hs => ⟨hs, fun a n => ⟨hF a (h1H a (nF2 a n) (new2 a n)), hH0 a (nF2 a n) (h1H a (nF2 a n) (new2 a n)), (fun z => by
          rw [z] at n
          cases e : F2 L with
          | none => exact n e
          | some o => rw [s2.le L o e] at hL; cases hL), nF2 a n⟩, q2, hnb.2⟩
        have ap12 : ∀ a, F1 a ≠ none → F2 a = none := fun a n => by
          cases e : F2 a with
          | none => rfl
          | some o =>
            have h := new2 a (by rw [e]; simp)
            cases e1 : F1 a with
            | none => exact absurd e1 n
            | some o1 => rw [s1.le a o1 e1] at h; cases h
        have st0 : Stp c F H F (upd H2 L (.lst [v1, v2])) g2 := by
          have ext := k2
          refine ⟨.refl F, ext, fun a h1 h2 => absurd h2 h1, fun a o e => ext a o (fun n => by rw [genF a n] at e; cases e) (wd.le a o e), ⟨fun a n => ⟨genF a n, ?_⟩, fun a o e => ext a o (fun n => by rw [wd.gen.nb a n] at e; cases e) (wd.gen.bo a o e), wd.gen.nb⟩⟩
          rw [upd_ne (fun z => hLg (by rw [← z]; exact n))]
          exact (s2.gen.gen a n).2
        refine ⟨fun i m σ' H' => (i = 0 ∧ m = 2 ∧ σ' = σ ∧ H' = upd H2 L (.lst [v1, v2])) ∨ (i = 1 ∧ m = 1 ∧ Wd c H0 F H' σ' (keep3 wa ka) g3 ∧ Stp c F0 H0 F H' g3 ∧ wa.nb = true ∧ H' L = some (.lst [v1, v2]) ∧ Same F2 H') ∨
          (i = 2 ∧ m = 0 ∧ Wd c H0 F H' σ' (keep3 wb kb) g4 ∧ Stp c F0 H0 F H' g4 ∧ H' L = some (.lst [v1, v2])), ⟨2, .inl ⟨rfl, rfl, rfl, rfl⟩⟩, fun i m σ' H' h => ?_⟩
        rcases h with ⟨rfl, rfl, rfl, rfl⟩ | ⟨rfl, rfl, w', sp', nba, hL', hF2⟩ | ⟨rfl, rfl, w', sp', hL'⟩
        · refine .inr ⟨⟨_, v1, SqL.of upd_same, rfl⟩, fun σ2 H2' => Wd c H0 F H2' σ2 (keep3 wa ka) g3 ∧ Stp c F0 H0 F H2' g3 ∧ wa.nb = true ∧ H2' L = some (.lst [v1, v2]) ∧ Same F2 H2', fun σ2 H2' hN => ⟨1, by decide, .inr (.inl ⟨rfl, rfl, hN⟩)⟩, fun x H' hy => ?_⟩
          obtain ⟨rfl, hx⟩ := hy
          have ex := hx _ (SqL.of upd_same)
          cases ex
          exact odd_turn (wd.step st0) (sp.trans st0) hw upd_same hLg a1 le2 ap12 f2g o3 fun σ'' H'' w'' s'' n'' l'' f'' => ⟨w'', s'', n'', l'', f''⟩
        · refine .inr ⟨⟨_, v2, SqL.of hL', rfl⟩, fun σ2 H2' => Wd c H0 F H2' σ2 (keep3 wb kb) g4 ∧ Stp c F0 H0 F H2' g4 ∧ H2' L = some (.lst [v1, v2]), fun σ2 H2' hN => ⟨0, by decide, .inr (.inr ⟨rfl, rfl, hN⟩)⟩, fun x H'' hy => ?_⟩
          obtain ⟨rfl, hx⟩ := hy
          have ex := hx _ (SqL.of hL')
          cases ex
          exact odd_turn (O := fun _ => none) w' sp' nba hL' hLg (a2 _ hF2) (fun a o e => by cases e) (fun _ _ => rfl) (fun _ _ => rfl) o4 fun σ'' H'' w'' s'' n'' l'' f'' => ⟨w'', s'', l''⟩
        · exact .inl ⟨⟨_, SqL.of hL', Nat.le_refl _⟩, q σ' F H' w' sp' (.refl F)⟩
      · exact absurd o not_ok_stuck
    · exact absurd o not_ok_stuck
  · exact absurd o not_ok_stuck
end DL

/-! ## DEx -/
set_option Elab.async false
set_option autoImplicit false
set_option linter.all false
set_option maxRecDepth 100000
set_option maxHeartbeats 4000000
/-! DEx: what printed walks of defs that raise and catch name besides. -/
namespace DL
open PySem PySem.Spec PyProof.Rows L2
structure BltX (mg : Str → Option Value) : Prop extends Blt mg where
  reversed_ : mg "reversed" = none
  divmod_ : mg "divmod" = none
  set_ : mg "set" = none
/-- an own error class T, as seen from instances of xs -/
structure ErrT (K : PySem.W.Frag) (mg : Str → Option Value) (xs : List Str) (T : Str) : Prop where
  ex : ∃ CT, mg T = some (.ref CT) ∧ (∀ x, ∀ C, mg x = some (.ref C) → x ∈ xs → ErrIs K mg x C ∧ PySem.W.kitOne K (.ref C) (.ref CT) = some (decide (x = T))) ∧ PySem.W.kitOne K (.type "NoneType") (.ref CT) = some false
def dIsEx (xs : List Str) (T : Str) (d : D) : M D := match d with
  | .exc x _ => if xs.contains x then pure (.bl (decide (x = T))) else stuck
  | .non => pure (.bl false)
  | _ => stuck
def dValx (xs : List Str) (d : D) : M D := match d with
  | .exc x e => if xs.contains x then pure e else stuck
  | _ => stuck
section
variable {X : Cx} {a : Expr} {fa : E} {pos p p2 : Pos} {ga : Option Addr} {bo : Hp}
theorem d_valx {xs : List Str} (T : ∀ x, ∀ C, X.mg x = some (.ref C) → x ∈ xs → ErrIs X.K X.mg x C) (ha : PE X a (tP ⟨X.K, X.mg, ga, bo⟩ fa)) (hb : attributeBase a "value" X.env (eval a X.env) = eval a X.env := by rfl) :
    PE X (.Attribute a "value" pos) (tP ⟨X.K, X.mg, ga, bo⟩ (eF (dValx xs) fa)) := d_val T ha hb
theorem d_isE {T : Str} {xs : List Str} (h : ErrT X.K X.mg xs T) (hm : X.mg "isinstance" = none) (ha : PE X a (tP ⟨X.K, X.mg, ga, bo⟩ fa)) (hg : Gl X "isinstance" := by rfl) (hgT : Gl X T := by rfl) (hdb : (T == ("__debug__" : Str)) = false := by decide)
    (he : starEach [a, .Name T p2] X.env = (false, eval a X.env) :: starEach [.Name T p2] X.env := by rfl) :
    PE X (.Call (.Name "isinstance" p) [a, .Name T p2] [] pos) (tP ⟨X.K, X.mg, ga, bo⟩ (eF (dIsEx xs T) fa)) := by
  obtain ⟨CT, hT, E, hN⟩ := h.ex
  have pn : PE X (.Name T p2) (tC (.ref CT)) := ⟨fun pins s σ H Q I q => ld_glob I hgT hT ⟨.ref CT, H, I, rfl, q⟩ hdb⟩
  refine (pe_callB (isE_c (ga := ga) (bo := bo) hT E hN) hg hm (by rfl) (pa_cons ha (pa_cons pn pa_nil) he) (by decide) (by decide) he rfl).imp fun σ H Q ⟨H0, F, δ, g, d, g', w, o, q⟩ => ?_
  obtain ⟨x, g1, o1, o⟩ := ok_bind.mp o
  exact ⟨H0, F, δ, g, x, g1, w, o1, fun v F1 H1 s1 r1 => ⟨v, F1, x, g1, d, g', rfl, s1.le, s1.gen, r1, o, fun z F2 H2 s2 r2 => q z F2 H2 (s1.trans s2) r2⟩⟩
end
/-- defs by their names: a list -/
def tabOf (l : List (Str × (List D → M D))) : Tab := fun x => l.lookup x
theorem tabB_of {P : Program} {w : World} {K : PySem.W.Frag} {mg : Str → Option Value} {base : Heap} {k : Nat} : ∀ {l : List (Str × (List D → M D))}, (∀ p ∈ l, ∃ st ps, CalB P w K mg base k p.1 st ps p.2) → TabB P w K mg base k (tabOf l)
  | l, h => ⟨fun x Fs e => by
    induction l with
    | nil => cases e
    | cons p l ih =>
      unfold tabOf at e ih
      rw [List.lookup_cons] at e
      split at e
      · rename_i hx
        cases e
        have hx : x = p.1 := by simpa using hx
        rw [hx]
        exact h p List.mem_cons_self
      · exact ih (fun q hq => h q (List.mem_cons_of_mem _ hq)) e⟩
end DL

/-! ## DLaw -/
set_option Elab.async false
set_option autoImplicit false
set_option linter.all false
set_option maxRecDepth 100000
set_option maxHeartbeats 4000000
/-! DLaw: the law's own loop. -/
namespace DL
open PySem PySem.Spec PyProof.Rows L2
/-- the slots of the law's frame: the generator's list alone is known -/
def lawSl (L : Nat) : Dlt := .no :: .no :: .val .gen :: List.replicate (L - 3) .no
theorem lawSl_len {L : Nat} (h : 3 ≤ L) : (lawSl L).length = L := by simp [lawSl]; omega
theorem nos_get {n i : Nat} {s : Sl} (h : (List.replicate n Sl.no)[i]? = some s) : s = .no := (List.mem_replicate.mp (List.mem_of_getElem? h)).2
theorem lawSl_get {L i : Nat} {s : Sl} (h : (lawSl L)[i]? = some s) : s = .no ∨ (i = 2 ∧ s = .val .gen) := by
  match i, h with
  | 0, h => cases h; exact .inl rfl
  | 1, h => cases h; exact .inl rfl
  | 2, h => cases h; exact .inr ⟨rfl, rfl⟩
  | i + 3, h => exact .inl (nos_get (n := L - 3) (i := i) (by simpa [lawSl] using h))
section
variable {K : PySem.W.Frag} {mg : Str → Option Value} {H : Hp} {σ : L2.St} {g : Gs} {p : Addr} {L : Nat}
theorem law_wd (hL : 3 ≤ L) (hl : σ.length = L) (h2 : σ[2]? = some (some (.ref p))) (hp : H p = some (.lst (g.map V.int))) : Wd ⟨K, mg, some p, fun _ => none⟩ H (fun _ => none) H σ (lawSl L) g := by
  refine ⟨fun b o e => (by cases e), ⟨fun b e => ⟨rfl, by cases e; exact hp⟩, fun b o e => (by cases e), fun b e => rfl⟩, by rw [lawSl_len hL, hl], fun j d h => ?_, fun j xs h => ?_, fun j j2 xs ys ne h1 h2 => ?_, fun b o e => (by cases e)⟩
  · rcases lawSl_get h with h | ⟨rfl, h⟩
    · cases h
    · cases h
      exact ⟨.ref p, h2, .gen rfl⟩
  · rcases lawSl_get h with h | ⟨rfl, h⟩ <;> cases h
  · rcases lawSl_get h1 with h | ⟨rfl, h⟩ <;> cases h
theorem law_wd0 (hl : σ.length = L) : Wd ⟨K, mg, none, fun _ => none⟩ H (fun _ => none) H σ (List.replicate L .no) [] := by
  refine ⟨fun b o e => (by cases e), ⟨fun b e => (by cases e), fun b o e => (by cases e), fun b e => (by cases e)⟩, by simp [hl], fun j d h => ?_, fun j xs h => ?_, fun j j2 xs ys ne h1 h2 => ?_, fun b o e => (by cases e)⟩
  · cases nos_get h
  · cases nos_get h
  · cases nos_get h1
/-- the script stays -/
theorem sq_stay {a : Addr} {ns : List V} {H3 F F' H' : Hp} {bo : Hp} {g' : Gs} (hS : SqL K H a ns) (hp : H p = none) (s3 : Same H H3) (st : Stp ⟨K, mg, some p, bo⟩ F H3 F' H' g') : SqL K H' a ns := by
  rcases hS with h | h
  · refine .inl ?_
    have ne : a ≠ p := fun z => by
      rcases h with h | ⟨od, h⟩
      · rw [z, hp] at h; cases h
      · rw [z, hp] at h; cases h
    rcases h with h | ⟨od, h⟩
    · exact .inl (st.ext a _ (fun z => ne (Option.some.inj z).symm) (s3 a _ h))
    · exact .inr ⟨od, st.ext a _ (fun z => ne (Option.some.inj z).symm) (s3 a _ h)⟩
  · exact .inr h
def tTx (K : PySem.W.Frag) (mg : Str → Option Value) (f : E) : TT := fun σ H Q => ∃ ga bo, tT ⟨K, mg, ga, bo⟩ f σ H Q
theorem ptx {X : Cx} {e : Expr} {f : E} (h : ∀ ga bo, PT X e (tT ⟨X.K, X.mg, ga, bo⟩ f)) : PT X e (tTx X.K X.mg f) := ⟨fun pins t σ H Q I ⟨ga, bo, q⟩ => (h ga bo).run pins t σ H Q I q⟩
end
theorem at_mk {K : PySem.W.Frag} {h : Heap} {mg : Str → Option Value} (X : K.In h) (G : h.Ns mainGlobals mg) {x : Str} {st : Stmt} {ps : List Str} {f : Addr} {od an : Option Addr} {sl : Array (Option Value)} {oc kV dc pm cd ct : Value}
    (a : PySem.W.nsIn K mainGlobals x = some (some (.ref f))) (l : K.lookup f = some ⟨oc, od, .func (PySem.W.fnOf x x (defArgs st) (defBody st) (defScope st) .none kV dc pm an cd ct), sl⟩) (c : PySem.W.codeIn K cd x = true) (k : PySem.W.keepIn K (.ref f) = true)
    (b : ∀ (kV doc pm : Value) (an : Option Addr) (cdv ct : Value) (us : List Value), us.length = ps.length → bindArgs (PySem.W.fnOf x x (defArgs st) (defBody st) (defScope st) .none kV doc pm an cdv ct) ⟨us, []⟩ = pure (ps.zip us)) : At K mg x st ps := by
  have F := fun_mk (st := st) l c k
  exact ⟨_, _, PySem.W.mg_of X G a, F, F.binds b⟩
end DL

/-! ## DCls -/
set_option Elab.async false
set_option autoImplicit false
set_option linter.all false
set_option maxRecDepth 100000
set_option maxHeartbeats 4000000
/-! DCls: facts on own error classes from what is written. -/
namespace DL
open PySem PySem.Spec PyProof.Rows L2 PySem.W
theorem errC_mk {P : Program} {K : Frag} {h : Heap} {mg : Str → Option Value} (X : K.In h) (G : h.Ns mainGlobals mg) {x : Str} {A D fI : Addr}
    (g : nsIn K mainGlobals x = some (some (.ref A))) (gD : nsIn K mainGlobals "EscapeError" = some (some (.ref D))) (iC : findIn K (.ref A) "__init__" = some (some (.ref fI)))
    (tI : typeIn K (.ref fI) = some (.type "function")) (sup : nsIn K mainGlobals "super" = some none) {cd : ClassData} (clD : clsIn K D = some cd) (op : nsIn K cStatics "thirdparty.any" = some none) (top : (P.main.scope.names.lookup ("super" : Str)).isSome = false)
    {oc : Value} {od : Option Addr} {doc pm : Value} {an : Option Addr} {cda cc : Addr} {ct : Value} {osl : Array (Option Value)}
    (lf : K.lookup fI = some ⟨oc, od, .func (ksFn "__init__" "EscapeError.__init__" PySem.EscX.iA PySem.EscX.iB PySem.EscX.iS .none .none doc pm an (.ref cda) ct cc), osl⟩) (hcd : codeIn K (.ref cda) "EscapeError.__init__" = true)
    {ccl : Value} {cdd : Option Addr} {vs : Array Value} {ccs : Array (Option Value)} {file : Str} {tf : Tok} (lc : K.lookup cda = some ⟨ccl, cdd, .fields vs, ccs⟩) (hvs : vs[2]? = some (.str file tf)) (hfile : ((P.main.file : Str) == file) = true)
    {cl : Value} {cld : Option Addr} {csl : Array (Option Value)} (lcc : K.lookup cc = some ⟨cl, cld, .cell (some (.ref D)), csl⟩)
    {nm q : Str} {N : Addr} {bs bm : List Value} {sn : List Str} {sub : List Value} {ab : Bool} {col : Option Bool} {dd : Option Addr} {k0 k1 k2 k3 k5 : Option Value} (lC : K.lookup A = some (excClassObj nm q A N bs bm true sn sub ab col dd k0 k1 k2 k3 k5 "ValueError.__new__")) (hbm : PySem.HandSPX.refsVE bm = true)
    (sa : findIn K (.ref A) "__setattr__" = some (some (.builtin "object.__setattr__"))) (ga : findIn K (.ref A) "__getattribute__" = some (some (.builtin "BaseException.__getattribute__"))) (gg : findIn K (.ref A) "__getattr__" = some none) (noN : findIn K (.ref A) "value" = some none)
    (kC : keepIn K (.ref A) = true) (exC : subIn K (.ref A) (.type "BaseException") = some true) (veC : subIn K (.ref A) (.type "ValueError") = some true) (tyC : typeIn K (.ref A) = some (.type "type")) (hdC : hasDictIn K A = true) (hsub : mroIn K A (.ref D) = some true) (hsup : ks_superIn K A D "__init__" = some (some (.builtin "ValueError.__init__"))) :
    ErrC P K mg x A :=
  ⟨mg_of X G g, D, fI, ⟨tI, mg_none_of X G sup, ⟨cd, clD⟩, op, top, ⟨oc, od, doc, pm, an, cda, cc, ct, osl, lf, hcd, ⟨ccl, cdd, vs, ccs, file, tf, lc, hvs, hfile⟩, ⟨cl, cld, csl, lcc⟩⟩⟩,
    ⟨⟨nm, q, N, bs, bm, sn, sub, ab, col, dd, k0, k1, k2, k3, k5, lC, hbm⟩, sa, ga, gg, noN, iC, kC, exC, veC, tyC, hdC, hsub, hsup⟩⟩
theorem errIs_mk {K : Frag} {h : Heap} {mg : Str → Option Value} (X : K.In h) (G : h.Ns mainGlobals mg) {x : Str} {A : Addr} (g : nsIn K mainGlobals x = some (some (.ref A))) {cd : ClassData} (cl : clsIn K A = some cd)
    (ga : findIn K (.ref A) "__getattribute__" = some (some (.builtin "BaseException.__getattribute__"))) (gg : findIn K (.ref A) "__getattr__" = some none) (noN : findIn K (.ref A) "value" = some none)
    (exC : subIn K (.ref A) (.type "BaseException") = some true) (hdC : hasDictIn K A = true) (ha : findIn K (.ref A) "__class__" = some (some (.builtin "object.__class__"))) (hn : specialIn K (.builtin "object.__class__") "__get__" = some (some (.builtin "getset_descriptor.__get__")))
    (ht : takesIn K (.builtin "object.__class__") = some true) (hm : mroIn K A (.type "object") = some true) : ErrIs K mg x A :=
  ⟨mg_of X G g, by rw [cl]; rfl, ga, gg, noN, exC, hdC, ha, hn, ht, hm⟩
end DL

/-! ## DEval -/
set_option autoImplicit false
set_option linter.all false
set_option maxRecDepth 100000
/-! DEval: what the pure pieces come to. -/
namespace DL
open PySem

/-! ### comprehensions, loops -/
theorem lcGo_map {α : Type} {g : G} {tt te : E} {δ : Dlt} {emb : α → D} {γ : α → Dlt} {p : α → Bool} {f : α → D} : ∀ {xs : List α}, (∀ x ∈ xs, g (emb x) δ = some (γ x)) → (∀ x ∈ xs, tt (γ x) = pure (.bl (p x))) → (∀ x ∈ xs, p x = true → te (γ x) = pure (f x)) →
    lcGo g tt te δ (xs.map emb) = pure ((xs.filter p).map f)
  | [], _, _, _ => rfl
  | x :: xs, h1, h2, h3 => by
    have ih := lcGo_map (fun y hy => h1 y (List.mem_cons_of_mem _ hy)) (fun y hy => h2 y (List.mem_cons_of_mem _ hy)) (fun y hy => h3 y (List.mem_cons_of_mem _ hy))
    show (liftG (g (emb x) δ) >>= _) = _
    rw [h1 x List.mem_cons_self]
    show (tt (γ x) >>= _) = _
    rw [h2 x List.mem_cons_self, pure_bind]
    cases hp : p x with
    | true =>
      show (te (γ x) >>= _) = _
      rw [h3 x List.mem_cons_self hp, pure_bind, ih, pure_bind, List.filter_cons_of_pos hp]
      rfl
    | false =>
      show lcGo g tt te δ (xs.map emb) = _
      rw [ih, List.filter_cons_of_neg (by rw [hp]; simp)]
theorem eLc_map {α : Type} {vs : List Nat} {g : G} {src : Es} {tt te : E} {δ : Dlt} {emb : α → D} {γ : α → Dlt} {p : α → Bool} {f : α → D} {xs : List α} (hs : src δ = pure (xs.map emb)) (h1 : ∀ x ∈ xs, g (emb x) (wipeD δ vs) = some (γ x)) (h2 : ∀ x ∈ xs, tt (γ x) = pure (.bl (p x)))
    (h3 : ∀ x ∈ xs, p x = true → te (γ x) = pure (f x)) (hl : xs.length ≤ 1000000) : eLc vs g src tt te δ = pure (.lst ((xs.filter p).map f)) := by
  unfold eLc
  rw [hs, pure_bind, lcGo_map h1 h2 h3, pure_bind, if_pos]
  unfold lim
  have := List.length_filter_le p xs
  simp only [List.length_map]
  exact decide_eq_true (by omega)
/-- without a test -/
theorem eLc_all {α : Type} {vs : List Nat} {g : G} {src : Es} {te : E} {δ : Dlt} {emb : α → D} {γ : α → Dlt} {f : α → D} {xs : List α} (hs : src δ = pure (xs.map emb)) (h1 : ∀ x ∈ xs, g (emb x) (wipeD δ vs) = some (γ x))
    (h3 : ∀ x ∈ xs, te (γ x) = pure (f x)) (hl : xs.length ≤ 1000000) : eLc vs g src (eK (.bl true)) te δ = pure (.lst (xs.map f)) := by
  have h := eLc_map (tt := eK (.bl true)) (p := fun _ => true) hs h1 (fun _ _ => rfl) (fun x hx _ => h3 x hx) hl
  rw [List.filter_eq_self.mpr (fun _ _ => rfl)] at h
  exact h
theorem forGo_inv {α β : Type} {g : G} {s : S} {emb : α → D} {step : β → α → β} {I : β → Dlt → Prop} : ∀ {xs : List α} {b : β} {δ : Dlt}, I b δ → (∀ x ∈ xs, ∀ b δ, I b δ → ∃ δ1 δ2, g (emb x) δ = some δ1 ∧ s δ1 = pure (.nx δ2) ∧ I (step b x) δ2) →
    ∃ δ', forGo g s (xs.map emb) δ = pure (.nx δ') ∧ I (xs.foldl step b) δ'
  | [], _, _, h, _ => ⟨_, rfl, h⟩
  | x :: xs, b, δ, h, hs => by
    obtain ⟨δ1, δ2, h1, h2, h3⟩ := hs x List.mem_cons_self b δ h
    obtain ⟨δ', h4, h5⟩ := forGo_inv h3 (fun y hy => hs y (List.mem_cons_of_mem _ hy))
    refine ⟨δ', ?_, h5⟩
    show (liftG (g (emb x) δ) >>= _) = _
    rw [h1]
    show (s δ1 >>= _) = _
    rw [h2, pure_bind]
    exact h4
/-- by the part that is done -/
theorem forGo_pre {α : Type} {g : G} {s : S} {emb : α → D} {I : List α → Dlt → Prop} : ∀ {xs pre : List α} {δ : Dlt}, I pre δ → (∀ p x q δ, pre ++ xs = p ++ x :: q → I p δ → ∃ δ1 δ2, g (emb x) δ = some δ1 ∧ s δ1 = pure (.nx δ2) ∧ I (p ++ [x]) δ2) →
    ∃ δ', forGo g s (xs.map emb) δ = pure (.nx δ') ∧ I (pre ++ xs) δ'
  | [], pre, _, h, _ => ⟨_, rfl, by rw [List.append_nil]; exact h⟩
  | x :: xs, pre, δ, h, hs => by
    obtain ⟨δ1, δ2, h1, h2, h3⟩ := hs pre x xs δ rfl h
    have e : pre ++ x :: xs = pre ++ [x] ++ xs := by simp
    obtain ⟨δ', h4, h5⟩ := forGo_pre (pre := pre ++ [x]) h3 (fun p y q δ he => hs p y q δ (by rw [e]; exact he))
    refine ⟨δ', ?_, by rw [e]; exact h5⟩
    show (liftG (g (emb x) δ) >>= _) = _
    rw [h1]
    show (s δ1 >>= _) = _
    rw [h2, pure_bind]
    exact h4
theorem lc2_map {α β : Type} {g : G} {tt : E} {δ : Dlt} {in1 : Es} {emb : α → D} {γ : α → Dlt} {f : α → List D} : ∀ {xs : List α}, (∀ x ∈ xs, g (emb x) δ = some (γ x)) → (∀ x ∈ xs, tt (γ x) = pure (.bl true)) → (∀ x ∈ xs, in1 (γ x) = pure (f x)) →
    lc2Go g tt in1 δ (xs.map emb) = pure (xs.flatMap f)
  | [], _, _, _ => rfl
  | x :: xs, h1, h2, h3 => by
    have ih := lc2_map (β := β) (fun y hy => h1 y (List.mem_cons_of_mem _ hy)) (fun y hy => h2 y (List.mem_cons_of_mem _ hy)) (fun y hy => h3 y (List.mem_cons_of_mem _ hy))
    show (liftG (g (emb x) δ) >>= _) = _
    rw [h1 x List.mem_cons_self]
    show (tt (γ x) >>= _) = _
    rw [h2 x List.mem_cons_self, pure_bind]
    show (in1 (γ x) >>= _) = _
    rw [h3 x List.mem_cons_self, pure_bind, ih, pure_bind, List.flatMap_cons]

theorem fn_rt {n p : Nat} {s : S} {ds : List D} {d : D} (hl : ds.length = p) (h : s (startD n ds) = pure (.rt d)) : fn n p s ds = pure d := by
  unfold fn
  rw [if_pos hl, h, pure_bind]
theorem fn_nx {n p : Nat} {s : S} {ds : List D} {δ : Dlt} (hl : ds.length = p) (h : s (startD n ds) = pure (.nx δ)) : fn n p s ds = pure .non := by
  unfold fn
  rw [if_pos hl, h, pure_bind]
theorem seq_nx {a b : S} {δ δ' : Dlt} (h : a δ = pure (.nx δ')) : sSeq a b δ = b δ' := by
  unfold sSeq
  rw [h, pure_bind]
theorem seq_rt {a b : S} {δ : Dlt} {d : D} (h : a δ = pure (.rt d)) : sSeq a b δ = pure (.rt d) := by
  unfold sSeq
  rw [h, pure_bind]
theorem for_nx {g : G} {src : Es} {s : S} {δ δ' : Dlt} {xs : List D} (h : src δ = pure xs) (h2 : forGo g s xs δ = pure (.nx δ')) : sFor g src s δ = pure (.nx δ') := by
  unfold sFor
  rw [h, pure_bind, h2]
theorem asg_nx {g : G} {e : E} {δ δ' : Dlt} {d : D} (h : e δ = pure d) (h2 : g d δ = some δ') : sAsg g e δ = pure (.nx δ') := by
  unfold sAsg
  rw [h, pure_bind]
  unfold liftG
  rw [h2]
  rfl
theorem ret_rt {e : E} {δ : Dlt} {d : D} (h : e δ = pure d) : sRet e δ = pure (.rt d) := by
  unfold sRet
  rw [h, pure_bind]
theorem do_nx {e : E} {δ : Dlt} {d : D} (h : e δ = pure d) : sDo e δ = pure (.nx δ) := by
  unfold sDo
  rw [h, pure_bind]
theorem if_t {c : E} {a b : S} {δ : Dlt} (h : c δ = pure (.bl true)) : sIf c a b δ = a δ := by
  unfold sIf
  rw [h, pure_bind]
theorem if_f {c : E} {a b : S} {δ : Dlt} (h : c δ = pure (.bl false)) : sIf c a b δ = b δ := by
  unfold sIf
  rw [h, pure_bind]
theorem or_t {a b : E} {δ : Dlt} (h : a δ = pure (.bl true)) : eOr a b δ = pure (.bl true) := by
  unfold eOr
  rw [h, pure_bind]
theorem or_f {a b : E} {δ : Dlt} (h : a δ = pure (.bl false)) : eOr a b δ = b δ := by
  unfold eOr
  rw [h, pure_bind]
theorem and_t {a b : E} {δ : Dlt} (h : a δ = pure (.bl true)) : eAnd a b δ = b δ := by
  unfold eAnd
  rw [h, pure_bind]
theorem and_f {a b : E} {δ : Dlt} (h : a δ = pure (.bl false)) : eAnd a b δ = pure (.bl false) := by
  unfold eAnd
  rw [h, pure_bind]
theorem ife_t {c a b : E} {δ : Dlt} (h : c δ = pure (.bl true)) : eIf c a b δ = a δ := by
  unfold eIf
  rw [h, pure_bind]
theorem ife_f {c a b : E} {δ : Dlt} (h : c δ = pure (.bl false)) : eIf c a b δ = b δ := by
  unfold eIf
  rw [h, pure_bind]
theorem f_eq {h : D → M D} {a : E} {δ : Dlt} {x d : D} (h1 : a δ = pure x) (h2 : h x = pure d) : eF h a δ = pure d := by
  unfold eF
  rw [h1, pure_bind, h2]
theorem o_eq {h : D → D → M D} {a b : E} {δ : Dlt} {x y d : D} (h1 : a δ = pure x) (h2 : b δ = pure y) (h3 : h x y = pure d) : eO h a b δ = pure d := by
  unfold eO
  rw [h1, pure_bind, h2, pure_bind, h3]
theorem es_nil {δ : Dlt} : esN δ = pure [] := rfl
theorem es_cons {a : E} {r : Es} {δ : Dlt} {x : D} {xs : List D} (h1 : a δ = pure x) (h2 : r δ = pure xs) : esC a r δ = pure (x :: xs) := by
  unfold esC
  rw [h1, pure_bind, h2, pure_bind]
theorem lst_eq {es : Es} {δ : Dlt} {xs : List D} (h : es δ = pure xs) (hl : xs.length ≤ 1000000) : eLst es δ = pure (.lst xs) := by
  unfold eLst
  rw [h, pure_bind, if_pos (show lim xs.length = true from decide_eq_true (by omega))]
theorem tup_eq {es : Es} {δ : Dlt} {xs : List D} (h : es δ = pure xs) (hl : xs.length ≤ 1000000) : eTup es δ = pure (.tup xs) := by
  unfold eTup
  rw [h, pure_bind, if_pos (show lim xs.length = true from decide_eq_true (by omega))]
theorem call_eq {f : List D → M D} {es : Es} {δ : Dlt} {xs : List D} {d : D} (h : es δ = pure xs) (h2 : f xs = pure d) : eCall f es δ = pure d := by
  unfold eCall
  rw [h, pure_bind, h2]
theorem xL_eq {a : E} {δ : Dlt} {xs : List D} (h : a δ = pure (.lst xs)) : xL a δ = pure xs := by
  unfold xL
  rw [h, pure_bind]
  rfl
theorem mod_eq {i j : Int} (h : 0 < j) : dMod (.int i) (.int j) = pure (.int (i % j)) := if_pos h
theorem xE_eq {a : E} {δ : Dlt} {xs : List D} (h : a δ = pure (.lst xs)) : xE a δ = pure (numFrom 0 xs) := by
  unfold xE
  rw [h, pure_bind]
theorem cat_eq {xs ys : List D} (h : xs.length + ys.length ≤ 1000000) : dAdd (.lst xs) (.lst ys) = pure (.lst (xs ++ ys)) := if_pos (show lim _ = true from decide_eq_true (by omega))

/-! ### ints, lists of ints, lists of these -/
def codeD (c : List Int) : D := .lst (c.map .int)
def codesD (cs : List (List Int)) : D := .lst (cs.map codeD)
theorem lim_ok {n : Nat} (h : n ≤ 1000000) : lim n = true := decide_eq_true (by omega)
theorem bools_of : ∀ bs : List Bool, bools? (bs.map D.bl) = some bs
  | [] => rfl
  | b :: bs => by rw [List.map_cons, bools?, bools_of bs]; rfl
theorem ints_of : ∀ bs : List Int, ints? (bs.map D.int) = some bs
  | [] => rfl
  | b :: bs => by rw [List.map_cons, ints?, ints_of bs]; rfl
theorem all_bl (bs : List Bool) : dAll (.lst (bs.map D.bl)) = pure (.bl (bs.all id)) := by
  show (match bools? (bs.map D.bl) with | some bs => pure (D.bl (bs.all id)) | none => stuck) = _
  rw [bools_of]
theorem all_bls {α : Type} (xs : List α) (p : α → Bool) : dAll (.lst (xs.map fun x => D.bl (p x))) = pure (.bl (xs.all p)) := by
  have h := all_bl (xs.map p)
  rw [List.map_map, List.all_map] at h
  exact h
theorem imm_ints (c : List Int) : (c.map D.int).all D.imm = true := by
  rw [List.all_map]; exact List.all_eq_true.mpr fun _ _ => rfl
/-- small: == and order serve it -/
def smallI (i : Int) : Prop := i.natAbs.log2 < 1920
theorem small_of {i : Int} (h : i.natAbs < 1000000) : smallI i := by
  unfold smallI
  have := Nat.log2_le_self i.natAbs
  by_cases h0 : i.natAbs = 0
  · rw [h0]; decide
  · exact Nat.lt_of_lt_of_le ((Nat.log2_lt h0).mpr (Nat.lt_trans h (by decide : 1000000 < 2 ^ 20))) (by decide)
theorem cl_code {n : Nat} {c : List Int} (h : ∀ i ∈ c, smallI i) : (codeD c).cl (n + 1) = true := by
  show (c.map D.int).all (D.cl n) = true
  rw [List.all_map, List.all_eq_true]
  intro i hi
  have q := h i hi
  unfold smallI at q
  cases n <;> simpa [D.cl] using q
theorem cl_codes {n : Nat} {cs : List (List Int)} (h : ∀ c ∈ cs, ∀ i ∈ c, smallI i) : (codesD cs).cl (n + 2) = true := by
  show (cs.map codeD).all (D.cl (n + 1)) = true
  rw [List.all_map, List.all_eq_true]
  exact fun c hc => cl_code (h c hc)
theorem eqv_int (i j : Int) : PyData.eqv (D.int i).py (D.int j).py = decide (i = j) := by
  show (i == j) = _
  cases h : (i == j) <;> simp_all
theorem eqv_code : ∀ a b : List Int, PyData.eqvAll (pys (a.map .int)) (pys (b.map .int)) = decide (a = b)
  | [], [] => by simp [pys, PyData.eqvAll]
  | [], _ :: _ => by simp [pys, PyData.eqvAll]
  | _ :: _, [] => by simp [pys, PyData.eqvAll]
  | x :: a, y :: b => by
    have ih := eqv_code a b
    simp only [List.map_cons, pys, PyData.eqvAll, ih, eqv_int]
    by_cases h1 : x = y <;> by_cases h2 : a = b <;> simp [h1, h2]
theorem eqv_codes : ∀ a b : List (List Int), PyData.eqvAll (pys (a.map codeD)) (pys (b.map codeD)) = decide (a = b)
  | [], [] => by simp [pys, PyData.eqvAll]
  | [], _ :: _ => by simp [pys, PyData.eqvAll]
  | _ :: _, [] => by simp [pys, PyData.eqvAll]
  | x :: a, y :: b => by
    have ih := eqv_codes a b
    have e : PyData.eqv (codeD x).py (codeD y).py = decide (x = y) := by
      show PyData.eqv (.list _) (.list _) = _
      simp only [PyData.eqv]
      exact eqv_code x y
    simp only [List.map_cons, pys, PyData.eqvAll, ih, e]
    by_cases h1 : x = y <;> by_cases h2 : a = b <;> simp [h1, h2]
theorem eqB_code {a b : List Int} (ha : ∀ i ∈ a, smallI i) (hb : ∀ i ∈ b, smallI i) : dEqB (codeD a) (codeD b) = some (decide (a = b)) := by
  show (if (codeD a).cl 60 && (codeD b).cl 60 then _ else _) = _
  rw [cl_code (n := 59) ha, cl_code (n := 59) hb]
  show some (PyData.eqv (.list _) (.list _)) = _
  simp only [PyData.eqv]
  rw [eqv_code]
theorem eqB_codes {a b : List (List Int)} (ha : ∀ c ∈ a, ∀ i ∈ c, smallI i) (hb : ∀ c ∈ b, ∀ i ∈ c, smallI i) : dEqB (codesD a) (codesD b) = some (decide (a = b)) := by
  show (if (codesD a).cl 60 && (codesD b).cl 60 then _ else _) = _
  rw [cl_codes (n := 58) ha, cl_codes (n := 58) hb]
  show some (PyData.eqv (.list _) (.list _)) = _
  simp only [PyData.eqv]
  rw [eqv_codes]
theorem idx_int (i : Int) : ∀ c : List Int, idxOf? (.int i) (c.map .int) = c.findIdx? (fun j => decide (j = i))
  | [] => rfl
  | x :: c => by
    rw [List.map_cons, idxOf?, idx_int i c, List.findIdx?_cons, eqv_int]
theorem index_int {c : List Int} {i : Int} {j : Nat} (h : c.findIdx? (fun k => decide (k = i)) = some j) : dIndex (codeD c) (.int i) = pure (.int j) := by
  show (if (D.int i).imm && (c.map D.int).all D.imm then _ else _) = _
  rw [imm_ints]
  show (match idxOf? (.int i) (c.map .int) with | some j => _ | none => _) = _
  rw [idx_int, h]
theorem in_int {c : List Int} {i : Int} : dIn (.int i) (codeD c) = pure (.bl (decide (i ∈ c))) := by
  show liftB (inB (.int i) (c.map D.int)) = _
  unfold inB
  rw [imm_ints]
  show liftB (some ((c.map D.int).any fun y => PyData.eqv y.py (D.int i).py)) = _
  rw [List.any_map]
  show pure (D.bl _) = pure (D.bl _)
  congr 2
  induction c with
  | nil => rfl
  | cons x c ih =>
    rw [List.any_cons, ih]
    show (PyData.eqv (D.int x).py (D.int i).py || _) = _
    rw [eqv_int]
    by_cases h : x = i
    · simp [h]
    · have h' : i ≠ x := fun e => h e.symm
      by_cases h2 : i ∈ c <;> simp [h, h', h2]
end DL

/-! ## DEval2 -/
set_option autoImplicit false
set_option linter.all false
set_option maxRecDepth 100000
/-! DEval2: order, texts. -/
namespace DL
open PySem

/-! ### order -/
theorem leD_total (a b : D) : (leD a b || leD b a) = true := by
  unfold leD PySem.W.dataLt
  cases h1 : PyProof.Rows.lexLt PyProof.Rows.itemOrd (PySem.W.keyToks b.py) (PySem.W.keyToks a.py) with
  | false => rfl
  | true =>
    cases h2 : PyProof.Rows.lexLt PyProof.Rows.itemOrd (PySem.W.keyToks a.py) (PySem.W.keyToks b.py) with
    | false => rfl
    | true =>
      have := PyProof.Rows.lex_trans _ _ _ h1 h2
      rw [PyProof.Rows.lex_irrefl] at this
      cases this
theorem leD_trans (a b c : D) (h1 : leD a b = true) (h2 : leD b c = true) : leD a c = true := by
  unfold leD PySem.W.dataLt at *
  cases h : PyProof.Rows.lexLt PyProof.Rows.itemOrd (PySem.W.keyToks c.py) (PySem.W.keyToks a.py) with
  | false => rfl
  | true =>
    rcases PyProof.Rows.lex_negTrans _ (PySem.W.keyToks b.py) _ h with q | q
    · rw [q] at h2; cases h2
    · rw [q] at h1; cases h1
/-- the order of lists of ints -/
def ltC : List Int → List Int → Bool
  | [], [] => false
  | [], _ :: _ => true
  | _ :: _, [] => false
  | x :: a, y :: b => decide (x < y) || (!decide (y < x) && ltC a b)
theorem lt_toks : ∀ a b : List Int, PyProof.Rows.lexLt PyProof.Rows.itemOrd (PySem.W.keyToksAll (pys (a.map .int))) (PySem.W.keyToksAll (pys (b.map .int))) = ltC a b
  | [], [] => by simp only [List.map_nil, pys, PySem.W.keyToksAll]; exact PyProof.Rows.lex_irrefl _
  | [], y :: b => by
    simp only [List.map_nil, List.map_cons, pys, PySem.W.keyToksAll]
    rw [PyProof.Rows.lex_cons]
    rfl
  | x :: a, [] => by
    simp only [List.map_nil, List.map_cons, pys, PySem.W.keyToksAll]
    rw [PyProof.Rows.lex_cons]
    rfl
  | x :: a, y :: b => by
    have ih := lt_toks a b
    simp only [List.map_cons, pys, PySem.W.keyToksAll, D.py, PySem.W.keyToks, List.cons_append, List.nil_append]
    rw [PyProof.Rows.lex_self, PyProof.Rows.lex_cons, ih]
    rfl
theorem lt_code (a b : List Int) : PySem.W.dataLt (codeD a).py (codeD b).py = ltC a b := lt_toks a b
theorem lt_int (a b : Int) : PySem.W.dataLt (D.int a).py (D.int b).py = decide (a < b) := by
  show PyProof.Rows.lexLt PyProof.Rows.itemOrd [.inl a] [.inl b] = _
  rw [PyProof.Rows.lex_cons]
  show (decide (a < b) || (!decide (b < a) && false)) = _
  simp
theorem alike_code : ∀ a b : List Int, PySem.W.alikeAll (pys (a.map .int)) (pys (b.map .int)) = true
  | [], _ => by simp [pys, PySem.W.alikeAll]
  | _ :: _, [] => by simp [pys, PySem.W.alikeAll]
  | x :: a, y :: b => by
    simp only [List.map_cons, pys, PySem.W.alikeAll, alike_code a b, D.py, PySem.W.alike]
    rfl
def sortC (cs : List (List Int)) : List (List Int) := cs.mergeSort fun a b => !ltC b a
def sortI (c : List Int) : List Int := c.mergeSort fun a b => decide (a ≤ b)
theorem sorted_codes {cs : List (List Int)} (h : ∀ c ∈ cs, ∀ i ∈ c, smallI i) : dSorted (codesD cs) = pure (codesD (sortC cs)) := by
  show (if sortableB (cs.map codeD) then pure (D.lst ((cs.map codeD).mergeSort leD)) else stuck) = _
  have hs : sortableB (cs.map codeD) = true := by
    unfold sortableB
    rw [Bool.and_eq_true, Bool.and_eq_true, Bool.or_eq_true]
    refine ⟨⟨?_, ?_⟩, .inr ?_⟩
    · rw [List.all_map, List.all_eq_true]
      exact fun c hc => cl_code (n := 59) (h c hc)
    · rw [List.all_map, List.all_eq_true]
      intro a _
      show ((cs.map codeD).all _) = true
      rw [List.all_map, List.all_eq_true]
      exact fun b _ => alike_code a b
    · rw [List.all_map, List.all_eq_true]
      exact fun _ _ => rfl
  rw [if_pos hs]
  have e : (sortC cs).map codeD = (cs.map codeD).mergeSort leD := List.map_mergeSort fun a _ b _ => by
    show (!ltC b a) = !(PySem.W.dataLt (codeD b).py (codeD a).py)
    rw [lt_code]
  rw [← e]
  rfl
theorem sorted_ints {c : List Int} (h : ∀ i ∈ c, smallI i) : dSorted (codeD c) = pure (codeD (sortI c)) := by
  show (if sortableB (c.map .int) then pure (D.lst ((c.map .int).mergeSort leD)) else stuck) = _
  have hs : sortableB (c.map D.int) = true := by
    unfold sortableB
    rw [Bool.and_eq_true, Bool.and_eq_true, Bool.or_eq_true]
    refine ⟨⟨?_, ?_⟩, .inr ?_⟩
    · rw [List.all_map, List.all_eq_true]
      intro i hi
      have q := h i hi
      unfold smallI at q
      simpa [D.cl] using q
    · rw [List.all_map, List.all_eq_true]
      intro a _
      show ((c.map D.int).all _) = true
      rw [List.all_map, List.all_eq_true]
      exact fun b _ => rfl
    · rw [List.all_map, List.all_eq_true]
      exact fun _ _ => rfl
  rw [if_pos hs]
  have e : (sortI c).map D.int = (c.map D.int).mergeSort leD := List.map_mergeSort fun a _ b _ => by
    show decide (a ≤ b) = !(PySem.W.dataLt (D.int b).py (D.int a).py)
    rw [lt_int]
    by_cases q : a ≤ b
    · have : ¬ b < a := by omega
      simp [q, this]
    · have : b < a := by omega
      simp [q, this]
  rw [← e]
  rfl
theorem ltC_irrefl : ∀ a : List Int, ltC a a = false
  | [] => rfl
  | x :: a => by simp [ltC, ltC_irrefl a]
theorem ltC_anti : ∀ a b : List Int, (!ltC b a) = true → (!ltC a b) = true → a = b
  | [], [], _, _ => rfl
  | [], _ :: _, _, h => by simp [ltC] at h
  | _ :: _, [], h, _ => by simp [ltC] at h
  | x :: a, y :: b, h1, h2 => by
    simp only [ltC, Bool.not_eq_true', Bool.or_eq_false_iff, decide_eq_false_iff_not, Bool.and_eq_false_iff, Bool.not_eq_false', decide_eq_true_eq] at h1 h2
    have e : x = y := by omega
    subst e
    have q1 : ltC b a = false := by rcases h1.2 with q | q; omega; exact q
    have q2 : ltC a b = false := by rcases h2.2 with q | q; omega; exact q
    rw [ltC_anti a b (by rw [q1]; rfl) (by rw [q2]; rfl)]
theorem sortC_perm (cs : List (List Int)) : (sortC cs).Perm cs := List.mergeSort_perm _ _
theorem sortI_perm (c : List Int) : (sortI c).Perm c := List.mergeSort_perm _ _
/-- what is ordered and of the same things is what sorted tells -/
theorem sortC_eq {cs ds : List (List Int)} (p : cs.Perm ds) (s : ds.Pairwise fun a b => (!ltC b a) = true) : sortC cs = ds := by
  refine List.Perm.eq_of_pairwise (le := fun a b => (!ltC b a) = true) (fun a b _ _ h1 h2 => ltC_anti a b h1 h2) ?_ s ((sortC_perm cs).trans p)
  refine List.pairwise_mergeSort (fun a b c h1 h2 => ?_) (fun a b => ?_) cs
  · have := leD_trans (codeD a) (codeD b) (codeD c) (by unfold leD; rw [lt_code]; exact h1) (by unfold leD; rw [lt_code]; exact h2)
    unfold leD at this
    rw [lt_code] at this
    exact this
  · have := leD_total (codeD a) (codeD b)
    unfold leD at this
    rw [lt_code, lt_code] at this
    exact this
theorem sortI_sorted (c : List Int) : (sortI c).Pairwise fun a b => a ≤ b := by
  have := List.pairwise_mergeSort (le := fun a b : Int => decide (a ≤ b)) (fun a b c h1 h2 => by simp at *; omega) (fun a b => by simp; omega) c
  exact this.imp fun h => by simpa using h

/-! ### texts -/
theorem textLen : ∀ (ts : List Str) (k : Nat) (acc : Str), (textFrom (k + 1) acc ts).length = acc.length + (ts.map fun t => t.length + 2).sum
  | [], k, acc => by show acc.length = _; simp
  | t :: r, k, acc => by
    show (textFrom (k + 1 + 1) (acc ++ (if k + 1 > 0 then ", " else "" : String) ++ t) r).length = _
    rw [textLen r (k + 1), strLen_append, strLen_append, if_pos (Nat.succ_pos k)]
    have e2 : ((", " : String) : Str).length = 2 := rfl
    rw [e2]
    simp only [List.map_cons, List.sum_cons]
    omega
theorem listLen (t : Str) (r : List Str) : (listText (t :: r)).length = 2 + t.length + (r.map fun t => t.length + 2).sum := by
  unfold listText
  rw [strLen_append]
  show (textFrom 1 (("[" : String) ++ (if 0 > 0 then ", " else "" : String) ++ t) r).length + (("]" : String) : Str).length = _
  rw [textLen r 0, strLen_append, strLen_append]
  have e1 : (("[" : String) : Str).length = 1 := rfl
  have e2 : (("]" : String) : Str).length = 1 := rfl
  have e3 : (((if 0 > 0 then ", " else "" : String)) : Str).length = 0 := rfl
  rw [e1, e2, e3]
  omega
theorem digit_len {i : Int} (h0 : 0 ≤ i) (h1 : i < 10) : (D.int i).py.shown.length = 1 := by
  have h : i = 0 ∨ i = 1 ∨ i = 2 ∨ i = 3 ∨ i = 4 ∨ i = 5 ∨ i = 6 ∨ i = 7 ∨ i = 8 ∨ i = 9 := by omega
  rcases h with h | h | h | h | h | h | h | h | h | h <;> (subst h; decide +kernel)
end DL

/-! ## DYld -/
set_option autoImplicit false
set_option linter.all false
set_option maxRecDepth 100000
/-! DYld: what a def that draws may come to. -/
namespace DL
open PySem
/-- the generator's state, after at most so many draws -/
def St (k : Nat) (g : Gs) : Prop := ∃ a b c : Int, g = [a, b, c] ∧ 0 ≤ b ∧ b < 2147483647 ∧ 0 ≤ c ∧ c ≤ 3000 + k
theorem St.mono {j k : Nat} {g : Gs} (h : St j g) (q : j ≤ k) : St k g := by
  obtain ⟨a, b, c, e, h1, h2, h3, h4⟩ := h
  exact ⟨a, b, c, e, h1, h2, h3, by omega⟩
/-- whatever is drawn, it ends, and P holds of it -/
def Yl {α : Type} (n : Nat) (m : M α) (P : α → Prop) : Prop := ∀ k g, St k g → k + n ≤ 1000000 → ∃ a g', Ok m g a g' ∧ P a ∧ St (k + n) g'
theorem yl_pure {α : Type} {a : α} {P : α → Prop} (h : P a) : Yl 0 (pure a) P := fun k g s _ => ⟨a, g, ok_pure.mpr ⟨rfl, rfl⟩, h, s⟩
theorem yl_eq {α : Type} {m : M α} {a : α} {P : α → Prop} (e : m = pure a) (h : P a) : Yl 0 m P := by
  rw [e]; exact yl_pure h
theorem yl_bind {α β : Type} {n j : Nat} {m : M α} {f : α → M β} {P : α → Prop} {Q : β → Prop} (h : Yl n m P) (h2 : ∀ a, P a → Yl j (f a) Q) : Yl (n + j) (m >>= f) Q := fun k g s hk => by
  obtain ⟨a, g1, o1, p, s1⟩ := h k g s (by omega)
  obtain ⟨b, g2, o2, q, s2⟩ := h2 a p (k + n) g1 s1 (by omega)
  exact ⟨b, g2, ok_bind.mpr ⟨a, g1, o1, o2⟩, q, s2.mono (by omega)⟩
theorem Yl.mono {α : Type} {n j : Nat} {m : M α} {P Q : α → Prop} (h : Yl n m P) (hn : n ≤ j) (hp : ∀ a, P a → Q a) : Yl j m Q := fun k g s hk => by
  obtain ⟨a, g1, o1, p, s1⟩ := h k g s (by omega)
  exact ⟨a, g1, o1, hp a p, s1.mono (by omega)⟩
/-- the first step tells its value -/
theorem yl_step {α β : Type} {j : Nat} {m : M α} {f : α → M β} {a : α} {Q : β → Prop} (e : m = pure a) (h : Yl j (f a) Q) : Yl j (m >>= f) Q := by
  rw [e, pure_bind]; exact h
theorem yl_seq {n j : Nat} {a b : S} {δ : Dlt} {P : Dlt → Prop} {Q : Fl → Prop} (h : Yl n (a δ) fun r => ∃ δ', r = .nx δ' ∧ P δ') (h2 : ∀ δ', P δ' → Yl j (b δ') Q) : Yl (n + j) (sSeq a b δ) Q :=
  yl_bind h fun r ⟨δ', e, p⟩ => by
    subst e
    exact h2 δ' p
theorem yl_seq0 {j : Nat} {a b : S} {δ δ' : Dlt} {Q : Fl → Prop} (h : a δ = pure (.nx δ')) (h2 : Yl j (b δ') Q) : Yl j (sSeq a b δ) Q := by
  rw [seq_nx h]; exact h2
theorem yl_asg {n : Nat} {g : G} {e : E} {δ : Dlt} {P : D → Prop} {Q : Dlt → Prop} (h : Yl n (e δ) P) (h2 : ∀ d, P d → ∃ δ', g d δ = some δ' ∧ Q δ') : Yl n (sAsg g e δ) fun r => ∃ δ', r = .nx δ' ∧ Q δ' :=
  (yl_bind (j := 0) h fun d p => by
    obtain ⟨δ', e1, q⟩ := h2 d p
    unfold liftG
    rw [e1]
    exact yl_pure ⟨δ', rfl, q⟩).mono (by omega) fun _ q => q
theorem yl_ret {n : Nat} {e : E} {δ : Dlt} {P : D → Prop} (h : Yl n (e δ) P) : Yl n (sRet e δ) fun r => ∃ d, r = .rt d ∧ P d :=
  (yl_bind (j := 0) h fun d p => yl_pure ⟨d, rfl, p⟩).mono (by omega) fun _ q => q
theorem yl_fn {n p j : Nat} {s : S} {ds : List D} {P : D → Prop} (hl : ds.length = p) (h : Yl j (s (startD n ds)) fun r => ∃ d, r = .rt d ∧ P d) : Yl j (fn n p s ds) P := by
  unfold fn
  rw [if_pos hl]
  exact (yl_bind (j := 0) h fun r ⟨d, e, q⟩ => by subst e; exact yl_pure q).mono (by omega) fun _ q => q
theorem yl_call {n j : Nat} {f : List D → M D} {es : Es} {δ : Dlt} {P : List D → Prop} {Q : D → Prop} (h : Yl n (es δ) P) (h2 : ∀ ds, P ds → Yl j (f ds) Q) : Yl (n + j) (eCall f es δ) Q := yl_bind h h2
theorem yl_o {n j : Nat} {f : D → D → M D} {a b : E} {δ : Dlt} {P : D → Prop} {Q : D → Prop} {R : D → Prop} (h : Yl n (a δ) P) (h2 : Yl j (b δ) Q) (h3 : ∀ x y, P x → Q y → ∃ d, f x y = pure d ∧ R d) : Yl (n + j) (eO f a b δ) R :=
  (yl_bind (j := j + 0) h fun x p => yl_bind h2 fun y q => by
    obtain ⟨d, e, r⟩ := h3 x y p q
    exact yl_eq e r).mono (by omega) fun _ q => q
theorem yl_for {α : Type} {n : Nat} {g : G} {s : S} {emb : α → D} {I : List α → Dlt → Prop} : ∀ {xs pre : List α} {δ : Dlt}, I pre δ → (∀ p x q δ, pre ++ xs = p ++ x :: q → I p δ → ∃ δ1, g (emb x) δ = some δ1 ∧ Yl n (s δ1) fun r => ∃ δ2, r = .nx δ2 ∧ I (p ++ [x]) δ2) →
    Yl (n * xs.length) (forGo g s (xs.map emb) δ) fun r => ∃ δ', r = .nx δ' ∧ I (pre ++ xs) δ'
  | [], pre, _, h, _ => yl_pure ⟨_, rfl, by rw [List.append_nil]; exact h⟩
  | x :: xs, pre, δ, h, hs => by
    obtain ⟨δ1, h1, h2⟩ := hs pre x xs δ rfl h
    have e : pre ++ x :: xs = pre ++ [x] ++ xs := by simp
    show Yl _ (liftG (g (emb x) δ) >>= _) _
    rw [h1]
    have q : Yl (n + n * xs.length) (s δ1 >>= fun r => match r with
      | .nx δ' => forGo g s (xs.map emb) δ'
      | .ct δ' => forGo g s (xs.map emb) δ'
      | .bk δ' => pure (.nx δ')
      | .rt d => pure (.rt d)) fun r => ∃ δ', r = .nx δ' ∧ I (pre ++ x :: xs) δ' := yl_bind h2 fun r ⟨δ2, er, i2⟩ => by
        subst er
        rw [e]
        exact yl_for (pre := pre ++ [x]) i2 fun p y q δ he => hs p y q δ (by rw [e]; exact he)
    refine q.mono ?_ fun _ z => z
    rw [List.length_cons, Nat.mul_add]
    omega
/-! ### numbers within 64 bits -/
theorem mul_small {i j : Int} (h1 : i.natAbs < 2 ^ 64) (h2 : j.natAbs < 2 ^ 64) : dMul (.int i) (.int j) = pure (.int (i * j)) := by
  have l : ∀ k : Int, k.natAbs < 2 ^ 64 → big k < 64 := fun k h => by
    unfold big
    by_cases h0 : k.natAbs = 0
    · rw [h0]; decide
    · exact (Nat.log2_lt h0).mpr h
  have a := l i h1
  have b := l j h2
  exact if_pos (show big i + big j < 1000000 by omega)
theorem fdiv_eq {i j : Int} (h : 0 < j) (h2 : j < 2 ^ 64) : dFdiv (.int i) (.int j) = pure (.int (i / j)) := by
  refine if_pos ⟨h, ?_⟩
  unfold big
  by_cases h0 : j.natAbs = 0
  · rw [h0]; decide
  · exact Nat.lt_trans ((Nat.log2_lt h0).mpr (show j.natAbs < 2 ^ 64 by omega)) (by decide)
end DL

/-! ## DEval3 -/
set_option autoImplicit false
set_option linter.all false
set_option maxRecDepth 100000
/-! DEval3: what defs come to, a rule for each word. -/
namespace DL
open PySem
/-! ### expressions -/
theorem ev_k {d : D} {δ : Dlt} : eK d δ = pure d := rfl
theorem ev_w {i : Nat} {δ : Dlt} {d : D} (h : δ[i]? = some (.val d)) : eW i δ = pure d := by unfold eW; rw [h]
theorem ev_v {i : Nat} {δ : Dlt} {d : D} (h : δ[i]? = some (.val d)) : eV i δ = pure d := by unfold eV; rw [h]
theorem ev_vo {i : Nat} {δ : Dlt} {xs : List D} (h : δ[i]? = some (.own xs)) : eV i δ = pure (.lst xs) := by unfold eV; rw [h]
theorem ev_and {a b : E} {δ : Dlt} {x y : Bool} (h1 : a δ = pure (.bl x)) (h2 : x = true → b δ = pure (.bl y)) : eAnd a b δ = pure (.bl (x && y)) := by
  cases x with
  | true => rw [and_t h1, h2 rfl]; rfl
  | false => rw [and_f h1]; rfl
theorem ev_or {a b : E} {δ : Dlt} {x y : Bool} (h1 : a δ = pure (.bl x)) (h2 : x = false → b δ = pure (.bl y)) : eOr a b δ = pure (.bl (x || y)) := by
  cases x with
  | true => rw [or_t h1]; rfl
  | false => rw [or_f h1, h2 rfl]; rfl
/-- by a truth value -/
def ifK {α : Type} (x : Bool) (m n : M α) : M α := if x then m else n
theorem ifK_t {α : Type} {x : Bool} {m n : M α} {r : α} (h : x = true) (h2 : m = pure r) : ifK x m n = pure r := by unfold ifK; rw [if_pos h, h2]
theorem ifK_f {α : Type} {x : Bool} {m n : M α} {r : α} (h : x = false) (h2 : n = pure r) : ifK x m n = pure r := by unfold ifK; rw [if_neg (by rw [h]; simp), h2]
theorem ifK_2 {α : Type} {x : Bool} {m n : M α} {r s : α} (h1 : x = true → m = pure r) (h2 : x = false → n = pure s) : ifK x m n = pure (if x then r else s) := by
  cases x with
  | true => exact ifK_t rfl (h1 rfl)
  | false => exact ifK_f rfl (h2 rfl)
theorem ev_ife {c a b : E} {δ : Dlt} {x : Bool} {d : D} (h : c δ = pure (.bl x)) (h2 : ifK x (a δ) (b δ) = pure d) : eIf c a b δ = pure d := by
  unfold eIf
  rw [h, pure_bind, ← h2]
  cases x <;> rfl
theorem ev_lst {es : Es} {δ : Dlt} {xs : List D} (h : es δ = pure xs) (hl : xs.length ≤ 1000000) : eLst es δ = pure (.lst xs) := lst_eq h hl
theorem ev_cutN {a : E} {δ : Dlt} {x d : D} {l h : Dlt → M (Option Int)} {lo hi : Option Int} (h1 : a δ = pure x) (h2 : l δ = pure lo) (h3 : h δ = pure hi) (h4 : dCut x lo hi = pure d) : eCut a l h δ = pure d := by
  unfold eCut
  rw [h1, pure_bind, h2, pure_bind, h3, pure_bind, h4]
theorem ev_no {δ : Dlt} : eNo δ = pure none := rfl
theorem ev_at {a : E} {δ : Dlt} {i : Int} (h : a δ = pure (.int i)) : eAt a δ = pure (some i) := by
  unfold eAt
  rw [h]
  rfl
theorem ev_callK {f : List D → M D} {ix : List Nat} {es gs : Es} {δ : Dlt} {xs ys : List D} {d : D} (h : es δ = pure xs) (h1 : gs δ = pure ys) (h2 : f (pick ix (xs ++ ys)) = pure d) : eCallK f ix es gs δ = pure d := by
  unfold eCallK
  rw [h, pure_bind, h1, pure_bind, h2]
theorem ev_callD {f : List D → M D} {es : Es} {δ : Dlt} {xs : List D} {d : D} (h : es δ = pure xs) (h2 : f (uns xs) = pure d) (hd : d.imm = true) : eCallD f es δ = pure d := by
  unfold eCallD
  rw [h, pure_bind, h2, pure_bind, if_pos hd]
theorem ev_callDK {f : List D → M D} {ix : List Nat} {es : Es} {δ : Dlt} {xs : List D} {d : D} (h : es δ = pure xs) (h2 : f (pick ix (uns xs)) = pure d) (hd : d.imm = true) : eCallDK f ix es δ = pure d := by
  unfold eCallDK
  rw [h, pure_bind, h2, pure_bind, if_pos hd]
theorem hI_eq {h : D → D → M D} {x y d : D} (h1 : h x.un y.un = pure d) (hd : d.imm = true) : hI h x y = pure d := by
  unfold hI
  rw [h1, pure_bind, if_pos hd]
theorem hU_eq {h : D → M D} {x d : D} (h1 : h x.un = pure d) (hd : d.imm = true) : hU h x = pure d := by
  unfold hU
  rw [h1, pure_bind, if_pos hd]
/-! ### comprehensions -/
theorem ev_lc {α : Type} {vs : List Nat} {g : G} {src : Es} {tt te : E} {δ : Dlt} {emb : α → D} {γ : α → Dlt} {p : α → Bool} {f : α → D} {xs : List α} (hs : src δ = pure (xs.map emb)) (h1 : ∀ x ∈ xs, g (emb x) (wipeD δ vs) = some (γ x)) (h2 : ∀ x ∈ xs, tt (γ x) = pure (.bl (p x)))
    (h3 : ∀ x ∈ xs, p x = true → te (γ x) = pure (f x)) (hl : xs.length ≤ 1000000) : eLc vs g src tt te δ = pure (.lst ((xs.filter p).map f)) := eLc_map hs h1 h2 h3 hl
theorem ev_lcA {α : Type} {vs : List Nat} {g : G} {src : Es} {te : E} {δ : Dlt} {emb : α → D} {γ : α → Dlt} {f : α → D} {xs : List α} (hs : src δ = pure (xs.map emb)) (h1 : ∀ x ∈ xs, g (emb x) (wipeD δ vs) = some (γ x))
    (h3 : ∀ x ∈ xs, te (γ x) = pure (f x)) (hl : xs.length ≤ 1000000) : eLc vs g src (eK (.bl true)) te δ = pure (.lst (xs.map f)) := eLc_all hs h1 h3 hl
/-! sources: of items x ↦ emb x -/
def Row {α : Type} (d : D) (emb : α → D) (xs : List α) : Prop := rowOf d = pure (xs.map emb)
theorem row_code (c : List Int) : Row (codeD c) D.int c := rfl
theorem row_codes (c : List (List Int)) : Row (codesD c) codeD c := rfl
theorem row_map {α : Type} (f : α → D) (xs : List α) : Row (.lst (xs.map f)) f xs := rfl
theorem row_id (xs : List D) : Row (.lst xs) (fun d => d) xs := by
  show pure xs = pure (xs.map fun d => d)
  rw [List.map_id']
theorem row_bcode (c : List Int) : Row (.bor (codeD c)) D.int c := by
  show pure ((c.map D.int).map wrapB) = _
  rw [List.map_map]
  rfl
theorem row_bcodes (c : List (List Int)) : Row (.bor (codesD c)) (fun c => .bor (codeD c)) c := by
  show pure ((c.map codeD).map wrapB) = _
  rw [List.map_map]
  rfl
theorem sx_l {α : Type} {emb : α → D} {a : E} {δ : Dlt} {d : D} {xs : List α} (h : a δ = pure d) (hr : Row d emb xs) : xL a δ = pure (xs.map emb) := by
  unfold xL
  rw [h, pure_bind, hr]
theorem sx_vw {α : Type} {emb : α → D} {a : E} {δ : Dlt} {d : D} {xs : List α} (h : a δ = pure d) (hr : Row d emb xs) : xVw a δ = pure (xs.reverse.map emb) := by
  unfold xVw
  rw [h, pure_bind, hr, pure_bind, List.map_reverse]
theorem numFrom_map' {α : Type} (f : α → D) (xs : List α) : ∀ n, numFrom n (xs.map f) = (xs.zipIdx n).map fun p => .tup [.int p.2, f p.1] := by
  induction xs with
  | nil => intro n; rfl
  | cons x xs ih => intro n; simp [numFrom, ih]
theorem map_mapR {α : Type} (f : α → D) (xs : List α) : xs.map f = xs.map f := rfl
theorem map_idR (xs : List D) : xs = xs.map fun d => d := (List.map_id' _).symm
theorem sx_enum {α : Type} {emb : α → D} {a : E} {δ : Dlt} {ds : List D} {xs : List α} (h : a δ = pure (.lst ds)) (e : ds = xs.map emb) : xE a δ = pure (xs.zipIdx.map fun p => .tup [.int p.2, emb p.1]) := by
  rw [xE_eq h, e, numFrom_map']
theorem zip2_map' {α β : Type} (f : α → D) (g : β → D) : ∀ (xs : List α) (ys : List β), zip2 (xs.map f) (ys.map g) = (xs.zip ys).map fun p => .tup [f p.1, g p.2]
  | [], _ => rfl
  | _ :: _, [] => rfl
  | x :: xs, y :: ys => by
    have := zip2_map' f g xs ys
    simp [zip2, this]
theorem sx_zip {α β : Type} {f : α → D} {g : β → D} {a b : E} {δ : Dlt} {ds es : List D} {xs : List α} {ys : List β} (h : a δ = pure (.lst ds)) (h2 : b δ = pure (.lst es)) (e : ds = xs.map f) (e2 : es = ys.map g) : xZ a b δ = pure ((xs.zip ys).map fun p => .tup [f p.1, g p.2]) := by
  unfold xZ
  rw [h, pure_bind, h2, pure_bind, e, e2]
  show pure (zip2 _ _) = _
  rw [zip2_map']
theorem sx_zipS {α β : Type} {f : α → D} {g : β → D} {a b : E} {δ : Dlt} {ds es : List D} {xs : List α} {ys : List β} (h : a δ = pure (.lst ds)) (h2 : b δ = pure (.lst es)) (e : ds = xs.map f) (e2 : es = ys.map g) (hl : xs.length = ys.length) : xZs a b δ = pure ((xs.zip ys).map fun p => .tup [f p.1, g p.2]) := by
  unfold xZs
  rw [h, pure_bind, h2, pure_bind, e, e2]
  show (if (xs.map f).length = (ys.map g).length then pure (zip2 _ _) else stuck) = _
  rw [if_pos (by simpa using hl), zip2_map']
theorem sx_r {a : E} {δ : Dlt} {n : Nat} (h : a δ = pure (.int n)) (hn : n < 1000000) : xR a δ = pure ((List.range n).map fun k => .int (k : Nat)) := by
  unfold xR
  rw [h, pure_bind]
  show (if -1000000 < (n : Int) ∧ (n : Int) < 1000000 then pure ((List.range (n : Int).toNat).map fun k => D.int (k : Nat)) else stuck) = _
  rw [if_pos (by omega), Int.toNat_natCast]
theorem sx_r2 {a b : E} {δ : Dlt} {i j : Int} (h : a δ = pure (.int i)) (h2 : b δ = pure (.int j)) (hi : -1000000 < i ∧ i < 1000000) (hj : -1000000 < j ∧ j < 1000000) : xR2 a b δ = pure ((List.range (j - i).toNat).map fun k => .int (i + (k : Nat))) := by
  unfold xR2
  rw [h, pure_bind, h2, pure_bind]
  exact if_pos ⟨hi.1, hi.2, hj.1, hj.2⟩
/-! ### statements -/
def seqK (r : Fl) (b : S) : M Fl := match r with
  | .nx δ' => b δ'
  | r => pure r
theorem ev_seq {a b : S} {δ : Dlt} {r fl : Fl} (h : a δ = pure r) (h2 : seqK r b = pure fl) : sSeq a b δ = pure fl := by
  unfold sSeq
  rw [h, pure_bind, ← h2]
  cases r <;> rfl
theorem seqK_nx {δ : Dlt} {b : S} {fl : Fl} (h : b δ = pure fl) : seqK (.nx δ) b = pure fl := h
theorem seqK_rt {d : D} {b : S} : seqK (.rt d) b = pure (.rt d) := rfl
theorem ev_if {c : E} {a b : S} {δ : Dlt} {x : Bool} {r : Fl} (h : c δ = pure (.bl x)) (h2 : ifK x (a δ) (b δ) = pure r) : sIf c a b δ = pure r := by
  unfold sIf
  rw [h, pure_bind, ← h2]
  cases x <;> rfl
theorem ev_skip {δ : Dlt} : sSkip δ = pure (.nx δ) := rfl
theorem ev_ret {e : E} {δ : Dlt} {d : D} (h : e δ = pure d) : sRet e δ = pure (.rt d) := ret_rt h
theorem ev_do {e : E} {δ : Dlt} {d : D} (h : e δ = pure d) : sDo e δ = pure (.nx δ) := do_nx h
theorem ev_asg {g : G} {e : E} {δ δ' : Dlt} {d : D} (h : e δ = pure d) (h2 : g d δ = some δ') : sAsg g e δ = pure (.nx δ') := asg_nx h h2
theorem ev_par {i j : Nat} {a b : E} {δ : Dlt} {x y : D} (h1 : a δ = pure x) (h2 : b δ = pure y) : sPar i j a b δ = pure (.nx ((δ.set i (.val x)).set j (.val y))) := by
  unfold sPar
  rw [h1, pure_bind, h2, pure_bind]
theorem ev_thr {x : Str} {f : E} {δ : Dlt} {d : D} (h : f δ = pure d) : sThr x f δ = pure (.rt (.thr x d)) := by
  unfold sThr
  rw [h, pure_bind]
theorem ev_dox_thr {Fs : List D → M D} {fs : Es} {δ : Dlt} {ds : List D} {x : Str} {d : D} (h : fs δ = pure ds) (h2 : Fs ds = pure (.thr x d)) : sDoX Fs fs δ = pure (.rt (.thr x d)) := by
  unfold sDoX
  rw [h, pure_bind, h2, pure_bind]
  rfl
theorem ev_dox {Fs : List D → M D} {fs : Es} {δ : Dlt} {ds : List D} {d : D} (h : fs δ = pure ds) (h2 : Fs ds = pure d) (h3 : d.isThr = false) : sDoX Fs fs δ = pure (.nx δ) := by
  unfold sDoX
  rw [h, pure_bind, h2, pure_bind, if_neg (by rw [h3]; simp)]
theorem ev_fnr {n p : Nat} {s : S} {ds : List D} {d : D} (hl : ds.length = p) (h : s (startD n ds) = pure (.rt d)) : fn n p s ds = pure d := fn_rt hl h
theorem ev_fnn {n p : Nat} {s : S} {ds : List D} {δ : Dlt} (hl : ds.length = p) (h : s (startD n ds) = pure (.nx δ)) : fn n p s ds = pure .non := fn_nx hl h
/-- a def's run, and what it tells -/
theorem ev_to {n p : Nat} {s : S} {ds : List D} {d d' : D} (h : s (startD n ds) = pure (.rt d)) (hl : ds.length = p) (e : d = d') : fn n p s ds = pure d' := by rw [← e]; exact fn_rt hl h
/-! ### words of data -/
theorem eqB_int (i j : Int) : dEq (.int i) (.int j) = pure (.bl (decide (i = j))) := rfl
theorem neB_int (i j : Int) : dNe (.int i) (.int j) = pure (.bl (!decide (i = j))) := rfl
theorem eqB_str (i j : Str) : dEq (.str i) (.str j) = pure (.bl (decide (i = j))) := rfl
theorem neB_str (i j : Str) : dNe (.str i) (.str j) = pure (.bl (!decide (i = j))) := rfl
theorem eqB_bl (i j : Bool) : dEq (.bl i) (.bl j) = pure (.bl (decide (i = j))) := rfl
theorem neB_bl (i j : Bool) : dNe (.bl i) (.bl j) = pure (.bl (!decide (i = j))) := rfl
theorem lt_ev (i j : Int) : dLt (.int i) (.int j) = pure (.bl (decide (i < j))) := rfl
theorem le_ev (i j : Int) : dLe (.int i) (.int j) = pure (.bl (decide (i ≤ j))) := rfl
theorem gt_ev (i j : Int) : dGt (.int i) (.int j) = pure (.bl (decide (j < i))) := rfl
theorem ge_ev (i j : Int) : dGe (.int i) (.int j) = pure (.bl (decide (j ≤ i))) := rfl
theorem not_ev (b : Bool) : dNot (.bl b) = pure (.bl (!b)) := rfl
theorem neg_ev (i : Int) : dNeg (.int i) = pure (.int (-i)) := rfl
theorem addI_ev (i j : Int) : dAdd (.int i) (.int j) = pure (.int (i + j)) := rfl
theorem subI_ev (i j : Int) : dSub (.int i) (.int j) = pure (.int (i - j)) := rfl
theorem addL_ev {xs ys : List D} (h : xs.length + ys.length ≤ 1000000) : dAdd (.lst xs) (.lst ys) = pure (.lst (xs ++ ys)) := cat_eq h
theorem len_ev (xs : List D) : dLen (.lst xs) = pure (.int xs.length) := rfl
theorem lenT_ev (xs : List D) : dLen (.tup xs) = pure (.int xs.length) := rfl
theorem cut_ev (xs : List D) (lo hi : Option Int) : dCut (.lst xs) lo hi = pure (.lst (cut xs lo hi)) := rfl
theorem list_ev (xs : List D) : dList (.lst xs) = pure (.lst xs) := rfl
theorem tuple_ev (xs : List D) : dTuple (.lst xs) = pure (.tup xs) := rfl
theorem rev_ev (xs : List D) : dRev (.lst xs) = pure (.lst xs.reverse) := rfl
theorem place_ok {n i : Nat} (h : i < n) : place n (i : Int) = some i := by
  unfold place
  rw [if_pos (by omega), if_pos (by omega), Int.toNat_natCast]
theorem ix_of {xs : List D} {i : Nat} {d : D} (h : xs[i]? = some d) : dIx (.lst xs) (.int i) = pure d := by
  show (match (place xs.length i).bind fun j => xs[j]? with | some v => (pure v : M D) | none => stuck) = _
  rw [place_ok (List.getElem?_eq_some_iff.mp h).1]
  show (match xs[i]? with | some v => (pure v : M D) | none => stuck) = _
  rw [h]
theorem ix_map {α : Type} {f : α → D} {xs : List α} {i : Nat} (h : i < xs.length) : dIx (.lst (xs.map f)) (.int i) = pure (f xs[i]) := ix_of (by rw [List.getElem?_map, List.getElem?_eq_getElem h]; rfl)
theorem allB_ev {α : Type} (xs : List α) (p : α → Bool) : dAll (.lst (xs.map fun x => D.bl (p x))) = pure (.bl (xs.all p)) := all_bls xs p
theorem anyB_ev {α : Type} (xs : List α) (p : α → Bool) : dAny (.lst (xs.map fun x => D.bl (p x))) = pure (.bl (xs.any p)) := by
  have h : ∀ xs : List α, bools? (xs.map fun x => D.bl (p x)) = some (xs.map p) := fun xs => by
    induction xs with
    | nil => rfl
    | cons x xs ih => rw [List.map_cons, bools?, ih]; rfl
  show (match bools? (xs.map fun x => D.bl (p x)) with | some bs => (pure (.bl (bs.any id)) : M D) | none => stuck) = _
  rw [h]
  show pure (D.bl ((xs.map p).any id)) = _
  rw [List.any_map]
  rfl
theorem sumI_ev {α : Type} (xs : List α) (p : α → Int) : dSum (.lst (xs.map fun x => D.int (p x))) = pure (.int (xs.map p).sum) := by
  have h : ∀ xs : List α, ints? (xs.map fun x => D.int (p x)) = some (xs.map p) := fun xs => by
    induction xs with
    | nil => rfl
    | cons x xs ih => rw [List.map_cons, ints?, ih]; rfl
  show (match ints? (xs.map fun x => D.int (p x)) with | some bs => (pure (.int bs.sum) : M D) | none => stuck) = _
  rw [h]
theorem sumC_ev (xs : List Int) : dSum (codeD xs) = pure (.int xs.sum) := by
  show (match ints? (xs.map D.int) with | some bs => (pure (.int bs.sum) : M D) | none => stuck) = _
  rw [ints_of]
theorem neNil_ev {xs : List D} (h : (xs.all fun d => d.cl 59) = true) : dNe (.lst xs) (.lst []) = pure (.bl (!decide (xs = []))) := by
  show liftB ((if (D.lst xs).cl 60 && (D.lst []).cl 60 then some (PyData.eqv (D.lst xs).py (D.lst []).py) else none).map (!·)) = _
  rw [show (D.lst xs).cl 60 = true from h]
  cases xs with
  | nil => rfl
  | cons x xs => rfl
theorem eqNil_ev {xs : List D} (h : (xs.all fun d => d.cl 59) = true) : dEq (.lst xs) (.lst []) = pure (.bl (decide (xs = []))) := by
  show liftB (if (D.lst xs).cl 60 && (D.lst []).cl 60 then some (PyData.eqv (D.lst xs).py (D.lst []).py) else none) = _
  rw [show (D.lst xs).cl 60 = true from h]
  cases xs with
  | nil => rfl
  | cons x xs => rfl
/-! ### what is read alone -/
theorem nbs_map {α : Type} {f : α → D} (h : ∀ x, (f x).nb = true) (xs : List α) : nbs (xs.map f) = true := by
  induction xs with
  | nil => rfl
  | cons x xs ih => simp [nbs, h x, ih]
theorem nb_code (c : List Int) : (codeD c).nb = true := by
  have := nbs_map (f := D.int) (fun _ => rfl) c
  simpa [codeD, D.nb] using this
theorem nb_codes (c : List (List Int)) : (codesD c).nb = true := by
  have := nbs_map (f := codeD) nb_code c
  simpa [codesD, D.nb] using this
theorem un_code (c : List Int) : (codeD c).un = codeD c := un_nb _ (nb_code c)
theorem un_codes (c : List (List Int)) : (codesD c).un = codesD c := un_nb _ (nb_codes c)
theorem un_bcode (c : List Int) : (D.bor (codeD c)).un = codeD c := un_code c
theorem un_bcodes (c : List (List Int)) : (D.bor (codesD c)).un = codesD c := un_codes c
theorem un_imm {d : D} (h : d.imm = true) : d.un = d := by cases d <;> first | rfl | cases h
theorem uns_len (xs : List D) : (uns xs).length = xs.length := by rw [uns_map, List.length_map]
theorem uw_bcodes (c : List (List Int)) : dUw (.bor (codesD c)) = pure (.lst (c.map fun c => .bor (codeD c))) := by
  show pure (D.lst ((c.map codeD).map wrapB)) = _
  rw [List.map_map]
  rfl
theorem uw_bcode (c : List Int) : dUw (.bor (codeD c)) = pure (codeD c) := by
  show pure (D.lst ((c.map D.int).map wrapB)) = _
  rw [List.map_map]
  rfl
theorem hU_len (xs : List D) : hU dLen (.lst xs) = pure (.int xs.length) := by
  unfold hU
  rw [D.un, len_ev, pure_bind, uns_len]
  rfl
theorem bl_of {b c : Bool} (h : b = c) : (pure (.bl b) : M D) = pure (.bl c) := by rw [h]
theorem pure_eq {α : Type} {a b : α} (h : a = b) : (pure a : M α) = pure b := by rw [h]
end DL

/-! ## DText -/
set_option autoImplicit false
set_option linter.all false
set_option maxRecDepth 100000
/-! DText: what repr prints of data: its length, its signs. -/
namespace DL
open PySem
theorem ok_app {a b : Str} (h1 : PyData.strOk a = true) (h2 : PyData.strOk b = true) : PyData.strOk (a ++ b) = true := by
  unfold PyData.strOk at *
  show (a.cps ++ b.cps).all _ = true
  rw [Array.all_append, h1, h2]
  rfl
theorem ok_str (s : String) : PyData.strOk (Str.ofString s) = true := by
  unfold PyData.strOk
  rw [Str.ofString_eq_toList, Array.all_eq_true_iff_forall_mem]
  intro n hn
  simp only [List.mem_toArray, List.mem_map] at hn
  obtain ⟨c, _, rfl⟩ := hn
  have := c.valid
  have h : c.toNat < 0x110000 := by
    rcases this with h | ⟨_, h⟩
    · exact Nat.lt_trans h (by decide)
    · exact h
  simpa using h
theorem ok_from : ∀ (ts : List Str) (k : Nat) (acc : Str), PyData.strOk acc = true → (∀ t ∈ ts, PyData.strOk t = true) → PyData.strOk (textFrom k acc ts) = true
  | [], _, _, h, _ => h
  | t :: ts, k, acc, h, h2 => ok_from ts (k + 1) _ (ok_app (ok_app h (ok_str _)) (h2 t List.mem_cons_self)) fun u hu => h2 u (List.mem_cons_of_mem _ hu)
theorem ok_list {ts : List Str} (h : ∀ t ∈ ts, PyData.strOk t = true) : PyData.strOk (listText ts) = true := ok_app (ok_from ts 0 _ (ok_str _) h) (ok_str _)
theorem ok_join : ∀ (ts : List Str), (∀ t ∈ ts, PyData.strOk t = true) → PyData.strOk (Str.join ", " ts) = true
  | [], _ => by decide +kernel
  | [x], h => h x List.mem_cons_self
  | x :: y :: r, h => ok_app (ok_app (h x List.mem_cons_self) (ok_str _)) (ok_join (y :: r) fun u hu => h u (List.mem_cons_of_mem _ hu))
theorem ok_tuple {ts : List Str} (h : ∀ t ∈ ts, PyData.strOk t = true) : PyData.strOk (tupleText ts) = true := ok_app (ok_app (ok_str _) (ok_join ts h)) (by split <;> exact ok_str _)
theorem shown_lst (xs : List D) : (D.lst xs).py.shown = listText (PyData.shownAll (pys xs)) := by
  rw [D.py, PyData.shown]
theorem shown_tup (xs : List D) : (D.tup xs).py.shown = tupleText (PyData.shownAll (pys xs)) := by
  rw [D.py, PyData.shown]
theorem shown_pys : ∀ xs : List D, PyData.shownAll (pys xs) = xs.map fun d => d.py.shown
  | [] => by rw [pys, PyData.shownAll]; rfl
  | x :: xs => by rw [pys, PyData.shownAll, shown_pys xs]; rfl
/-- printed within n signs, all of them signs -/
structure Txt (k n : Nat) (d : D) : Prop where
  rq : d.rq k = true
  ok : PyData.strOk d.py.shown = true
  len : d.py.shown.length ≤ n
theorem piled_le {n : Nat} : ∀ {ts : List Str}, (∀ t ∈ ts, t.length ≤ n) → piled ts ≤ (n + 2) * ts.length
  | [], _ => by simp [piled]
  | t :: ts, h => by
    have ih := piled_le (ts := ts) fun u hu => h u (List.mem_cons_of_mem _ hu)
    have h1 := h t List.mem_cons_self
    have e : (n + 2) * (t :: ts).length = (n + 2) * ts.length + (n + 2) := Nat.mul_succ _ _
    have e2 : piled (t :: ts) = t.length + 2 + piled ts := by simp [piled]
    omega
theorem list_text_le {n : Nat} : ∀ {ts : List Str}, (∀ t ∈ ts, t.length ≤ n) → (listText ts).length ≤ (n + 2) * ts.length + 2
  | [], _ => by
    rw [listText_nil]
    show _ ≤ (n + 2) * 0 + 2
    rw [Nat.mul_zero]
    decide +kernel
  | t :: r, h => by
    have h1 := h t List.mem_cons_self
    have h2 : (r.map fun t => t.length + 2).sum ≤ (n + 2) * r.length := by
      have : ∀ r : List Str, (∀ u ∈ r, u.length ≤ n) → (r.map fun t => t.length + 2).sum ≤ (n + 2) * r.length := fun r hr => by
        induction r with
        | nil => simp
        | cons u r ih =>
          have := ih fun v hv => hr v (List.mem_cons_of_mem _ hv)
          have := hr u List.mem_cons_self
          simp only [List.map_cons, List.sum_cons, List.length_cons]
          rw [Nat.mul_add]
          omega
      exact this r fun u hu => h u (List.mem_cons_of_mem _ hu)
    rw [listLen, List.length_cons, Nat.mul_add]
    omega
theorem tuple_text_le {n : Nat} {ts : List Str} (h : ∀ t ∈ ts, t.length ≤ n) : (tupleText ts).length ≤ (n + 2) * ts.length + 3 := by
  have hp := piled_le h
  unfold tupleText
  rw [strLen_append, strLen_append]
  have e1 : ((("(" : String) : Str)).length = 1 := by decide +kernel
  have e2 : ((if ts.length == 1 then ",)" else ")" : String) : Str).length ≤ 2 := by split <;> decide +kernel
  by_cases hn : ts = []
  · subst hn
    have e3 : (Str.join (", " : String) []).length = 0 := rfl
    rw [e3, e1]
    omega
  · have := join_length_add ts hn
    rw [e1]
    omega
theorem txt_lst {k n : Nat} {xs : List D} (h : ∀ d ∈ xs, Txt k n d) : Txt (k + 1) ((n + 2) * xs.length + 2) (.lst xs) := by
  refine ⟨?_, ?_, ?_⟩
  · rw [D.rq, rqs_all]
    exact fun d hd => (h d hd).rq
  · rw [shown_lst, shown_pys]
    refine ok_list fun t ht => ?_
    rw [List.mem_map] at ht
    obtain ⟨d, hd, rfl⟩ := ht
    exact (h d hd).ok
  · rw [shown_lst, shown_pys]
    have := list_text_le (n := n) (ts := xs.map fun d => d.py.shown) fun t ht => by
      rw [List.mem_map] at ht
      obtain ⟨d, hd, rfl⟩ := ht
      exact (h d hd).len
    rwa [List.length_map] at this
theorem txt_tup {k n : Nat} {xs : List D} (h : ∀ d ∈ xs, Txt k n d) : Txt (k + 1) ((n + 2) * xs.length + 3) (.tup xs) := by
  refine ⟨?_, ?_, ?_⟩
  · rw [D.rq, rqs_all]
    exact fun d hd => (h d hd).rq
  · rw [shown_tup, shown_pys]
    refine ok_tuple fun t ht => ?_
    rw [List.mem_map] at ht
    obtain ⟨d, hd, rfl⟩ := ht
    exact (h d hd).ok
  · rw [shown_tup, shown_pys]
    have := tuple_text_le (n := n) (ts := xs.map fun d => d.py.shown) fun t ht => by
      rw [List.mem_map] at ht
      obtain ⟨d, hd, rfl⟩ := ht
      exact (h d hd).len
    rwa [List.length_map] at this
theorem Txt.up {k n j m : Nat} {d : D} (h : Txt k n d) (hn : n ≤ m) (hk : d.rq j = true) : Txt j m d := ⟨hk, h.ok, Nat.le_trans h.len hn⟩
theorem txt_non (k : Nat) : Txt k 10 .non := ⟨by cases k <;> rfl, by decide +kernel, by decide +kernel⟩
theorem txt_bl (k : Nat) (b : Bool) : Txt k 10 (.bl b) := ⟨by cases k <;> rfl, by cases b <;> decide +kernel, by cases b <;> decide +kernel⟩
theorem txt_dct (k : Nat) : Txt k 10 (.dct []) := ⟨by cases k <;> rfl, by decide +kernel, by decide +kernel⟩
theorem txt_str (k : Nat) {x : Str} (h : (PyData.strOk x && PyData.strOk (reprText x) && decide ((reprText x).length ≤ 10)) = true) : Txt k 10 (.str x) := by
  simp only [Bool.and_eq_true, decide_eq_true_eq] at h
  refine ⟨by cases k <;> exact h.1.1, ?_, ?_⟩
  · rw [D.py, PyData.shown]; exact h.1.2
  · rw [D.py, PyData.shown]; exact h.2
theorem rqI (k : Nat) {i : Int} (h : i.natAbs.log2 < 1920) : D.rq k (.int i) = true := by cases k <;> exact decide_eq_true h
theorem txt_int (k : Nat) {i : Int} (h : -1 ≤ i ∧ i ≤ 10) : Txt k 10 (.int i) := by
  have c : i = -1 ∨ i = 0 ∨ i = 1 ∨ i = 2 ∨ i = 3 ∨ i = 4 ∨ i = 5 ∨ i = 6 ∨ i = 7 ∨ i = 8 ∨ i = 9 ∨ i = 10 := by omega
  rcases c with h | h | h | h | h | h | h | h | h | h | h | h <;> (subst h; exact ⟨rqI k (by decide), by decide +kernel, by decide +kernel⟩)
theorem reprN_ev {n : Nat} {d : D} (h : Txt 60 n d) (hn : n ≤ 16777216) : dReprN d = pure (.str d.py.shown) := by
  unfold dReprN
  rw [h.rq, Bool.true_and, if_pos]
  exact decide_eq_true (Nat.le_trans h.len hn)

mutual
theorem rq_up : ∀ (k : Nat) (d : D), d.rq k = true → d.rq (k + 1) = true
  | _, .non, _ => by simp [D.rq]
  | _, .bl _, _ => by simp [D.rq]
  | k, .int i, h => by cases k <;> simpa [D.rq] using h
  | k, .str x, h => by cases k <;> simpa [D.rq] using h
  | 0, .lst xs, h => by simp [D.rq] at h
  | 0, .tup xs, h => by simp [D.rq] at h
  | k + 1, .lst xs, h => by
    rw [D.rq] at h ⊢
    exact rqs_up k xs h
  | k + 1, .tup xs, h => by
    rw [D.rq] at h ⊢
    exact rqs_up k xs h
  | k, .dct [], _ => by simp [D.rq]
  | k, .dct (_ :: _), h => by cases k <;> simp [D.rq] at h
  | k, .gen, h => by rw [rq_gen] at h; cases h
  | k, .fn _, h => by rw [rq_fn] at h; cases h
  | k, .exc _ _, h => by rw [rq_exc] at h; cases h
  | k, .thr _ _, h => by rw [rq_thr] at h; cases h
  | k, .bor _, h => by rw [rq_bor] at h; cases h
theorem rqs_up : ∀ (k : Nat) (ds : List D), rqs k ds = true → rqs (k + 1) ds = true
  | _, [], _ => by simp [rqs]
  | k, d :: ds, h => by
    simp only [rqs, Bool.and_eq_true] at h ⊢
    exact ⟨rq_up k d h.1, rqs_up k ds h.2⟩
end
theorem Txt.deep {k n j m : Nat} {d : D} (h : Txt k n d) (hn : n ≤ m) (hk : k ≤ j) : Txt j m d := by
  refine ⟨?_, h.ok, Nat.le_trans h.len hn⟩
  obtain ⟨i, rfl⟩ := Nat.exists_eq_add_of_le hk
  clear hk
  induction i with
  | zero => exact h.rq
  | succ i ih => exact rq_up _ _ ih
mutual
theorem cl_up : ∀ (k : Nat) (d : D), d.cl k = true → d.cl (k + 1) = true
  | _, .non, _ => by simp [D.cl]
  | _, .bl _, _ => by simp [D.cl]
  | k, .int i, h => by cases k <;> simpa [D.cl] using h
  | k, .str x, h => by cases k <;> simpa [D.cl] using h
  | 0, .lst xs, h => by simp [D.cl] at h
  | 0, .tup xs, h => by simp [D.cl] at h
  | k + 1, .lst xs, h => cls_up k xs h
  | k + 1, .tup xs, h => cls_up k xs h
  | k, .dct _, h => by cases k <;> cases h
  | k, .gen, h => by cases k <;> cases h
  | k, .fn _, h => by cases k <;> cases h
  | k, .exc _ _, h => by cases k <;> cases h
  | k, .thr _ _, h => by cases k <;> cases h
  | k, .bor _, h => by cases k <;> cases h
theorem cls_up : ∀ (k : Nat) (ds : List D), ds.all (D.cl k) = true → ds.all (D.cl (k + 1)) = true
  | _, [], _ => rfl
  | k, d :: ds, h => by
    rw [List.all_cons, Bool.and_eq_true] at h ⊢
    exact ⟨cl_up k d h.1, cls_up k ds h.2⟩
end
theorem txt_code (k : Nat) {c : List Int} (h : ∀ i ∈ c, -1 ≤ i ∧ i ≤ 10) : Txt (k + 1) (12 * c.length + 2) (codeD c) := by
  have := txt_lst (k := k) (n := 10) (xs := c.map D.int) fun d hd => by
    rw [List.mem_map] at hd
    obtain ⟨i, hi, rfl⟩ := hd
    exact txt_int k (h i hi)
  rwa [List.length_map] at this
end DL

/-! ## DApp -/
set_option Elab.async false
set_option autoImplicit false
set_option linter.all false
set_option maxRecDepth 100000
set_option maxHeartbeats 4000000
/-! DApp: statements in two parts; a block that is spoilt at its end, amid a def. -/
namespace DL
open PySem PySem.Spec PyProof.Rows L2
theorem wp_execs_app {M : Model} {Γ : PySem.Ctx} {env : Env} {Q : Flow → Pos → Shared → Prop} {E : Value → Pos → Shared → Prop} {b : List Stmt} : ∀ (a : List Stmt) (p : Pos) (s : Shared),
    Sem.wp M Γ (execs (a ++ b) env) Q E p s = Sem.wp M Γ (execs a env) (fun f p s => match f with
      | .next => Sem.wp M Γ (execs b env) Q E p s
      | f => Q f p s) E p s
  | [], p, s => rfl
  | st :: a, p, s => by
    rw [List.cons_append, PySem.execs_cons, PySem.execs_cons, Sem.wp_bind', Sem.wp_bind']
    congr 1
    funext f p' s'
    cases f with
    | next => exact wp_execs_app a p' s'
    | _ => rfl
section
variable {X : Cx} {a b : List Stmt} {ta tb : TS} {c : C} {s t : S}
theorem pss_app (ha : PSs X a ta) (hb : PSs X b tb) : PSs X (a ++ b) (tSeq ta tb) := ⟨fun pins s σ H D I h => by
  have q : wpAny (model X.prog X.w) X.A (execs a X.env) (fun f s' => match f with
      | .next => wpAny (model X.prog X.w) X.A (execs b X.env) (SP X pins D) X.xe s'
      | f => SP X pins D f s') X.xe s := by
    refine wpAny_mono (ha.run pins s σ H _ I h) (fun f s1 hsp => ?_) fun _ _ z => z
    cases f with
    | next =>
      obtain ⟨σ', H', I', q⟩ := hsp
      exact hb.run pins s1 σ' H' D I' q
    | brk => exact hsp
    | cont => exact hsp
    | ret u => exact hsp
  intro Γ p hΓ
  rw [wp_execs_app]
  refine Sem.wp_mono _ Γ _ (fun f p' s' z => ?_) (fun _ _ _ z => z) _ _ (q Γ p hΓ)
  cases f with
  | next => exact z Γ p' hΓ
  | brk => exact z
  | cont => exact z
  | ret u => exact z⟩
theorem dss_split {l : List Stmt} (n : Nat) (h1 : PSs X (l.take n) (tS c s)) (h2 : PSs X (l.drop n) (tS c t)) : PSs X l (tS c (sSeq s t)) := by
  have h := (pss_app h1 h2).imp (seq_imp (c := c) (s := s) (t := t))
  rwa [List.take_append_drop] at h
theorem dss_app (ha : PSs X a (tS c s)) (hb : PSs X b (tS c t)) : PSs X (a ++ b) (tS c (sSeq s t)) := (pss_app ha hb).imp seq_imp
end
end DL

/-! ## DSet -/
set_option Elab.async false
set_option autoImplicit false
set_option linter.all false
set_option maxRecDepth 100000
set_option maxHeartbeats 4000000
/-! DSet: set(xs) of a list of ints, sorted(set(xs)). -/
namespace DL
open PySem PySem.Spec PyProof.Rows L2
/-- what set() lays -/
abbrev eSet (w : World) : Obj := { cls := .type "set", dict := none, data := .set #[] 0 (.fresh 0 0 (!w.params.followText "set-order")) }
section
variable {P : Program} {w : World} {A : Around} {E : Value → Shared → Prop} {s : Shared}
/-- the filling of a new set from a list: the set lies at its place, its members are those of the list -/
def Filled (w : World) (s : Shared) (ns : List Int) (s2 : Shared) : Prop := ∃ hp tk c, s2 = { s with heap := hp, toks := tk } ∧ SetR w hp s.heap.objs.size (fun j => decide (j ∈ ns)) c ∧ c ≤ ns.length ∧ ∀ b o, s.heap.get? b = some o → hp.get? b = some o
theorem fill_list {l : Addr} {items : Array Value} {ns : List Int} (hh : A.handled = none) (hl : s.heap.IsList l items) (hit : IntsAre items.toList ns) (hb : ns.length + 1 < scanBound) :
    codeAny (model P w) A (.call (.builtin "set.__init__") ⟨[.ref s.heap.objs.size, .ref l], []⟩) (wants (fun r s2 => r = .none ∧ Filled w s ns s2) E) { s with heap := s.heap.push (eSet w) } := by
  have atS : (s.heap.push (eSet w)).get? s.heap.objs.size = some (eSet w) := Heap.get?_push_size _ rfl
  have isS : Shared.TypeIs { s with heap := s.heap.push (eSet w) } (.ref s.heap.objs.size) "set" := ⟨_, atS, rfl⟩
  have size : items.size = ns.length := by rw [← Array.length_toList]; exact IntsAre.length hit
  refine codeAny_call_builtin PySem.F.called_set.init.plain PySem.F.entry_set_init (check_set_init_1 isS ?_)
  obtain ⟨ol, hol, hcl, nl, hdl⟩ := hl
  obtain ⟨k1, k2, k3, k4⟩ := ol
  replace hcl : k1 = _ := hcl
  replace hdl : k3 = _ := hdl
  subst hcl hdl
  have inS := Heap.get?_push_of_some (eSet w) hol
  have notSet := PySem.F.sub_list_set
  have notFrozen := PySem.F.sub_list_frozenset
  have notDict : (Value.type "list" == Value.type "dict") = false := by decide
  have isL : (s.heap.push (eSet w)).IsList l items := ⟨_, inS, rfl, nl, rfl⟩
  unfold Builtin.«set.__init__» noKeywords
  unfold Builtin.Frozenset.updateFrom
  generalize hPI : pyIter = itr
  wp_walk
  subst hPI
  refine wpAny_pyIter_list isL (wpAny_bind (wpAny_runValue ?_))
  have lt := Heap.lt_size hol
  have ne1 : l ≠ (s.heap.push (eSet w)).objs.size := by rw [Heap.size_push]; exact Nat.ne_of_lt (Nat.lt_succ_of_lt lt)
  have far : s.heap.objs.size ∉ [(s.heap.push (eSet w)).objs.size, l] := by
    rw [Heap.size_push]
    simp only [List.mem_cons, List.mem_singleton, List.not_mem_nil, or_false, not_or]
    exact ⟨fun z => Nat.lt_irrefl _ (Nat.lt_of_lt_of_eq (Nat.lt_succ_self _) z.symm), fun z => absurd lt (by rw [z]; exact Nat.lt_irrefl _)⟩
  have each : ∀ (i : Nat) (v : Value), items[i]? = some v → ∃ k t, ns[i]? = some k ∧ v = .int k t := fun i v hv => by
    have hi : i < ns.length := size ▸ (Array.getElem?_eq_some_iff.mp hv).1
    obtain ⟨t, e⟩ := IntsAre.int_at hit i v (by rw [Array.getElem?_toList]; exact hv)
    exact ⟨ns[i], t, List.getElem?_eq_getElem hi, by rw [e, List.getD_eq_getElem?_getD, List.getElem?_eq_getElem hi]; rfl⟩
  have new : SetR w ((s.heap.push (eSet w)).push { cls := .type "list_iterator", data := .fields #[.ref l, .int 0 0] }) s.heap.objs.size (fun j => decide (j ∈ ns.take 0)) 0 := setR_new_at (Heap.get?_push_of_some _ atS)
  refine set_update_ints ((Walks.list (show A.in1.in1.handled = none by simp [hh]) _ l ne1 items).toS) s.heap.objs.size far ns size hb each (items.size - 0) 0 _ (by omega) (Nat.zero_le _) ?st ⟨0, Nat.le_refl 0, ?new⟩ ?fin
  case st => exact ⟨⟨_, Heap.get?_push_size _ rfl, rfl, rfl⟩, isL.push _⟩
  case new => exact new
  intro s3 c3 mv le3 R3
  obtain ⟨h3, g3, d3, t3, o3⟩ := s3
  cases (show g3 = s.gens from mv.gens)
  cases (show d3 = s.drawn from mv.drawn)
  cases (show o3 = s.os from mv.os)
  refine wpAny_pure (show wpAny _ _ (ret Value.none) _ _ _ from wpAny_pure ⟨rfl, h3, t3, c3, rfl, R3, by rw [size] at le3; exact le3, fun b o e => ?_⟩)
  have hb0 := Heap.lt_size e
  refine mv.heap b o ?_ (Heap.get?_push_of_some _ (Heap.get?_push_of_some _ e))
  simp only [List.mem_cons, List.mem_singleton, List.not_mem_nil, or_false, not_or, Heap.size_push]
  exact ⟨Nat.ne_of_lt hb0, Nat.ne_of_lt (Nat.lt_succ_of_lt hb0)⟩
set_option maxHeartbeats 8000000 in
theorem set_of_list {l : Addr} {items : Array Value} {ns : List Int} {Q : Value → Shared → Prop} (hh : A.handled = none) (hl : s.heap.IsList l items) (hit : IntsAre items.toList ns) (hb : ns.length + 1 < scanBound)
    (fin : ∀ s2, Filled w s ns s2 → Q (.ref s.heap.objs.size) s2) : wpAny (model P w) A (call (.type "set") [.ref l]) Q E s := by
  obtain ⟨c, tl, hmro⟩ := PySem.F.called_set.mro
  have made := PySem.F.called_set.made
  have self := PySem.F.called_set.sub
  refine wpAny_call (codeAny_of_tree (show wpAny _ _ (callAny (.type "set") _) _ _ _ from wpAny_pure ⟨Code.quiet_builtin _ (by decide +kernel), codeAny_builtin PySem.F.entry_type_call ?_⟩))
  rw [Around.under_plain (weight_type_call_type "set" [.ref l] []) rfl]
  have q1 := PySem.F.called_set.notType
  have q2 := PySem.F.called_set.canCreate
  have q3 := PySem.F.typeCall_set_1 (.ref l)
  repeat (any_goals (first | (assumption; done) | wp_step))
  refine codeAny_mono (code_set_led1 (.ref l) (E := E) (Q₁ := fun x s1 => x = .ref s.heap.objs.size ∧ s1 = { s with heap := s.heap.push (eSet w) }) ⟨rfl, rfl⟩) fun r s1 hr => ?_
  cases r with
  | error e => exact hr
  | ok fl => cases fl with
    | next => exact hr
    | brk => exact hr
    | cont => exact hr
    | ret x =>
      obtain ⟨e1, e2⟩ : x = _ ∧ s1 = _ := hr
      subst e1 e2
      have atS : (s.heap.push (eSet w)).get? s.heap.objs.size = some (eSet w) := Heap.get?_push_size _ rfl
      have isS : Shared.TypeIs { s with heap := s.heap.push (eSet w) } (.ref s.heap.objs.size) "set" := ⟨_, atS, rfl⟩
      have q4 := PySem.F.called_set.init.lookup
      have q5 := PySem.F.called_set.init.bind (.ref s.heap.objs.size)
      repeat (any_goals (first | (assumption; done) | wp_step))
      refine codeAny_mono (fill_list (E := E) (by simp [hh]) hl hit hb) fun r2 s2 hr2 => ?_
      cases r2 with
      | error e => exact hr2
      | ok fl2 => cases fl2 with
        | next => exact hr2.elim
        | brk => exact hr2.elim
        | cont => exact hr2.elim
        | ret y =>
          obtain ⟨e3, f⟩ := hr2
          subst e3
          repeat (any_goals (first | (assumption; done) | wp_step))
          exact fin _ f
end
end DL

/-! ## DSet2 -/
set_option Elab.async false
set_option autoImplicit false
set_option linter.all false
set_option maxRecDepth 100000
set_option maxHeartbeats 4000000
/-! DSet2: sorted(set(xs)) by plain data. -/
namespace DL
open PySem PySem.Spec PyProof.Rows L2
/-! ### the members of a list of ints, in order, each once -/
def insS (x : Int) : List Int → List Int
  | [] => [x]
  | y :: r => if x < y then x :: y :: r else if x = y then y :: r else y :: insS x r
def sset (ns : List Int) : List Int := ns.foldr insS []
theorem insS_mem (x : Int) : ∀ (l : List Int) (k : Int), k ∈ insS x l ↔ k = x ∨ k ∈ l
  | [], k => by simp [insS]
  | y :: r, k => by
    unfold insS
    split
    · simp
    · split
      · rename_i e
        subst e
        simp
      · rw [List.mem_cons, insS_mem x r, List.mem_cons]
        constructor
        · rintro (h | h | h) <;> simp [h]
        · rintro (h | h | h) <;> simp [h]
theorem insS_up (x : Int) : ∀ {l : List Int}, l.Pairwise (· < ·) → (insS x l).Pairwise (· < ·)
  | [], _ => by simp [insS]
  | y :: r, h => by
    obtain ⟨h1, h2⟩ := List.pairwise_cons.mp h
    unfold insS
    split
    · rename_i lt
      refine List.pairwise_cons.mpr ⟨fun z hz => ?_, h⟩
      rcases List.mem_cons.mp hz with rfl | hz
      · exact lt
      · exact Int.lt_trans lt (h1 z hz)
    · split
      · exact h
      · refine List.pairwise_cons.mpr ⟨fun z hz => ?_, insS_up x h2⟩
        rcases (insS_mem x r z).mp hz with rfl | hz
        · omega
        · exact h1 z hz
theorem sset_mem (k : Int) : ∀ ns : List Int, k ∈ sset ns ↔ k ∈ ns
  | [] => by simp [sset]
  | x :: r => by
    show k ∈ insS x (sset r) ↔ _
    rw [insS_mem, sset_mem k r, List.mem_cons]
theorem sset_up : ∀ ns : List Int, (sset ns).Pairwise (· < ·)
  | [] => List.Pairwise.nil
  | x :: r => insS_up x (sset_up r)
theorem up_eq : ∀ {a b : List Int}, a.Pairwise (· < ·) → b.Pairwise (· < ·) → (∀ k, k ∈ a ↔ k ∈ b) → a = b
  | [], [], _, _, _ => rfl
  | [], y :: b, _, _, h => absurd ((h y).mpr List.mem_cons_self) (by simp)
  | x :: a, [], _, _, h => absurd ((h x).mp List.mem_cons_self) (by simp)
  | x :: a, y :: b, ha, hb, h => by
    obtain ⟨a1, a2⟩ := List.pairwise_cons.mp ha
    obtain ⟨b1, b2⟩ := List.pairwise_cons.mp hb
    have e : x = y := by
      have h1 := (h x).mp List.mem_cons_self
      have h2 := (h y).mpr List.mem_cons_self
      rcases List.mem_cons.mp h1 with z | z
      · exact z
      · rcases List.mem_cons.mp h2 with u | u
        · exact u.symm
        · have := b1 x z
          have := a1 y u
          omega
    subst e
    refine congrArg _ (up_eq a2 b2 fun k => ?_)
    have q := h k
    rw [List.mem_cons, List.mem_cons] at q
    constructor
    · intro hk
      rcases q.mp (.inr hk) with z | z
      · have := a1 k hk
        omega
      · exact z
    · intro hk
      rcases q.mpr (.inr hk) with z | z
      · have := b1 k hk
        omega
      · exact z
def dSortSet (d : D) : M D := match d with
  | .lst xs => match ints? xs with
    | some ns => if ns.length < 64 then pure (.lst ((sset ns).map .int)) else stuck
    | none => stuck
  | _ => stuck
section
variable {X : Cx} {ga : Option Addr} {bo : Hp} {a : Expr} {fa : E} {p p2 q pos : Pos}
def rSetL (K : PySem.W.Frag) (w : World) : List V → Hp → VK → Prop := fun vs H Q => ∃ (l : Addr) (ns : List Int), vs = [.ref l] ∧ SqL K H l (ns.map V.int) ∧ ns.length < 64 ∧ ∀ (b : Addr) (n : Nat), H b = none → n ≤ ns.length → Q (.ref b) (upd H b (SetO w b (fun j => decide (j ∈ ns)) n))
theorem cr_setL (hc : X.calm = true) : CallR X (.type "set") (rSetL X.K X.w) := by
  intro pins s σ H vs us Q I r h
  obtain ⟨l, ns, rfl, hq, hl, q⟩ := h
  rw [Vals.ref1 r]
  obtain ⟨its, rv, pl, _⟩ := I.list hq
  refine set_of_list (I.ok.hd hc) pl.isList (ns := ns) (by simpa using rv.ints) (by unfold scanBound; omega) fun s2 ⟨hp, tk, n, e, R, le, keep⟩ => ?_
  subst e
  exact ⟨.ref _, upd H s.heap.objs.size (SetO X.w s.heap.objs.size (fun j => decide (j ∈ ns)) n), I.laid (t' := tk) keep (Nat.le_refl _) (setO_new R), rfl, q _ n (I.hok.fresh (Nat.le_refl _)) le⟩
theorem d_sset (hm : X.mg "sorted" = none) (hm2 : X.mg "set" = none) (ha : PE X a (tR ⟨X.K, X.mg, ga, bo⟩ fa)) (hc : X.calm = true := by rfl) (hg : Gl X "sorted" := by rfl) (hg2 : Gl X "set" := by rfl) (he : starEach [a] X.env = (false, eval a X.env) :: starEach [] X.env := by rfl)
    (he2 : starEach [.Call (.Name "set" p2) [a] [] q] X.env = (false, eval (.Call (.Name "set" p2) [a] [] q) X.env) :: starEach [] X.env := by rfl) :
    PE X (.Call (.Name "sorted" p) [.Call (.Name "set" p2) [a] [] q] [] pos) (tP ⟨X.K, X.mg, ga, bo⟩ (eF dSortSet fa)) :=
  (pe_callB (cr_sortedSet hc) hg hm (by rfl) (pa_cons (pe_callTy (cr_setL hc) hg2 hm2 (by rfl) (pa_cons ha pa_nil he) (by decide) (by decide) he rfl) pa_nil he2) (by decide) (by decide) he2 rfl).imp fun σ H Q ⟨H0, F, δ, g, d, g', w, o, q⟩ => by
    obtain ⟨x, g1, o1, o⟩ := ok_bind.mp o
    unfold dSortSet at o
    split at o
    · rename_i xs
      split at o
      · rename_i ns hns
        split at o
        · rename_i hl
          obtain ⟨rfl, rfl⟩ := ok_pure.mp o
          refine ⟨H0, F, δ, g, _, g1, w, o1, fun v F1 H1 s1 r1 => ?_⟩
          obtain ⟨l, vs, rfl, el, ra⟩ := r1.lst s1.le
          rw [ints_map hns] at ra
          have ev := RepAll.ofInts ra
          subst ev
          refine ⟨l, ns, rfl, SqL.of el, hl, fun b n hb hn => ?_⟩
          refine ⟨b, _, n, rfl, upd_same, by omega, fun zs p2 up mem len hp => ?_⟩
          have hz : zs = sset ns := up_eq up (sset_up ns) fun k => by rw [mem, sset_mem]; simp
          subst hz
          have t1 := Stp.tmp (c := ⟨X.K, X.mg, ga, bo⟩) (o := SetO X.w b (fun j => decide (j ∈ ns)) n) s1.le s1.gen hb
          have t2 := Stp.lay (c := ⟨X.K, X.mg, ga, bo⟩) (o := .lst ((sset ns).map V.int)) t1.le t1.gen hp
          exact q _ _ _ ((s1.trans t1).trans t2) (.lst upd_same (RepAll.ofMap (fun x => .int x) _))
        · exact absurd o not_ok_stuck
      · exact absurd o not_ok_stuck
    · exact absurd o not_ok_stuck
end
end DL

/-! ## DSum -/
set_option Elab.async false
set_option autoImplicit false
set_option linter.all false
set_option maxRecDepth 100000
set_option maxHeartbeats 4000000
/-! DSum: sum(xs, []) of a list of lists. -/
namespace DL
open PySem PySem.Spec PyProof.Rows L2
section
variable {P : Program} {w : World} {A : Around} {E : Value → Shared → Prop}
theorem args_sumL (a b : Value) : argsOk "sum" ⟨[a, b], []⟩ := by unfold argsOk; kernel_rfl
/-- at the address: a list of the items -/
abbrev LsAt (h : Heap) (a : Addr) (its : List Value) (n : Nat) : Prop := h.get? a = some { cls := .type "list", dict := none, data := .seq its.toArray n, slots := #[] }
theorem sum_lists {R : Result → Shared → Prop} (hh : A.handled = none) {I S l : Addr} {items : List Value} {ls : List (List Value)} (hIl : l ≠ I) (hSI : S ≠ I) (hSl : S ≠ l) (hlen : ls.length = items.length) (hsz : ls.flatten.length ≤ sizeLine) {h0 : Heap} {N0 : Nat} (hN : N0 ≤ I)
    (hv : ∀ (i : Nat) (v : Value), items[i]? = some v → ∃ a n x, v = .ref a ∧ ls[i]? = some x ∧ LsAt h0 a x n ∧ a ≠ I ∧ a ≠ S) :
    ∀ (k i : Nat) (s : Shared) (tv : Addr) (c : Nat), items.length - i = k → i ≤ items.length → s.heap.IsListIter I l i → s.heap.IsList l items.toArray → (∀ b o, b ≠ I → b ≠ S → h0.get? b = some o → s.heap.get? b = some o) →
      s.heap.get? S = some { cls := .type "list", dict := none, data := .seq #[.ref tv] c, slots := #[] } → tv ≠ S → tv ≠ I → I < s.heap.objs.size → S < s.heap.objs.size → (i = items.length → N0 ≤ tv) → (∃ n, LsAt s.heap tv (ls.take i).flatten n) →
      (∀ h' tk tv', (∀ b o, b ≠ I → b ≠ S → s.heap.get? b = some o → h'.get? b = some o) → (∃ n, LsAt h' tv' ls.flatten n) → N0 ≤ tv' → R (.ok (.ret (.ref tv'))) { s with heap := h', toks := tk }) →
      codeAny (model P w) A (.builtin "sum.loop" ⟨[.ref I, .ref S, rawInt 2, rawInt 0], []⟩) R s := by
  intro k
  induction k with
  | zero =>
    intro i s tv c hk hi hit hl hb hS n1 n2 lI lS nt0 ht hR
    have hin : i = items.length := by omega
    subst hin
    refine codeAny_builtin F.entry_sum_loop ?_
    rw [Around.under_plainId F.plain_sum_loop _]
    show wpAny _ A.in1 (seqItems? (.ref S) >>= _) _ _ s
    refine wpAny_bind (wpAny_seqItems hS rfl ?_)
    show wpAny _ A.in1 (tryCatch (pyNext (.ref I)) _ >>= _) _ _ s
    refine wpAny_bind (wpAny_tryCatch ((Walks.list (A := A.in1) hh I l hIl items.toArray).done s _ _ ⟨by simpa using hit, hl⟩ fun h' tk hk' => ?_))
    refine wpAny_pure (hR h' tk tv (fun b o hbw _ e => hk' b o (by simpa using hbw) e) ?_ (nt0 rfl))
    obtain ⟨n, ht⟩ := ht
    refine ⟨n, hk' _ _ (by simpa using n2) ?_⟩
    rw [← hlen, List.take_length] at ht
    exact ht
  | succ k ih =>
    intro i s tv c hk hi hit hl hb hS n1 n2 lI lS nt0 ht hR
    have hlt : i < items.length := by omega
    refine codeAny_builtin F.entry_sum_loop ?_
    rw [Around.under_plainId F.plain_sum_loop _]
    show wpAny _ A.in1 (seqItems? (.ref S) >>= _) _ _ s
    refine wpAny_bind (wpAny_seqItems hS rfl ?_)
    show wpAny _ A.in1 (tryCatch (pyNext (.ref I)) _ >>= _) _ _ s
    refine wpAny_bind (wpAny_tryCatch ((Walks.list (A := A.in1) hh I l hIl items.toArray).item i s _ _ (by simpa using hlt) ⟨hit, hl⟩ fun v h' tk hP hst' hk' => ?_))
    obtain ⟨a, n, x, rfl, hx, ha, a1, a2⟩ := hv i v (by simpa using hP)
    have hS' := hk' S _ (by simpa using hSI) hS
    obtain ⟨nt, ht⟩ := ht
    have ht' := hk' tv _ (by simpa using n2) ht
    have ha' := hk' a _ (by simpa using a1) (hb a _ a1 a2 ha)
    have lI' : I < h'.objs.size := by
      obtain ⟨_, q, _⟩ := hst'.1
      exact Heap.lt_size q
    have lS' : S < h'.objs.size := Heap.lt_size hS'
    have ltv : tv < h'.objs.size := Heap.lt_size ht'
    have hx2 : (ls.take (i + 1)).flatten = (ls.take i).flatten ++ x := by
      rw [List.take_add_one, hx]; simp
    have hsz2 : ((ls.take i).flatten ++ x).length ≤ sizeLine := by
      rw [← hx2]
      refine Nat.le_trans ?_ hsz
      have e : ls.flatten = (ls.take (i + 1)).flatten ++ (ls.drop (i + 1)).flatten := by rw [← List.flatten_append, List.take_append_drop]
      rw [e, List.length_append]
      exact Nat.le_add_right _ _
    show wpAny _ A.in1 ((holding [Value.ref a] (binaryOp .Add (.ref tv) (.ref a))).attempt >>= _) _ _ _
    refine wpAny_bind (wpAny_attempt (wpAny_holding (PySem.P.add_list ht' ha' ?_ (by simpa using hsz2))))
    show wpAny _ A.in1 (updateSeq S (fun _ => #[.ref h'.objs.size]) >>= _) _ _ _
    refine wpAny_bind ?_
    have hS3 := Heap.get?_push_of_some { cls := .type "list", data := .seq ((ls.take i).flatten.toArray ++ x.toArray) } hS'
    refine wpAny_updateSeq hS3 rfl ?_
    have hS2 := Heap.get?_update_self (Obj.mapSeq fun _ => #[Value.ref h'.objs.size]) hS3 rfl
    refine wpAny_bind (wpAny_letGo ?_)
    refine wpAny_bind ?_
    refine wpAny_updateSeq hS2 rfl (wpAny_pure ⟨plainId_quiet F.plain_sum_loop _, ?_⟩)
    have other : ∀ b o, b ≠ S → h'.get? b = some o → (((h'.push { cls := .type "list", data := .seq ((ls.take i).flatten.toArray ++ x.toArray) }).update S (Obj.mapSeq fun _ => #[Value.ref h'.objs.size])).update S (Obj.mapSeq fun _ => #[Value.ref h'.objs.size])).get? b = some o := fun b o hbS e =>
      (Heap.get?_update_other _ _ (Ne.symm hbS)).trans ((Heap.get?_update_other _ _ (Ne.symm hbS)).trans (Heap.get?_push_of_some _ e))
    have newS : h'.objs.size ≠ S := Nat.ne_of_gt lS'
    have sizes : (((h'.push { cls := .type "list", data := .seq ((ls.take i).flatten.toArray ++ x.toArray) }).update S (Obj.mapSeq fun _ => #[Value.ref h'.objs.size])).update S (Obj.mapSeq fun _ => #[Value.ref h'.objs.size])).objs.size = h'.objs.size + 1 := by
      rw [Heap.size_update, Heap.size_update, Heap.size_push]
    refine ih (i + 1) _ h'.objs.size _ (by omega) hlt ?_ ?_ (fun b o b1 b2 e => ?_) (Heap.get?_update_self _ hS2 rfl) newS (Nat.ne_of_gt lI') ?_ ?_ (fun _ => Nat.le_trans hN (Nat.le_of_lt lI')) ⟨0, ?_⟩ fun h'' tk'' tv' kp fin new => ?_
    · exact hst'.1.at fun o e => other _ _ (Ne.symm hSI) e
    · exact hst'.2.at fun o e => other _ _ (Ne.symm hSl) e
    · exact other b o b2 (hk' b o (by simpa using b1) (hb b o b1 b2 e))
    · show I < _
      rw [sizes]; exact Nat.lt_succ_of_lt lI'
    · show S < _
      rw [sizes]; exact Nat.lt_succ_of_lt lS'
    · show Heap.get? _ _ = _
      rw [hx2]
      refine (Heap.get?_update_other _ _ (Ne.symm newS)).trans ((Heap.get?_update_other _ _ (Ne.symm newS)).trans ?_)
      have : (ls.take i).flatten.toArray ++ x.toArray = ((ls.take i).flatten ++ x).toArray := by simp
      rw [← this]
      exact Heap.get?_push_size _ rfl
    · exact hR h'' tk'' tv' (fun b o b1 b2 e => kp b o b1 b2 (other b o b2 (hk' b o (by simpa using b1) e))) fin new
theorem sumL_call {s : Shared} {l b : Addr} {items : List Value} {ls : List (List Value)} {nb : Nat} {Q : Value → Shared → Prop} (hh : A.handled = none) (hl : s.heap.IsList l items.toArray) (hb : LsAt s.heap b [] nb) (hne : items ≠ []) (hlen : ls.length = items.length) (hsz : ls.flatten.length ≤ sizeLine)
    (hv : ∀ (i : Nat) (v : Value), items[i]? = some v → ∃ a n x, v = .ref a ∧ ls[i]? = some x ∧ LsAt s.heap a x n)
    (h : ∀ h' tk p, (∀ b o, s.heap.get? b = some o → h'.get? b = some o) → s.heap.objs.size ≤ p → (∃ n, LsAt h' p ls.flatten n) → Q (.ref p) { s with heap := h', toks := tk }) : wpAny (model P w) A (call (.builtin "sum") [.ref l, .ref b]) Q E s := by
  refine call_function_tree F.kind_sum F.plain_sum F.entry_sum (args_sumL _ _) ?_
  unfold Builtin.«sum»
  simp only [List.length_cons, List.length_nil]
  rw [if_neg (by decide)]
  refine wpAny_bind (wpAny_of_eq (show Builtin.Builtins.bindParams "sum" ["start"] 0 ⟨[.ref b], []⟩ = pure [some (.ref b)] from rfl) ?_)
  refine wpAny_bind (wpAny_pyIter_list hl ?_)
  refine wpAny_bind (wpAny_pure ?_)
  have llt : l < s.heap.objs.size := by
    obtain ⟨_, q, _⟩ := hl
    exact Heap.lt_size q
  have isB : Shared.TypeIs { s with heap := s.heap.push { cls := .type "list_iterator", data := .fields #[.ref l, .int 0 0] } } (.ref b) "list" := ⟨_, Heap.get?_push_of_some _ hb, rfl⟩
  simp only [List.forIn_cons, List.forIn_nil]
  refine wpAny_bind (wpAny_bind (wpAny_bind (wpAny_isInstance (T := "list") (b := false) isB PySem.F.sub_list_str ?_)))
  simp only [Bool.false_eq_true, if_false]
  refine wpAny_pure (wpAny_bind (wpAny_bind (wpAny_isInstance (T := "list") (b := false) isB PySem.F.sub_list_bytes ?_)))
  simp only [Bool.false_eq_true, if_false]
  refine wpAny_pure (wpAny_bind (wpAny_bind (wpAny_isInstance (T := "list") (b := false) isB PySem.F.sub_list_bytearray ?_)))
  simp only [Bool.false_eq_true, if_false]
  refine wpAny_pure (wpAny_pure ?_)
  refine wpAny_bind (wpAny_newObj_type ?_)
  have blt : b < s.heap.objs.size := Heap.lt_size hb
  have sz1 : (s.heap.push { cls := .type "list_iterator", data := .fields #[.ref l, .int 0 0] }).objs.size = s.heap.objs.size + 1 := Heap.size_push _ _
  have szE : ((s.heap.push { cls := .type "list_iterator", data := .fields #[.ref l, .int 0 0] }).push { cls := .type "list", data := .seq #[.ref b] }).objs.size = s.heap.objs.size + 1 + 1 := by rw [Heap.size_push, sz1]
  have two : ∀ c : Addr, c < s.heap.objs.size → c ≠ s.heap.objs.size ∧ c ≠ (s.heap.push { cls := .type "list_iterator", data := .fields #[.ref l, .int 0 0] }).objs.size := fun c hc => ⟨Nat.ne_of_lt hc, by rw [sz1]; exact Nat.ne_of_lt (Nat.lt_succ_of_lt hc)⟩
  refine wpAny_pure ⟨plainId_quiet F.plain_sum_loop _, sum_lists (P := P) (w := w) (A := A) (I := s.heap.objs.size) (l := l) (h0 := s.heap) (N0 := s.heap.objs.size) hh (two l llt).1 (by rw [sz1]; exact Nat.ne_of_gt (Nat.lt_succ_self _)) (two l llt).2.symm hlen hsz (Nat.le_refl _) (fun i v e => ?_) items.length 0 _ b 0 rfl (Nat.zero_le _) ?_ ?_ (fun c o _ _ e => Heap.get?_push_of_some _ (Heap.get?_push_of_some _ e)) (Heap.get?_push_size _ rfl) (two b blt).2 (two b blt).1 ?_ ?_ (fun z => absurd (List.length_eq_zero_iff.mp z.symm) hne) ⟨nb, ?_⟩ fun h' tk p kp fin new => ?_⟩
  · obtain ⟨a, n, x, e1, e2, e3⟩ := hv i v e
    have := Heap.lt_size e3
    exact ⟨a, n, x, e1, e2, e3, (two a this).1, (two a this).2⟩
  · exact ⟨_, Heap.get?_push_of_some _ (Heap.get?_push_size _ rfl), rfl, rfl⟩
  · exact (hl.push _).push _
  · exact Nat.lt_of_lt_of_eq (Nat.lt_succ_of_lt (Nat.lt_succ_self _)) szE.symm
  · exact Nat.lt_of_lt_of_eq (sz1 ▸ Nat.lt_succ_self _) szE.symm
  · exact Heap.get?_push_of_some _ (Heap.get?_push_of_some _ hb)
  · have q := fun c (o : Obj) (e : s.heap.get? c = some o) => two c (Heap.lt_size e)
    exact h h' tk p (fun c o e => kp c o (q c o e).1 (q c o e).2 (Heap.get?_push_of_some _ (Heap.get?_push_of_some _ e))) new fin
end
/-! ### by plain data -/
def lists? : List D → Option (List (List D))
  | [] => some []
  | .lst x :: r => (lists? r).map (x :: ·)
  | _ :: _ => none
def dSumL (d e : D) : M D := match d, e with
  | .lst (x :: xs), .lst [] => match lists? (x :: xs) with
    | some ls => if lim ls.flatten.length then pure (.lst ls.flatten) else stuck
    | none => stuck
  | _, _ => stuck
section
variable {X : Cx} {c : C}
theorem lists_rep {F : Hp} : ∀ {vs : List V} {ds : List D} {ls : List (List D)}, RepAll c F vs ds → lists? ds = some ls → ∃ ps : List (Addr × List V), vs = ps.map (fun p => V.ref p.1) ∧ (∀ p ∈ ps, F p.1 = some (.lst p.2)) ∧ RepAll c F (ps.map (·.2)).flatten ls.flatten
  | _, [], _, r, h => by
    cases r
    cases h
    exact ⟨[], rfl, by simp, .nil⟩
  | _, .lst x :: ds, _, r, h => by
    cases r with
    | cons r1 r2 =>
      unfold lists? at h
      obtain ⟨ms, e, rfl⟩ := Option.map_eq_some_iff.mp h
      obtain ⟨ps, e1, e2, e3⟩ := lists_rep r2 e
      cases r1 with
      | @lst _ a ws _ ea ra =>
        refine ⟨(a, ws) :: ps, by rw [e1]; rfl, fun p hp => ?_, ?_⟩
        · rcases List.mem_cons.mp hp with rfl | hp
          · exact ea
          · exact e2 p hp
        · simp only [List.map_cons, List.flatten_cons]
          exact ra.append e3
theorem lists_heap {pins : List (Addr × Obj)} {σ : L2.St} {H : Hp} {s : Shared} (I : Inv X pins σ H s) : ∀ (ps : List (Addr × List V)), (∀ p ∈ ps, H p.1 = some (.lst p.2)) → ∃ ls : List (List Value), ls.length = ps.length ∧ Vals (ps.map (·.2)).flatten ls.flatten ∧
      ∀ (i : Nat) (p : Addr × List V), ps[i]? = some p → ∃ n x, ls[i]? = some x ∧ LsAt s.heap p.1 x n
  | [], _ => ⟨[], rfl, .nil, fun i p h => by simp at h⟩
  | p :: ps, h => by
    obtain ⟨ls, e1, e2, e3⟩ := lists_heap I ps fun q hq => h q (List.mem_cons_of_mem _ hq)
    obtain ⟨z, its, n, r, hl, e⟩ := I.lstM (h p List.mem_cons_self)
    refine ⟨its :: ls, by simp [e1], ?_, fun i q hq => ?_⟩
    · simp only [List.map_cons, List.flatten_cons]
      exact r.append e2
    · cases i with
      | zero =>
        simp at hq
        subst hq
        exact ⟨n, its, rfl, e⟩
      | succ i =>
        obtain ⟨m, x, q1, q2⟩ := e3 i q (by simpa using hq)
        exact ⟨m, x, by simpa using q1, q2⟩
theorem refs_vals : ∀ {ps : List (Addr × List V)} {us : List Value}, Vals (ps.map fun p => V.ref p.1) us → us = ps.map fun p => Value.ref p.1
  | [], _, r => by cases r; rfl
  | p :: ps, _, r => by
    cases r with
    | cons a b =>
      cases a
      rw [refs_vals b]
      rfl
def rSumL : List V → Hp → VK → Prop := fun vs H Q => ∃ (a b : Addr) (ps : List (Addr × List V)), vs = [.ref a, .ref b] ∧ H a = some (.lst (ps.map fun p => V.ref p.1)) ∧ H b = some (.lst []) ∧ ps ≠ [] ∧ (∀ p ∈ ps, H p.1 = some (.lst p.2)) ∧ (ps.map (·.2)).flatten.length ≤ sizeLine ∧
  ∀ p, H p = none → Q (.ref p) (upd H p (.lst (ps.map (·.2)).flatten))
theorem cr_sumL (hc : X.calm = true) : CallR X (.builtin "sum") rSumL := by
  intro pins s σ H xs us Q I r h
  obtain ⟨a, b, ps, rfl, ea, eb, ne, e2, hz, q⟩ := h
  obtain ⟨vls, k1, k2, k3⟩ := lists_heap I ps e2
  obtain ⟨z, its, n, rv, hl, el⟩ := I.lstM ea
  obtain ⟨z2, its2, n2, rv2, hl2, el2⟩ := I.lstM eb
  cases rv2
  have hits := refs_vals rv
  have hus : us = [.ref a, .ref b] := by
    cases r with
    | cons q1 q2 =>
      cases q2 with
      | cons q3 q4 =>
        cases q4
        cases q1
        cases q3
        rfl
  subst hus
  refine sumL_call (l := a) (b := b) (items := its) (ls := vls) (I.ok.hd hc) ⟨_, el, rfl, n, rfl⟩ el2 (fun z => ne (by rw [hits] at z; exact List.map_eq_nil_iff.mp z)) (by rw [k1, hits, List.length_map]) (by rw [← k2.length]; exact hz) (fun i v hv => ?_) fun h' tk p keep new fin => ?_
  · rw [hits, List.getElem?_map] at hv
    obtain ⟨p, hp, rfl⟩ := Option.map_eq_some_iff.mp hv
    obtain ⟨m, x, q1, q2⟩ := k3 i p hp
    exact ⟨p.1, m, x, rfl, q1, q2⟩
  · obtain ⟨m, fin⟩ := fin
    exact ⟨.ref p, _, I.laid (t' := tk) (o := .lst (ps.map (·.2)).flatten) keep new ⟨hz, vls.flatten, m, k2, fin⟩, rfl, q p (I.hok.fresh new)⟩
theorem sumL_rep {F H : Hp} {x y : V} {d e d' : D} {g g' : Gs} (le : Same F H) (r1 : RepB c F H x d) (r2 : RepB c F H y e) (o : Ok (dSumL d e) g d' g') : g = g' ∧ ∃ (a b : Addr) (ps : List (Addr × List V)) (ds : List D), x = .ref a ∧ y = .ref b ∧ H a = some (.lst (ps.map fun p => V.ref p.1)) ∧ H b = some (.lst []) ∧ ps ≠ [] ∧ (∀ p ∈ ps, H p.1 = some (.lst p.2)) ∧ (ps.map (·.2)).flatten.length ≤ sizeLine ∧
    d' = .lst ds ∧ RepAll c F (ps.map (·.2)).flatten ds := by
  unfold dSumL at o
  split at o
  · rename_i x0 xs0
    split at o
    · rename_i ls hls
      split at o
      · rename_i hz
        obtain ⟨rfl, rfl⟩ := ok_pure.mp o
        obtain ⟨a, vs, rfl, ea, ra⟩ := r1.lst le
        obtain ⟨b, ws, rfl, eb, rb⟩ := r2.lst le
        cases rb
        obtain ⟨ps, e1, e2, e3⟩ := lists_rep ra hls
        subst e1
        refine ⟨rfl, a, b, ps, _, rfl, rfl, ea, eb, fun z => ?_, fun p hp => le _ _ (e2 p hp), by rw [e3.length]; exact lim_le hz, rfl, e3⟩
        subst z
        cases ra
      · exact absurd o not_ok_stuck
    · exact absurd o not_ok_stuck
  · exact absurd o not_ok_stuck
theorem sumL_c (hc : X.calm = true) : CallR X (.builtin "sum") (c2 c dSumL) := fun pins s σ H xs us Q I r ⟨x, y, e, F, d, e1, d', g, g', le, gen, r1, r2, o, q⟩ => by
  obtain ⟨rfl, a, b, ps, ds, rfl, rfl, k1, k2, k3, k4, k5, rfl, ra⟩ := sumL_rep le r1 r2 o
  refine cr_sumL hc pins s σ H xs us Q I r ⟨a, b, ps, e, k1, k2, k3, k4, k5, fun p hp => ?_⟩
  have st := Stp.lay (c := c) (o := .lst (ps.map (·.2)).flatten) le gen hp
  exact q _ _ _ st (.lst upd_same (ra.up st.sub))
/-- of what is read alone: the items no objects -/
def dSumLD (d e : D) : M D := dSumL d.un e.un >>= fun r => match r with
  | .lst xs => if xs.all D.imm then pure (.lst xs) else stuck
  | _ => stuck
theorem sumLD_c (hc : X.calm = true) : CallR X (.builtin "sum") (c2 c dSumLD) := fun pins s σ H xs us Q I r ⟨x, y, e, F, d, e1, d', g, g', le, gen, r1, r2, o, q⟩ => by
  obtain ⟨d1, g1, o1, o⟩ := ok_bind.mp o
  obtain ⟨rfl, a, b, ps, ds, rfl, rfl, k1, k2, k3, k4, k5, rfl, ra⟩ := sumL_rep (un_le le gen.bo) (unB_RepB le gen.bo r1) (unB_RepB le gen.bo r2) o1
  replace o : Ok (if ds.all D.imm then pure (D.lst ds) else stuck) g d' g' := o
  split at o
  · rename_i hi
    obtain ⟨rfl, rfl⟩ := ok_pure.mp o
    refine cr_sumL hc pins s σ H xs us Q I r ⟨a, b, ps, e, k1, k2, k3, k4, k5, fun p hp => ?_⟩
    have st := Stp.lay (c := c) (o := .lst (ps.map (·.2)).flatten) le gen hp
    exact q _ _ _ st (.lst upd_same (imms_any hi ra))
  · exact absurd o not_ok_stuck
end
end DL

/-! ## DOdd2 -/
set_option Elab.async false
set_option autoImplicit false
set_option linter.all false
set_option maxRecDepth 100000
set_option maxHeartbeats 4000000
/-! DOdd2: what a scope spoils at its end: x[..].append('odd'); for y in x[..]: y.append('odd'). -/
namespace DL
open PySem PySem.Spec PyProof.Rows L2
inductive Op where
  | one (i : Nat) (p : List Nat)
  | each (i : Nat) (p : List Nat) (j : Nat)
/-- for y in ..: y.append('odd'), y in slot j -/
def tEach (i : Nat) (p : List Nat) (j : Nat) : TS := fun D σ H => ∃ v b xs, σ[i]? = some (some v) ∧ Fol H v p (.ref b) ∧ H b = some (.lst xs) ∧ ∃ Pv : Nat → L2.St → Hp → Prop, Pv 0 σ H ∧ (∀ k σ H, k ≤ xs.length → Pv k σ H → H b = some (.lst xs)) ∧
  (∀ (k : Nat) (x : V) (σ : L2.St) (H : Hp), xs[k]? = some x → Pv k σ H → j < σ.length ∧ ∃ a ys, x = .ref a ∧ H a = some (.lst ys) ∧ ys.length < sizeLine ∧ Pv (k + 1) (σ.set j (some x)) (upd H a (.lst (ys ++ [.str "odd"])))) ∧ ∀ σ H, Pv xs.length σ H → D.nx σ H
def tOp : Op → TS
  | .one i p => tOddP i p
  | .each i p j => tEach i p j
def tOps : List Op → TS
  | [] => tNext
  | o :: r => tSeq (tOp o) (tOps r)
section
variable {X : Cx} {a b : Expr} {i j : Nat} {p : List Nat}
theorem ps_each {x : Str} {st : Stmt} {px pos : Pos} (h : PE X a (tAt i p)) (hN : X.N.Nodup) (hj : X.N[j]? = some x) (hx : Loc X.env.scope x) (hb : PS X st (tOddP j [])) (hc : X.calm = true := by rfl) (hf : X.fn x = true ∨ X.env.scope.names.lookup x = some .local := by first | exact .inl rfl | exact .inr rfl)
    (hs : ∀ x, foldedSetIterable a X.env x = pure x := by intro _; rfl) (hp : PassesOwn (model X.prog X.w) X.A X.env X.xe := by exact PassesOwn.never) : PS X (.For (.Name x px) a [st] [] pos) (tEach i p j) :=
  (ps_for hp hc (pi_list h) (pg_name (i := j) hN hj hx hf) (pss_one hb) hs).imp fun D σ H ⟨v, b, xs, e1, f, e2, Pv, h0, hl, hs, hd⟩ => by
    refine ⟨v, .ref b, e1, f, b, rfl, ⟨xs, SqL.of e2⟩, for_list (K := X.K) (a := b) (xs := xs) Pv h0 (fun k σ H hk q => SqL.of (hl k σ H hk q)) (fun k x σ H hx q => ?_) hd⟩
    obtain ⟨hj, a, ys, rfl, e3, hz, q⟩ := hs k x σ H hx q
    exact ⟨.ref a, a, ys, by rw [List.getElem?_set_self hj], .nil, e3, hz, q⟩
theorem pops_nil : PSs X [] (tOps []) := pss_nil
theorem pops_one {st : Stmt} {sts : List Stmt} {r : List Op} (h : PS X st (tOddP i p)) (t : PSs X sts (tOps r)) : PSs X (st :: sts) (tOps (.one i p :: r)) := pss_cons h t
theorem pops_each {st : Stmt} {sts : List Stmt} {r : List Op} (h : PS X st (tEach i p j)) (t : PSs X sts (tOps r)) : PSs X (st :: sts) (tOps (.each i p j :: r)) := pss_cons h t
end
/-- while things are spoilt: lists grow; those that hold objects stand, while fl -/
structure J (F1 Hs H : Hp) (fl : Bool) (k : Nat) : Prop where
  out : ∀ a, F1 a = none → H a = Hs a
  oth : ∀ a o, F1 a = some o → (∀ vs, o ≠ .lst vs) → H a = some o
  lst : ∀ a vs, F1 a = some (.lst vs) → ∃ ex, H a = some (.lst (vs ++ ex)) ∧ ex.length ≤ k ∧ (fl = true → (∃ b, V.ref b ∈ vs) → ex = [])
theorem J.start {F1 Hs : Hp} (h : Same F1 Hs) : J F1 Hs Hs true 0 := ⟨fun _ _ => rfl, fun a o e _ => h a o e, fun a vs e => ⟨[], by rw [List.append_nil]; exact h a _ e, Nat.le_refl _, fun _ _ => rfl⟩⟩
theorem J.mono {F1 Hs H : Hp} {fl : Bool} {k m : Nat} (j : J F1 Hs H fl k) (h : k ≤ m) : J F1 Hs H fl m := ⟨j.out, j.oth, fun a vs e => by
  obtain ⟨ex, e1, e2, e3⟩ := j.lst a vs e
  exact ⟨ex, e1, by omega, e3⟩⟩
theorem J.drop {F1 Hs H : Hp} {fl : Bool} {k : Nat} (j : J F1 Hs H fl k) : J F1 Hs H false k := ⟨j.out, j.oth, fun a vs e => by
  obtain ⟨ex, e1, e2, _⟩ := j.lst a vs e
  exact ⟨ex, e1, e2, fun z => nomatch z⟩⟩
theorem J.grow {F1 Hs H : Hp} {fl : Bool} {k : Nat} {b : Addr} {vs ex : List V} (j : J F1 Hs H fl k) (hb : F1 b = some (.lst vs)) (hH : H b = some (.lst (vs ++ ex))) (he : ex.length ≤ k) (hf : fl = true → ¬ ∃ a, V.ref a ∈ vs) : J F1 Hs (upd H b (.lst ((vs ++ ex) ++ [.str "odd"]))) fl (k + 1) := by
  refine ⟨fun a ha => ?_, fun a o e n => ?_, fun a us e => ?_⟩
  · rw [upd_ne (fun z => by rw [z, hb] at ha; cases ha)]
    exact j.out a ha
  · rw [upd_ne (fun z => by rw [z, hb] at e; cases e; exact n vs rfl)]
    exact j.oth a o e n
  · by_cases h : a = b
    · subst h
      rw [hb] at e
      cases e
      exact ⟨ex ++ [.str "odd"], by rw [upd_same, List.append_assoc], by simp; omega, fun z q => absurd q (hf z)⟩
    · obtain ⟨ex', e1, e2, e3⟩ := j.lst a us e
      exact ⟨ex', by rw [upd_ne h]; exact e1, by omega, e3⟩
section
variable {c : C} {F1 Hs H : Hp} {fl : Bool} {k : Nat}
theorem flat_noref : ∀ {ds : List D} {vs : List V}, ds.all D.imm = true → RepAll c F1 vs ds → ¬ ∃ a, V.ref a ∈ vs
  | [], _, _, r => by cases r; simp
  | d :: ds, _, h, r => by
    cases r with
    | cons r1 r2 =>
      rw [List.all_cons, Bool.and_eq_true] at h
      rintro ⟨a, ha⟩
      rcases List.mem_cons.mp ha with e | ha
      · have := h.1
        subst e
        cases d <;> first | (cases this; done) | cases r1
      · exact flat_noref h.2 r2 ⟨a, ha⟩
theorem j_fol {v : V} {d : D} (j : J F1 Hs H fl k) (r : Rep c F1 v d) : ∀ {p : List Nat} {e : D}, dfol d p = some e → ∃ w, Fol H v p w ∧ Rep c F1 w e
  | [], e, h => by cases h; exact ⟨v, .nil, r⟩
  | q :: p, e, h => by
    obtain ⟨e1, h1, h2⟩ := Option.bind_eq_some_iff.mp h
    obtain ⟨w, f, rw'⟩ := j_fol j r h1
    cases e1 with
    | lst xs =>
      cases rw' with
      | @lst _ a vs _ e2 ra =>
        obtain ⟨u, q1, q2⟩ := ra.get h2
        obtain ⟨ex, e3, _⟩ := j.lst a vs e2
        exact ⟨u, .step f (.inl e3) (by rw [List.getElem?_append_left (List.getElem?_eq_some_iff.mp q1).1]; exact q1), q2⟩
    | tup xs =>
      cases rw' with
      | @tup _ a vs _ e2 ra =>
        obtain ⟨u, q1, q2⟩ := ra.get h2
        exact ⟨u, .step f (.inr (j.oth a _ e2 fun _ z => nomatch z)) q1, q2⟩
    | _ => cases h2
end
def flatL (d : D) : Bool := match d with
  | .lst ys => decide (ys.length ≤ 1000000) && ys.all D.imm
  | _ => false
def stepOp (fl : Bool) (δ : Dlt) : Op → Option Dlt
  | .one i p => match δ[i]? with
    | some (.val d) => match dfol d p with
      | some (.lst e) => if e.length ≤ 1000000 ∧ (!fl || e.all D.imm) = true then some δ else none
      | _ => none
    | _ => none
  | .each i p j => match δ[i]? with
    | some (.val d) => match dfol d p with
      | some (.lst (e :: es)) => if fl = true ∧ j < δ.length ∧ es.length ≤ 1000 ∧ (e :: es).all flatL = true then some (δ.set j .no) else none
      | _ => none
    | _ => none
def goOps (fl : Bool) : Dlt → List Op → Option Dlt
  | δ, [] => some δ
  | δ, o :: r => (stepOp fl δ o).bind fun δ' => goOps fl δ' r
def sOps (o1 o2 : List Op) : S := fun δ => if o1.length + o2.length ≤ 1000 then match (goOps true δ o1).bind fun δ' => goOps false δ' o2 with
  | some δ' => pure (.nx (δ'.map unSl))
  | none => stuck else stuck
section
variable {c : C} {F HE F1 Hs H : Hp} {g : Gs} {fl : Bool} {k : Nat} {De : Ends}
theorem op_run {o : Op} {σ : L2.St} {δ δ' : Dlt} (w : Wd (Cin c F) HE F1 Hs σ δ g) (j : J F1 Hs H fl k) (hk : k ≤ 10000000) (h : stepOp fl δ o = some δ') (rest : ∀ σ' H', Wd (Cin c F) HE F1 Hs σ' δ' g → J F1 Hs H' fl (k + 1001) → De.nx σ' H') : tOp o De σ H := by
  cases o with
  | one i p =>
    unfold stepOp at h
    dsimp only at h
    split at h
    · rename_i d hd
      split at h
      · rename_i e he
        split at h
        · rename_i hc
          cases h
          obtain ⟨v, e1, r⟩ := w.val _ _ hd
          obtain ⟨u, f, r2⟩ := j_fol j r he
          cases r2 with
          | @lst _ b vs _ eb rb =>
            obtain ⟨ex, e3, e4, e5⟩ := j.lst b vs eb
            have lv := rb.length
            refine ⟨v, b, vs ++ ex, e1, f, e3, ?_, rest _ _ w ((j.grow eb e3 e4 fun z => ?_).mono (by omega))⟩
            · rw [List.length_append, sizeLine_eq]; omega
            · subst z
              exact flat_noref (by simpa using hc.2) rb
        · cases h
      · cases h
    · cases h
  | each i p jj =>
    unfold stepOp at h
    dsimp only at h
    split at h
    · rename_i d hd
      split at h
      · rename_i e es he
        split at h
        · rename_i hc
          obtain ⟨rfl, hj, hes, hall⟩ := hc
          cases h
          obtain ⟨v, e1, r⟩ := w.val _ _ hd
          obtain ⟨u, f, r2⟩ := j_fol j r he
          cases r2 with
          | @lst _ b vs _ eb rb =>
            have lv := rb.length
            have hasref : ∃ a, V.ref a ∈ vs := by
              have h0 := hall
              rw [List.all_cons, Bool.and_eq_true] at h0
              cases rb with
              | cons r1 _ =>
                cases e <;> first | (simp [flatL] at h0; done) | (cases r1 with | lst _ _ => exact ⟨_, List.mem_cons_self⟩)
            obtain ⟨ex, e3, e4, e5⟩ := j.lst b vs eb
            rw [e5 rfl hasref, List.append_nil] at e3
            have hj' : jj < σ.length := by rw [← w.len]; exact hj
            refine ⟨v, b, vs, e1, f, e3, fun n σ' H' => Wd (Cin c F) HE F1 Hs σ' (δ.set jj .no) g ∧ J F1 Hs H' true (k + n), ⟨?_, j⟩, fun n σ' H' _ q => ?_, fun n x σ' H' hx q => ?_, fun σ' H' q => rest σ' H' q.1 (q.2.mono (by rw [lv]; simp; omega))⟩
            · have := w.forget (i := jj) (x := σ[jj])
              rwa [List.set_getElem_self] at this
            · obtain ⟨ex', e6, _, e8⟩ := q.2.lst b vs eb
              rw [e8 rfl hasref, List.append_nil] at e6
              exact e6
            · obtain ⟨w', j'⟩ := q
              obtain ⟨dx, hdx, rx⟩ := rb.getV hx
              have hn : n < vs.length := (List.getElem?_eq_some_iff.mp hx).1
              have fx := List.all_eq_true.mp hall dx (List.mem_of_getElem? hdx)
              unfold flatL at fx
              split at fx
              · rename_i ys
                rw [Bool.and_eq_true, decide_eq_true_eq] at fx
                cases rx with
                | @lst _ a us _ ea ra =>
                  obtain ⟨ex', e6, e7, _⟩ := j'.lst a us ea
                  have lu := ra.length
                  refine ⟨by rw [← w'.len, List.length_set]; exact hj, a, us ++ ex', rfl, e6, ?_, ?_, (j'.grow ea e6 e7 fun _ => flat_noref fx.2 ra).mono (by omega)⟩
                  · rw [List.length_append, sizeLine_eq]
                    simp at lv
                    omega
                  · have := w'.forget (i := jj) (x := some (V.ref a))
                    rwa [List.set_set] at this
              · cases fx
        · cases h
      · cases h
    · cases h
theorem ops_run : ∀ {os : List Op} {σ : L2.St} {δ δ' : Dlt} {H : Hp} {k : Nat} {r : List Op}, Wd (Cin c F) HE F1 Hs σ δ g → J F1 Hs H fl k → k + 1001 * os.length ≤ 10000000 → goOps fl δ os = some δ' →
    (∀ σ' H', Wd (Cin c F) HE F1 Hs σ' δ' g → J F1 Hs H' fl (k + 1001 * os.length) → tOps r De σ' H') → tOps (os ++ r) De σ H
  | [], σ, δ, δ', H, k, r, w, j, _, h, rest => by
    cases h
    exact rest σ H w j
  | o :: os, σ, δ, δ', H, k, r, w, j, hk, h, rest => by
    obtain ⟨δ1, h1, h2⟩ := Option.bind_eq_some_iff.mp h
    rw [List.length_cons] at hk
    refine op_run (De := { De with nx := tOps (os ++ r) De }) w j (by omega) h1 fun σ' H' w' j' => ?_
    exact ops_run (k := k + 1001) w' j' (by omega) h2 fun σ'' H'' w'' j'' => rest σ'' H'' w'' (j''.mono (by rw [List.length_cons]; omega))
end
section
variable {X : Cx} {c : C} {sts : List Stmt} {o1 o2 : List Op}
theorem dSS_ops (h : PSs X sts (tOps (o1 ++ (o2 ++ [])))) : PSs X sts (tSS c (sOps o1 o2)) := h.imp fun D σ H ⟨F0, H0, F, HE, gE, F1, δ, g, r, g', so, hb, w, si, o, q⟩ => by
  unfold sOps at o
  split at o
  · rename_i hc
    split at o
    · rename_i δ2 hg
      obtain ⟨rfl, rfl⟩ := ok_pure.mp o
      obtain ⟨δ1, h1, h2⟩ := Option.bind_eq_some_iff.mp hg
      refine ops_run (De := D) w (J.start w.le) (by omega) h1 fun σ1 H1 w1 j1 => ?_
      refine ops_run (De := D) (r := []) w1 j1.drop (by omega) h2 fun σ2 H2 w2 j2 => ?_
      obtain ⟨w', s'⟩ := scope_out so hb w2 si j2.out
      exact q σ2 H2 w' s'
    · exact absurd o not_ok_stuck
  · exact absurd o not_ok_stuck
end
end DL

/-! ## FK78 -/
set_option Elab.async false
set_option autoImplicit false
set_option linter.all false
set_option maxRecDepth 100000
set_option maxHeartbeats 4000000
namespace K78
open PySem DL
def errs : List Str := ["InvalidClues"]
/-- is_whole: 0 value -/
def f_is_whole : List D → M D := fn 1 1 (sRet (eAnd (eF (fun d => dIsI d "int") (eV 0)) (eF dNot (eF (fun d => dIsI d "bool") (eV 0)))))
/-- is_count: 0 value -/
def f_is_count : List D → M D := fn 1 1 (sRet (eAnd (eCall f_is_whole (esC (eW 0) (esN))) (eO dGe (eV 0) (eK (.int 0)))))
/-- ascends: 0 items, 1 at -/
def f_ascends : List D → M D := fn 2 1 (sRet (eO dEq (eLc [1] (gN 1) (xR2 (eK (.int 1)) (eF dLen (eV 0))) (eO dGe (eO dIx (eV 0) (eO dSub (eV 1) (eK (.int 1)))) (eO dIx (eV 0) (eV 1))) (eW 1)) (eLst (esN))))
/-- are_figures: 0 value, 1 figure -/
def f_are_figures : List D → M D := fn 2 1 (sSeq (sIf (eOr (eF dNot (eF (fun d => dIsI d "list") (eV 0))) (eOr (eO dEq (eV 0) (eLst (esN))) (eF dNot (eF dAll (eLc [1] (gN 1) (xL (eW 0)) (eK (.bl true)) (eAnd (eCall f_is_count (esC (eW 1) (esN))) (eO dLt (eV 1) (eK (.int 10))))))))) (sRet (eK (.bl false))) (sSkip)) (sRet (eCall f_ascends (esC (eW 0) (esN)))))
/-- are_wheels: 0 value, 1 figures -/
def f_are_wheels : List D → M D := fn 2 1 (sRet (eAnd (eF (fun d => dIsI d "list") (eV 0)) (eAnd (eO dNe (eV 0) (eLst (esN))) (eF dAll (eLc [1] (gN 1) (xL (eW 0)) (eK (.bl true)) (eCall f_are_figures (esC (eW 1) (esN))))))))
/-- check_wheels: 0 wheels -/
def f_check_wheels : List D → M D := fn 1 1 (sIf (eF dNot (eCall f_are_wheels (esC (eW 0) (esN)))) ((fun _ => stuck)) (sSkip))
/-- check_wheels: 0 wheels, raising -/
def fx_check_wheels : List D → M D := fn 1 1 (sIf (eF dNot (eCall f_are_wheels (esC (eW 0) (esN)))) (sThr "InvalidClues" (eW 0)) (sSkip))
/-- code_fits: 0 wheels, 1 value, 2 figure, 3 figures -/
def f_code_fits : List D → M D := fn 4 2 (sSeq (sIf (eOr (eF dNot (eF (fun d => dIsI d "list") (eV 1))) (eOr (eO dNe (eF dLen (eV 1)) (eF dLen (eV 0))) (eF dNot (eF dAll (eLc [2] (gN 2) (xL (eW 1)) (eK (.bl true)) (eCall f_is_count (esC (eW 2) (esN)))))))) (sRet (eK (.bl false))) (sSkip)) (sRet (eF dAll (eLc [2, 3] (gT [gN 2, gN 3]) (xZs (eW 1) (eW 0)) (eK (.bl true)) (eO dIn (eV 2) (eV 3))))))
/-- all_codes: 0 wheels, 1 found, 2 figures, 3 code, 4 figure -/
def f_all_codes : List D → M D := fn 5 1 (sSeq (sAsg (gN 1) (eLst (esC (eLst (esN)) (esN)))) (sSeq (sFor (gN 2) (xL (eW 0)) (sAsg (gN 1) (eLc2 [3, 4] [4] (gN 3) (xL (eW 1)) (eK (.bl true)) (gN 4) (xL (eW 2)) (eK (.bl true)) (eO dAdd (eV 3) (eLst (esC (eW 4) (esN))))))) (sRet (eW 1))))
/-- right_in: 0 code, 1 other, 2 figure, 3 late -/
def f_right_in : List D → M D := fn 4 2 (sRet (eF dLen (eLc [2, 3] (gT [gN 2, gN 3]) (xZs (eW 0) (eW 1)) (eO dEq (eV 2) (eV 3)) (eW 2))))
/-- is_wheel_of: 0 wheels, 1 value -/
def f_is_wheel_of : List D → M D := fn 2 2 (sRet (eAnd (eCall f_is_count (esC (eW 1) (esN))) (eO dLt (eV 1) (eF dLen (eV 0)))))
/-- clue_fits: 0 wheels, 1 value -/
def f_clue_fits : List D → M D := fn 2 2 (sSeq (sIf (eOr (eF dNot (eF (fun d => dIsI d "tuple") (eV 1))) (eOr (eO dEq (eV 1) (eTup (esN))) (eF dNot (eF (fun d => dIsI d "str") (eO dIx (eV 1) (eK (.int 0))))))) (sRet (eK (.bl false))) (sSkip)) (sSeq (sIf (eO dEq (eO dIx (eV 1) (eK (.int 0))) (eK (.str "sum"))) (sRet (eAnd (eO dEq (eF dLen (eV 1)) (eK (.int 2))) (eCall f_is_count (esC (eO dIx (eV 1) (eK (.int 1))) (esN))))) (sSkip)) (sSeq (sIf (eO dNe (eF dLen (eV 1)) (eK (.int 3))) (sRet (eK (.bl false))) (sSkip)) (sSeq (sIf (eO dEq (eO dIx (eV 1) (eK (.int 0))) (eK (.str "right"))) (sRet (eAnd (eCall f_code_fits (esC (eW 0) (esC (eO dIx (eV 1) (eK (.int 1))) (esN)))) (eCall f_is_count (esC (eO dIx (eV 1) (eK (.int 2))) (esN))))) (sSkip)) (sSeq (sIf (eO dEq (eO dIx (eV 1) (eK (.int 0))) (eK (.str "among"))) (sRet (eAnd (eCall f_is_wheel_of (esC (eW 0) (esC (eO dIx (eV 1) (eK (.int 1))) (esN)))) (eCall f_are_figures (esC (eO dIx (eV 1) (eK (.int 2))) (esN))))) (sSkip)) (sSeq (sIf (eO dEq (eO dIx (eV 1) (eK (.int 0))) (eK (.str "less"))) (sRet (eAnd (eCall f_is_wheel_of (esC (eW 0) (esC (eO dIx (eV 1) (eK (.int 1))) (esN)))) (eAnd (eCall f_is_wheel_of (esC (eW 0) (esC (eO dIx (eV 1) (eK (.int 2))) (esN)))) (eO dNe (eO dIx (eV 1) (eK (.int 1))) (eO dIx (eV 1) (eK (.int 2))))))) (sSkip)) (sRet (eK (.bl false)))))))))
/-- check_clues: 0 wheels, 1 clues, 2 clue -/
def f_check_clues : List D → M D := fn 3 2 (sSeq (sDo (eCall f_check_wheels (esC (eW 0) (esN)))) (sIf (eOr (eF dNot (eF (fun d => dIsI d "list") (eV 1))) (eF dNot (eF dAll (eLc [2] (gN 2) (xL (eW 1)) (eK (.bl true)) (eCall f_clue_fits (esC (eW 0) (esC (eW 2) (esN)))))))) ((fun _ => stuck)) (sSkip)))
/-- check_clues: 0 wheels, 1 clues, 2 clue, raising -/
def fx_check_clues : List D → M D := fn 3 2 (sSeq (sDoX fx_check_wheels (esC (eW 0) (esN))) (sIf (eOr (eF dNot (eF (fun d => dIsI d "list") (eV 1))) (eF dNot (eF dAll (eLc [2] (gN 2) (xL (eW 1)) (eK (.bl true)) (eCall f_clue_fits (esC (eW 0) (esC (eW 2) (esN)))))))) (sThr "InvalidClues" (eW 1)) (sSkip)))
/-- does_fit_clue: 0 code, 1 clue -/
def f_does_fit_clue : List D → M D := fn 2 2 (sSeq (sIf (eO dEq (eO dIx (eV 1) (eK (.int 0))) (eK (.str "right"))) (sRet (eO dEq (eCall f_right_in (esC (eW 0) (esC (eO dIx (eV 1) (eK (.int 1))) (esN)))) (eO dIx (eV 1) (eK (.int 2))))) (sSkip)) (sSeq (sIf (eO dEq (eO dIx (eV 1) (eK (.int 0))) (eK (.str "sum"))) (sRet (eO dEq (eF dSum (eV 0)) (eO dIx (eV 1) (eK (.int 1))))) (sSkip)) (sSeq (sIf (eO dEq (eO dIx (eV 1) (eK (.int 0))) (eK (.str "among"))) (sRet (eO dIn (eO dIx (eV 0) (eO dIx (eV 1) (eK (.int 1)))) (eO dIx (eV 1) (eK (.int 2))))) (sSkip)) (sRet (eO dLt (eO dIx (eV 0) (eO dIx (eV 1) (eK (.int 1)))) (eO dIx (eV 0) (eO dIx (eV 1) (eK (.int 2)))))))))
/-- left_by_clues: 0 wheels, 1 clues, 2 code, 3 clue -/
def f_left_by_clues : List D → M D := fn 4 2 (sRet (eLc [2] (gN 2) (xL (eCall f_all_codes (esC (eW 0) (esN)))) (eF dUw (eF (hU dAll) (eLc [3] (gN 3) (xL (eW 1)) (eK (.bl true)) (eCallD f_does_fit_clue (esC (eW 2) (esC (eW 3) (esN))))))) (eW 2)))
/-- codes_left: 0 wheels, 1 clues -/
def f_codes_left : List D → M D := fn 2 2 (sSeq (sDo (eCall f_check_clues (esC (eW 0) (esC (eW 1) (esN))))) (sRet (eF dLen (eCall f_left_by_clues (esC (eW 0) (esC (eW 1) (esN)))))))
/-- needless_clues: 0 wheels, 1 clues, 2 left, 3 at -/
def f_needless_clues : List D → M D := fn 4 2 (sSeq (sDo (eCallD f_check_clues (esC (eW 0) (esC (eW 1) (esN))))) (sSeq (sAsg (gN 2) (eCall f_left_by_clues (esC (eW 0) (esC (eW 1) (esN))))) (sRet (eLc [3] (gN 3) (xR (eF dUw (eF (hU dLen) (eF dUw (eW 1))))) (eO (hI dEq) (eF dUw (eCall f_left_by_clues (esC (eW 0) (esC (eO dAdd (eF dUw (eCut (eF dUw (eW 1)) (eNo) (eAt (eF dUw (eW 3))))) (eF dUw (eCut (eF dUw (eW 1)) (eAt (eO dAdd (eF dUw (eW 3)) (eK (.int 1)))) (eNo)))) (esN))))) (eF dUw (eW 2))) (eW 3)))))
/-- needless_clues: 0 wheels, 1 clues, 2 left, 3 at, raising -/
def fx_needless_clues : List D → M D := fn 4 2 (sSeq (sDoX fx_check_clues (esC (eW 0) (esC (eW 1) (esN)))) (sSeq (sAsg (gN 2) (eCall f_left_by_clues (esC (eW 0) (esC (eW 1) (esN))))) (sRet (eLc [3] (gN 3) (xR (eF dUw (eF (hU dLen) (eF dUw (eW 1))))) (eO (hI dEq) (eF dUw (eCall f_left_by_clues (esC (eW 0) (esC (eO dAdd (eF dUw (eCut (eF dUw (eW 1)) (eNo) (eAt (eF dUw (eW 3))))) (eF dUw (eCut (eF dUw (eW 1)) (eAt (eO dAdd (eF dUw (eW 3)) (eK (.int 1)))) (eNo)))) (esN))))) (eF dUw (eW 2))) (eW 3)))))
/-- positions_of_size: 0 many, 1 size, 2 found, 3 turn, 4 some, 5 at -/
def f_positions_of_size : List D → M D := fn 6 2 (sSeq (sAsg (gN 2) (eLst (esC (eLst (esN)) (esN)))) (sSeq (sFor (gN 3) (xR (eV 1)) (sAsg (gN 2) (eLc2 [4, 5] [5] (gN 4) (xL (eW 2)) (eK (.bl true)) (gN 5) (xR2 (eIf (eO dNe (eV 4) (eLst (esN))) (eO dAdd (eO dIx (eV 4) (eF dNeg (eK (.int 1)))) (eK (.int 1))) (eK (.int 0))) (eV 0)) (eK (.bl true)) (eO dAdd (eV 4) (eLst (esC (eW 5) (esN))))))) (sRet (eW 2))))
/-- least_clues: 0 wheels, 1 clues, 2 left, 3 size, 4 lists, 5 found, 6 some, 7 at -/
def f_least_clues : List D → M D := fn 8 2 (sSeq (sDo (eCallD f_check_clues (esC (eW 0) (esC (eW 1) (esN))))) (sSeq (sAsg (gN 2) (eCall f_left_by_clues (esC (eW 0) (esC (eW 1) (esN))))) (sSeq (sFor (gN 3) (xR (eO dAdd (eF dUw (eF (hU dLen) (eF dUw (eW 1)))) (eK (.int 1)))) (sSeq (sAsg (gN 4) (eCall f_positions_of_size (esC (eF (hU dLen) (eF dUw (eW 1))) (esC (eW 3) (esN))))) (sSeq (sAsg (gN 5) (eLc [6] (gN 6) (xL (eW 4)) (eO (hI dEq) (eF dUw (eCall f_left_by_clues (esC (eW 0) (esC (eLc [7] (gN 7) (xL (eW 6)) (eK (.bl true)) (eO dIx (eF dUw (eW 1)) (eF dUw (eW 7)))) (esN))))) (eF dUw (eW 2))) (eW 6))) (sIf (eO (hI dNe) (eF dUw (eW 5)) (eLst (esN))) (sRet (eW 5)) (sSkip))))) (sRet (eLst (esN))))))
/-- least_clues: 0 wheels, 1 clues, 2 left, 3 size, 4 lists, 5 found, 6 some, 7 at, raising -/
def fx_least_clues : List D → M D := fn 8 2 (sSeq (sDoX fx_check_clues (esC (eW 0) (esC (eW 1) (esN)))) ((fun _ => stuck)))
/-- _law_hash: 0 seed, 1 index, 2 mixed -/
def f_law_hash : List D → M D := fn 3 2 (sSeq (sAsg (gN 2) (eO dMod (eF dInt (eO dAdd (eO dAdd (eO dAdd (eO dMul (eV 0) (eK (.int 1140671))) (eO dMul (eO dMul (eK (.int 27644437)) (eV 1)) (eV 1))) (eO dMul (eK (.int 131)) (eV 1))) (eK (.int 19)))) (eK (.int 2147483629)))) (sSeq (sAsg (gN 2) (eO dMod (eF dInt (eO dAdd (eO dAdd (eO dMul (eV 2) (eV 2)) (eO dMul (eK (.int 62089)) (eV 1))) (eK (.int 32416187)))) (eK (.int 2147483587)))) (sRet (eO dMod (eF dInt (eO dMul (eV 2) (eK (.int 48271)))) (eK (.int 2147483647))))))
/-- _law_random: 0 generator, 1 bound, 2 drawn, 3 turn -/
def f_law_random : List D → M D := fn 4 2 (sSeq (sIf (eO dGt (eG 0 0) (eK (.int 0))) (sSeq (sAsg (gN 2) (eO dMod (eF dInt (eG 0 0)) (eV 1))) (sSeq (sG 0 0 (eO dFdiv (eG 0 0) (eV 1))) (sRet (eW 2)))) (sSkip)) (sSeq (sAsg (gN 2) (eK (.int 0))) (sSeq (sFor (gN 3) (xR (eO dAdd (eK (.int 1)) (eO dFdiv (eF dBits (eV 1)) (eK (.int 30))))) (sSeq (sG 0 2 (eO dAdd (eG 0 2) (eK (.int 1)))) (sAsg (gN 2) (eO dAdd (eO dMul (eV 2) (eK (.int 2147483587))) (eCall f_law_hash (esC (eG 0 1) (esC (eG 0 2) (esN)))))))) (sRet (eO dMod (eF dInt (eV 2)) (eV 1))))))
/-- _law_pick: 0 generator, 1 things -/
def f_law_pick : List D → M D := fn 2 2 (sRet (eO dIx (eF dUw (eW 1)) (eF dUw (eCall f_law_random (esC (eW 0) (esC (eF (hU dLen) (eF dUw (eW 1))) (esN)))))))
/-- _law_same: 0 found, 1 due, 2 one, 3 other, 4 name -/
def f_law_same : Nat → List D → M D
  | 0 => fun _ => stuck
  | n + 1 => fn 5 2 (sSeq (sIf (eF (fun d => dIsI2 d "list" "tuple") (eV 1)) (sSeq (sIf (eOr (eO dNe (eF (fun d => dIsI d "list") (eV 0)) (eF (fun d => dIsI d "list") (eV 1))) (eO dNe (eF (fun d => dIsI d "tuple") (eV 0)) (eF (fun d => dIsI d "tuple") (eV 1)))) (sRet (eK (.bl false))) (sSkip)) (sRet (eAnd (eO dEq (eF dLen (eV 0)) (eF dLen (eV 1))) (eF dAll (eLc [2, 3] (gT [gN 2, gN 3]) (xZ (eW 0) (eW 1)) (eK (.bl true)) (eCall (f_law_same n) (esC (eW 2) (esC (eW 3) (esN))))))))) (sSkip)) (sSeq (sIf (eF (fun d => dIsI d "dict") (eV 1)) (sSeq (sIf (eOr (eF dNot (eF (fun d => dIsI d "dict") (eV 0))) (eO dNe (eF dLen (eV 0)) (eF dLen (eV 1)))) (sRet (eK (.bl false))) (sSkip)) (sRet (eF dAll (eLc [4] (gN 4) (xL (eW 1)) (eK (.bl true)) (eAnd (eO dIn (eV 4) (eV 0)) (eCall (f_law_same n) (esC (eO dIx (eV 0) (eV 4)) (esC (eO dIx (eV 1) (eV 4)) (esN))))))))) (sSkip)) (sSeq (sIf (eF (fun d => dIsI d "str") (eV 1)) (sRet (eAnd (eF (fun d => dIsI d "str") (eV 0)) (eO dEq (eV 0) (eV 1)))) (sSkip)) (sSeq (sIf (eF dIsN (eV 1)) (sRet (eF dIsN (eV 0))) (sSkip)) (sRet (eAnd (eF (fun d => dIsI d "int") (eV 0)) (eAnd (eO dEq (eF (fun d => dIsI d "bool") (eV 0)) (eF (fun d => dIsI d "bool") (eV 1))) (eO dEq (eV 0) (eV 1)))))))))
/-- _law_shuffled: 0 generator, 1 things, 2 left, 3 found -/
def f_law_shuffled : List D → M D := fn 4 2 (sSeq (sParOO 2 3 (eF dList (eV 1)) (eLst (esN))) (sSeq (sWh 1000 (eO dNe (eV 2) (eLst (esN))) (sAppPop 3 2 (eCall f_law_random (esC (eW 0) (esC (eF dLen (eV 2)) (esN)))))) (sSeq (sFrz 3) (sRet (eW 3)))))
/-- _law_wheels: 0 generator, 1 most, 2 codes, 3 found, 4 product, 5 turn, 6 figures -/
def f_law_wheels : List D → M D := fn 7 3 (sSeq (sPar 3 4 (eLst (esN)) (eK (.int 1))) (sSeq (sFor (gN 5) (xR (eO dAdd (eK (.int 1)) (eCall f_law_random (esC (eW 0) (esC (eW 1) (esN)))))) (sSeq (sAsg (gN 6) (eF dSorted (eCut (eCall f_law_shuffled (esC (eW 0) (esC (eLst (esC (eK (.int 0)) (esC (eK (.int 1)) (esC (eK (.int 2)) (esC (eK (.int 3)) (esC (eK (.int 4)) (esC (eK (.int 5)) (esC (eK (.int 6)) (esC (eK (.int 7)) (esC (eK (.int 8)) (esC (eK (.int 9)) (esN)))))))))))) (esN)))) (eNo) (eAt (eO dAdd (eK (.int 1)) (eCall f_law_random (esC (eW 0) (esC (eK (.int 5)) (esN))))))))) (sIf (eO dLe (eO dMul (eV 4) (eF dLen (eV 6))) (eV 2)) (sPar 3 4 (eO dAdd (eV 3) (eLst (esC (eW 6) (esN)))) (eO dMul (eV 4) (eF dLen (eV 6)))) (sSkip)))) (sRet (eIf (eO dNe (eV 3) (eLst (esN))) (eW 3) (eLst (esC (eLst (esC (eK (.int 7)) (esN))) (esN)))))))
/-- _law_codes: 0 wheels, 1 found, 2 figures, 3 longer, 4 code, 5 figure -/
def f_law_codes : List D → M D := fn 6 1 (sSeq (sAsg (gN 1) (eLst (esC (eLst (esN)) (esN)))) (sSeq (sFor (gN 2) (xL (eW 0)) (sSeq (sAsg (gN 3) (eLst (esN))) (sSeq (sFor (gN 4) (xL (eW 1)) (sAsg (gN 3) (eO dAdd (eV 3) (eLc [5] (gN 5) (xL (eW 2)) (eK (.bl true)) (eO dAdd (eV 4) (eLst (esC (eW 5) (esN)))))))) (sAsg (gN 1) (eW 3))))) (sRet (eW 1))))
/-- _law_alike: 0 code, 1 other, 2 at, 3 figure -/
def f_law_alike : List D → M D := fn 4 2 (sRet (eF dLen (eLc [2, 3] (gT [gN 2, gN 3]) (xE (eW 0)) (eO dEq (eV 3) (eO dIx (eV 1) (eV 2))) (eW 2))))
/-- _law_no_wheels: 0 wheels, 1 found -/
def f_law_no_wheels : List D → M D := fn 2 1 (sSeq (sAsg (gN 1) (eLst (esC (eK .non) (esC (eLst (esN)) (esC (eTup (esN)) (esC (eK (.dct [])) (esC (eK (.str "wheels")) (esC (eF dTuple (eV 0)) (esC (eO dAdd (eV 0) (eLst (esC (eLst (esN)) (esN)))) (esC (eO dAdd (eV 0) (eLst (esC (eK .non) (esN)))) (esC (eO dAdd (eV 0) (eLst (esC (eTup (esC (eK (.int 1)) (esC (eK (.int 2)) (esN)))) (esN)))) (esC (eO dAdd (eV 0) (eLst (esC (eLst (esC (eK (.int 2)) (esC (eK (.int 1)) (esN)))) (esN)))) (esC (eO dAdd (eV 0) (eLst (esC (eLst (esC (eK (.int 1)) (esC (eK (.int 1)) (esN)))) (esN)))) (esC (eO dAdd (eV 0) (eLst (esC (eLst (esC (eK (.int 10)) (esN))) (esN)))) (esC (eO dAdd (eV 0) (eLst (esC (eLst (esC (eO dSub (eK (.int 0)) (eK (.int 1))) (esN))) (esN)))) (esC (eO dAdd (eV 0) (eLst (esC (eLst (esC (eK (.bl true)) (esN))) (esN)))) (esC (eO dAdd (eV 0) (eLst (esC (eLst (esC (eK (.str "1")) (esN))) (esN)))) (esC (eLst (esC (eK (.int 3)) (esN))) (esC (eO dAdd (eLst (esC (eLst (esC (eK .non) (esN))) (esN))) (eV 0)) (esN)))))))))))))))))))) (sRet (eO dAdd (eV 1) (eLst (esC (eO dAdd (eCut (eV 0) (eNo) (eAt (eF dNeg (eK (.int 1))))) (eLst (esC (eLst (esC (eK (.int 1)) (esC (eK (.int 2)) (esC (eK (.int 10)) (esN))))) (esN)))) (esC (eO dAdd (eLst (esC (eLst (esC (eK (.int 0)) (esC (eK (.int 9)) (esC (eK (.int 5)) (esN))))) (esN))) (eV 0)) (esC (eO dAdd (eV 0) (eLst (esC (eLst (esC (eK (.int 0)) (esC (eK .non) (esN)))) (esN)))) (esN))))))))
/-- _law_is_count: 0 value -/
def f_law_is_count : List D → M D := fn 1 1 (sRet (eAnd (eF (fun d => dIsI d "int") (eV 0)) (eAnd (eF dNot (eF (fun d => dIsI d "bool") (eV 0))) (eO dGe (eV 0) (eK (.int 0))))))
/-- _law_is_code: 0 wheels, 1 value, 2 figure, 3 at -/
def f_law_is_code : List D → M D := fn 4 2 (sSeq (sIf (eOr (eF dNot (eF (fun d => dIsI d "list") (eV 1))) (eOr (eO dNe (eF dLen (eV 1)) (eF dLen (eV 0))) (eO dNe (eLc [2] (gN 2) (xL (eW 1)) (eF dNot (eCall f_law_is_count (esC (eW 2) (esN)))) (eW 2)) (eLst (esN))))) (sRet (eK (.bl false))) (sSkip)) (sRet (eO dEq (eLc [3, 2] (gT [gN 3, gN 2]) (xE (eW 1)) (eO dNotIn (eV 2) (eO dIx (eV 0) (eV 3))) (eW 3)) (eLst (esN)))))
/-- _law_clue: 0 generator, 1 wheels, 2 hidden, 3 way, 4 wheel, 5 code, 6 other, 7 figures, 8 late -/
def f_law_clue : List D → M D := fn 9 3 (sSeq (sAsg (gT [gN 3, gN 4]) (eTup (esC (eCall f_law_random (esC (eW 0) (esC (eK (.int 4)) (esN)))) (esC (eCall f_law_random (esC (eW 0) (esC (eF dLen (eV 1)) (esN)))) (esN))))) (sSeq (sAsg (gN 5) (eLc [7] (gN 7) (xL (eW 1)) (eK (.bl true)) (eCall f_law_pick (esC (eW 0) (esC (eW 7) (esN)))))) (sSeq (sIf (eOr (eO dEq (eV 3) (eK (.int 0))) (eAnd (eO dLt (eF dLen (eV 1)) (eK (.int 2))) (eO dEq (eV 3) (eK (.int 3))))) (sRet (eTup (esC (eK (.str "right")) (esC (eW 5) (esC (eIf (eO dGt (eCall f_law_random (esC (eW 0) (esC (eK (.int 4)) (esN)))) (eK (.int 0))) (eCall f_law_alike (esC (eW 5) (esC (eW 2) (esN)))) (eCall f_law_random (esC (eW 0) (esC (eO dAdd (eF dLen (eV 1)) (eK (.int 2))) (esN))))) (esN)))))) (sSkip)) (sSeq (sIf (eO dEq (eV 3) (eK (.int 1))) (sRet (eTup (esC (eK (.str "sum")) (esC (eO dAdd (eF dSum (eV 2)) (eCall f_law_pick (esC (eW 0) (esC (eLst (esC (eK (.int 0)) (esC (eK (.int 0)) (esC (eK (.int 0)) (esC (eK (.int 1)) (esN)))))) (esN))))) (esN))))) (sSkip)) (sSeq (sIf (eO dEq (eV 3) (eK (.int 2))) (sRet (eTup (esC (eK (.str "among")) (esC (eW 4) (esC (eF dSortSet (eO dAdd (eO dMul (eLst (esC (eO dIx (eV 2) (eV 4)) (esN))) (eCall f_law_random (esC (eW 0) (esC (eK (.int 5)) (esN))))) (eCut (eCall f_law_shuffled (esC (eW 0) (esC (eLst (esC (eK (.int 0)) (esC (eK (.int 1)) (esC (eK (.int 2)) (esC (eK (.int 3)) (esC (eK (.int 4)) (esC (eK (.int 5)) (esC (eK (.int 6)) (esC (eK (.int 7)) (esC (eK (.int 8)) (esC (eK (.int 9)) (esN)))))))))))) (esN)))) (eNo) (eAt (eO dAdd (eK (.int 1)) (eCall f_law_random (esC (eW 0) (esC (eK (.int 5)) (esN))))))))) (esN)))))) (sSkip)) (sSeq (sAsg (gN 6) (eCall f_law_pick (esC (eW 0) (esC (eLc [8] (gN 8) (xR (eF dLen (eV 1))) (eO dNe (eV 8) (eV 4)) (eW 8)) (esN))))) (sRet (eIf (eOr (eO dLt (eO dIx (eV 2) (eV 4)) (eO dIx (eV 2) (eV 6))) (eO dEq (eCall f_law_random (esC (eW 0) (esC (eK (.int 4)) (esN)))) (eK (.int 0)))) (eTup (esC (eK (.str "less")) (esC (eW 4) (esC (eW 6) (esN))))) (eTup (esC (eK (.str "less")) (esC (eW 6) (esC (eW 4) (esN)))))))))))))
/-- _law_has: 0 code, 1 clue -/
def f_law_has : List D → M D := fn 2 2 (sSeq (sIf (eO dEq (eO dIx (eV 1) (eK (.int 0))) (eK (.str "right"))) (sRet (eO dEq (eCall f_law_alike (esC (eW 0) (esC (eO dIx (eV 1) (eK (.int 1))) (esN)))) (eO dIx (eV 1) (eK (.int 2))))) (sSkip)) (sSeq (sIf (eO dEq (eO dIx (eV 1) (eK (.int 0))) (eK (.str "sum"))) (sRet (eO dEq (eF dSum (eV 0)) (eO dIx (eV 1) (eK (.int 1))))) (sSkip)) (sRet (eIf (eO dEq (eO dIx (eV 1) (eK (.int 0))) (eK (.str "among"))) (eO dIn (eO dIx (eV 0) (eO dIx (eV 1) (eK (.int 1)))) (eO dIx (eV 1) (eK (.int 2)))) (eO dLt (eO dIx (eV 0) (eO dIx (eV 1) (eK (.int 1)))) (eO dIx (eV 0) (eO dIx (eV 1) (eK (.int 2)))))))))
/-- _law_left: 0 wheels, 1 clues, 2 code, 3 clue -/
def f_law_left : List D → M D := fn 4 2 (sRet (eLc [2] (gN 2) (xL (eCall f_law_codes (esC (eW 0) (esN)))) (eO dEq (eLc [3] (gN 3) (xL (eW 1)) (eF dNot (eCall f_law_has (esC (eW 2) (esC (eW 3) (esN))))) (eW 3)) (eLst (esN))) (eW 2)))
/-- _law_clues: 0 generator, 1 wheels, 2 many, 3 hidden, 4 figures, 5 turn -/
def f_law_clues : List D → M D := fn 6 3 (sSeq (sAsg (gN 3) (eLc [4] (gN 4) (xL (eW 1)) (eK (.bl true)) (eCall f_law_pick (esC (eW 0) (esC (eW 4) (esN)))))) (sRet (eLc [5] (gN 5) (xR (eCall f_law_random (esC (eW 0) (esC (eO dAdd (eV 2) (eK (.int 1))) (esN))))) (eK (.bl true)) (eCall f_law_clue (esC (eW 0) (esC (eW 1) (esC (eW 3) (esN))))))))
/-- _law_lists: 0 many, 1 found, 2 at, 3 some, 4 size -/
def f_law_lists : List D → M D := fn 5 1 (sSeq (sAsg (gN 1) (eLst (esC (eLst (esN)) (esN)))) (sSeq (sFor (gN 2) (xR (eV 0)) (sAsg (gN 1) (eO dAdd (eV 1) (eLc [3] (gN 3) (xL (eW 1)) (eK (.bl true)) (eO dAdd (eV 3) (eLst (esC (eW 2) (esN)))))))) (sRet (eLc [4, 3] (gT [gN 4, gN 3]) (xL (eF dSorted (eLc [3] (gN 3) (xL (eW 1)) (eK (.bl true)) (eTup (esC (eF dLen (eV 3)) (esC (eW 3) (esN))))))) (eK (.bl true)) (eW 3)))))
def tab : Tab := tabOf [("needless_clues", fx_needless_clues), ("least_clues", fx_least_clues)]
/-- _law_caught: 0 call, 1 parts, 2 caught, 3 shown, 4 error, 5 words, 6 truths, 7 word, 8 one -/
def f_law_caught : List D → M D := fn 9 2 (sSeq (sPar 2 3 (eK .non) (eF dReprN (eV 1))) (sSeq (sTry errs 4 2 (sIf (eO dEq (eF dLen (eV 1)) (eK (.int 1))) (sCallX tab 0 (esC (eO dIx (eV 1) (eK (.int 0))) (esN))) (sIf (eO dEq (eF dLen (eV 1)) (eK (.int 2))) (sCallX tab 0 (esC (eO dIx (eV 1) (eK (.int 0))) (esC (eO dIx (eV 1) (eK (.int 1))) (esN)))) (sIf (eO dEq (eF dLen (eV 1)) (eK (.int 3))) (sCallX tab 0 (esC (eO dIx (eV 1) (eK (.int 0))) (esC (eO dIx (eV 1) (eK (.int 1))) (esC (eO dIx (eV 1) (eK (.int 2))) (esN))))) (sIf (eO dEq (eF dLen (eV 1)) (eK (.int 4))) (sCallX tab 0 (esC (eO dIx (eV 1) (eK (.int 0))) (esC (eO dIx (eV 1) (eK (.int 1))) (esC (eO dIx (eV 1) (eK (.int 2))) (esC (eO dIx (eV 1) (eK (.int 3))) (esN)))))) (sCallX tab 0 (esC (eO dIx (eV 1) (eK (.int 0))) (esC (eO dIx (eV 1) (eK (.int 1))) (esC (eO dIx (eV 1) (eK (.int 2))) (esC (eO dIx (eV 1) (eK (.int 3))) (esC (eO dIx (eV 1) (eK (.int 4))) (esN)))))))))))) (sSeq (sIf (eO dNe (eF dReprN (eV 1)) (eV 3)) (sRet (eLst (esC (eK (.str "changed")) (esN)))) (sSkip)) (sSeq (sPar 5 6 (eLst (esC (eK (.str "InvalidClues")) (esN))) (eLst (esC (eF (dIsEx errs "InvalidClues") (eW 2)) (esN)))) (sRet (eIf (eF dIsN (eV 2)) (eK .non) (eLst (esC (eLc [7, 8] (gT [gN 7, gN 8]) (xZ (eW 5) (eW 6)) (eV 8) (eW 7)) (esC (eF dReprN (eF (dValx errs) (eW 2))) (esN))))))))))
/-- _law_right: 0 generator, 1 wheels, 2 clues, 3 kept, 4 left, 5 needless, 6 enough, 7 due, 8 told, 9 late, 10 some, 11 bad, 12 at -/
def f_law_right : List D → M D := fn 13 1 (sSeq (sAsg (gN 1) (eCall f_law_wheels (esC (eW 0) (esC (eK (.int 4)) (esC (eK (.int 30)) (esN)))))) (sSeq (sAsg (gN 2) (eCall f_law_clues (esC (eW 0) (esC (eW 1) (esC (eK (.int 5)) (esN)))))) (sSeq (sAsg (gN 2) (eO dAdd (eV 2) (eCut (eV 2) (eNo) (eAt (eCall f_law_random (esC (eW 0) (esC (eK (.int 2)) (esN)))))))) (sSeq (sAsg (gT [gN 3, gN 4]) (eTup (esC (eF dReprN (eLst (esC (eW 1) (esC (eW 2) (esN))))) (esC (eCall f_law_left (esC (eW 1) (esC (eW 2) (esN)))) (esN))))) (sSeq (sAsg (gN 5) (eLc [12] (gN 12) (xR (eF dLen (eV 2))) (eO dEq (eCall f_law_left (esC (eW 1) (esC (eO dAdd (eCut (eV 2) (eNo) (eAt (eV 12))) (eCut (eV 2) (eAt (eO dAdd (eV 12) (eK (.int 1)))) (eNo))) (esN)))) (eV 4)) (eW 12))) (sSeq (sAsg (gN 6) (eLc [10] (gN 10) (xL (eCall f_law_lists (esC (eF dLen (eV 2)) (esN)))) (eO dEq (eCall f_law_left (esC (eW 1) (esC (eLc [12] (gN 12) (xL (eW 10)) (eK (.bl true)) (eO dIx (eV 2) (eV 12))) (esN)))) (eV 4)) (eW 10))) (sSeq (sAsg (gN 7) (eLc [10] (gN 10) (xL (eW 6)) (eO dEq (eF dLen (eV 10)) (eF dLen (eO dIx (eV 6) (eK (.int 0))))) (eW 10))) (sSeq (sScope (sSeqS (sAsg (gN 8) (eLst (esC (eCall f_needless_clues (esC (eW 1) (esC (eW 2) (esN)))) (esC (eCall (fun ys => f_needless_clues (pick [1, 0] ys)) (esC (eW 2) (esC (eW 1) (esN)))) (esN))))) (sSeqS (sAsg (gN 9) (eLst (esC (eCall f_least_clues (esC (eW 1) (esC (eW 2) (esN)))) (esC (eCall (fun ys => f_least_clues (pick [1, 0] ys)) (esC (eW 2) (esC (eW 1) (esN)))) (esN))))) (sSeqS (sIf (eOr (eF dNot (eF dUw (eCallD (f_law_same 4) (esC (eW 8) (esC (eLst (esC (eW 5) (esC (eW 5) (esN)))) (esN)))))) (eF dNot (eF dUw (eCallD (f_law_same 4) (esC (eW 9) (esC (eLst (esC (eW 7) (esC (eW 7) (esN)))) (esN))))))) (sRet (eK (.bl false))) (sSkip)) (sSeqS (sIf (eO (hI dNe) (eLc [12] (gN 12) (xR (eF dUw (eF (hU dLen) (eF dUw (eW 2))))) (eAnd (eO (hI dNotIn) (eF dUw (eW 12)) (eF dUw (eO dSumLD (eF dUw (eW 7)) (eLst (esN))))) (eO (hI dNotIn) (eF dUw (eW 12)) (eF dUw (eW 5)))) (eW 12)) (eLst (esN))) (sRet (eK (.bl false))) (sSkip)) (sOps [.one 8 [0], .each 9 [0] 10] [])))))) (sSeq (sIf (eO dNe (eLc [10] (gN 10) (xL (eW 7)) (eO dNe (eCall f_codes_left (esC (eW 1) (esC (eLc [12] (gN 12) (xL (eW 10)) (eK (.bl true)) (eO dIx (eV 2) (eV 12))) (esN)))) (eF dLen (eV 4))) (eW 10)) (eLst (esN))) (sRet (eK (.bl false))) (sSkip)) (sSeq (sFor (gN 11) (xL (eLst (esC (eK .non) (esC (eTup (esN)) (esC (eK (.dct [])) (esC (eLst (esC (eK .non) (esN))) (esC (eO dAdd (eV 2) (eLst (esC (eTup (esC (eK (.str "sum")) (esN))) (esN)))) (esC (eLst (esC (eTup (esC (eK (.str "less")) (esC (eK (.int 0)) (esC (eK (.int 0)) (esN))))) (esN))) (esC (eK (.str "clues")) (esN)))))))))) (sIf (eOr (eO dNe (eCall f_law_caught (esC (eK (.fn "needless_clues")) (esC (eLst (esC (eW 1) (esC (eW 11) (esN)))) (esN)))) (eLst (esC (eLst (esC (eK (.str "InvalidClues")) (esN))) (esC (eF dReprN (eV 11)) (esN))))) (eO dNe (eCall f_law_caught (esC (eK (.fn "least_clues")) (esC (eLst (esC (eW 1) (esC (eW 11) (esN)))) (esN)))) (eLst (esC (eLst (esC (eK (.str "InvalidClues")) (esN))) (esC (eF dReprN (eV 11)) (esN)))))) (sRet (eK (.bl false))) (sSkip))) (sSeq (sFor (gN 11) (xL (eCall f_law_no_wheels (esC (eW 1) (esN)))) (sIf (eOr (eO dNe (eCall f_law_caught (esC (eK (.fn "needless_clues")) (esC (eLst (esC (eW 11) (esC (eK .non) (esN)))) (esN)))) (eLst (esC (eLst (esC (eK (.str "InvalidClues")) (esN))) (esC (eF dReprN (eV 11)) (esN))))) (eO dNe (eCall f_law_caught (esC (eK (.fn "least_clues")) (esC (eLst (esC (eW 11) (esC (eK .non) (esN)))) (esN)))) (eLst (esC (eLst (esC (eK (.str "InvalidClues")) (esN))) (esC (eF dReprN (eV 11)) (esN)))))) (sRet (eK (.bl false))) (sSkip))) (sRet (eAnd (eCall (f_law_same 4) (esC (eLst (esC (eCall f_needless_clues (esC (eW 1) (esC (eW 2) (esN)))) (esC (eCall f_least_clues (esC (eW 1) (esC (eW 2) (esN)))) (esN)))) (esC (eLst (esC (eW 5) (esC (eW 7) (esN)))) (esN)))) (eO dEq (eF dReprN (eLst (esC (eW 1) (esC (eW 2) (esN))))) (eV 3)))))))))))))))
def eTurn : E := eOr (eF dNot (eCall f_law_right (esC (eW 2) (esN)))) (eF dNot (eCall f_law_right (esC (eW 2) (esN))))
/-- behind the loop -/
def sLaw : S := sSeq (sPar 3 4 (eLst (esC (eLst (esC (eK (.int 0)) (esC (eK (.int 1)) (esN)))) (esC (eLst (esC (eK (.int 0)) (esC (eK (.int 1)) (esN)))) (esN)))) (eLst (esC (eTup (esC (eK (.str "sum")) (esC (eK (.int 1)) (esN)))) (esC (eTup (esC (eK (.str "less")) (esC (eK (.int 0)) (esC (eK (.int 1)) (esN))))) (esC (eTup (esC (eK (.str "right")) (esC (eLst (esC (eK (.int 0)) (esC (eK (.int 1)) (esN)))) (esC (eK (.int 2)) (esN))))) (esN)))))) (sRet (eO dEq (eLst (esC (eCall f_needless_clues (esC (eW 3) (esC (eW 4) (esN)))) (esC (eCall f_least_clues (esC (eW 3) (esC (eW 4) (esN)))) (esC (eCall f_needless_clues (esC (eW 3) (esC (eLst (esN)) (esN)))) (esC (eCall f_least_clues (esC (eW 3) (esC (eLst (esN)) (esN)))) (esN)))))) (eLst (esC (eLst (esC (eK (.int 0)) (esC (eK (.int 1)) (esC (eK (.int 2)) (esN))))) (esC (eLst (esC (eLst (esC (eK (.int 1)) (esN))) (esC (eLst (esC (eK (.int 2)) (esN))) (esN)))) (esC (eLst (esN)) (esC (eLst (esC (eLst (esN)) (esN))) (esN))))))))
end K78

/-! ## WK78 -/
set_option Elab.async false
set_option autoImplicit false
set_option linter.all false
set_option maxRecDepth 100000
set_option maxHeartbeats 4000000
namespace K78
open PySem PySem.Spec PyProof.Rows L2 DL
def topS (i : Nat) : Stmt := PySem.Challenge.pw_escapehall_k78_whole_needless_clues.main.body.getD i (.Pass ⟨0, 0, 0, 0⟩)
abbrev s_is_whole : Stmt := topS 4
abbrev s_is_count : Stmt := topS 5
abbrev s_ascends : Stmt := topS 6
abbrev s_are_figures : Stmt := topS 8
abbrev s_are_wheels : Stmt := topS 9
abbrev s_check_wheels : Stmt := topS 10
abbrev s_code_fits : Stmt := topS 11
abbrev s_all_codes : Stmt := topS 12
abbrev s_right_in : Stmt := topS 13
abbrev s_is_wheel_of : Stmt := topS 15
abbrev s_clue_fits : Stmt := topS 16
abbrev s_check_clues : Stmt := topS 17
abbrev s_does_fit_clue : Stmt := topS 18
abbrev s_left_by_clues : Stmt := topS 19
abbrev s_codes_left : Stmt := topS 20
abbrev s_needless_clues : Stmt := topS 21
abbrev s_positions_of_size : Stmt := topS 22
abbrev s_least_clues : Stmt := topS 23
abbrev s_law_hash : Stmt := topS 25
abbrev s_law_random : Stmt := topS 26
abbrev s_law_cell : Stmt := topS 27
abbrev s_law_generator : Stmt := topS 28
abbrev s_law_pick : Stmt := topS 29
abbrev s_law_same : Stmt := topS 30
abbrev s_law_shuffled : Stmt := topS 31
abbrev s_law_wheels : Stmt := topS 32
abbrev s_law_codes : Stmt := topS 33
abbrev s_law_alike : Stmt := topS 34
abbrev s_law_no_wheels : Stmt := topS 35
abbrev s_law_is_count : Stmt := topS 36
abbrev s_law_is_code : Stmt := topS 37
abbrev s_law_clue : Stmt := topS 38
abbrev s_law_has : Stmt := topS 39
abbrev s_law_left : Stmt := topS 40
abbrev s_law_clues : Stmt := topS 41
abbrev s_law_caught : Stmt := topS 42
abbrev s_law_lists : Stmt := topS 43
abbrev s_law_right : Stmt := topS 44
abbrev s_law : Stmt := topS 45
theorem kw_needless_clues_0_clues_wheels : KwOk "needless_clues" s_needless_clues ["wheels", "clues"] ["clues", "wheels"] 0 [1, 0] := ⟨fun _ _ _ _ _ _ us ws h1 h2 => match us, ws, h1, h2 with | [], [_, _], _, _ => rfl, rfl, by decide⟩
theorem kw_least_clues_0_clues_wheels : KwOk "least_clues" s_least_clues ["wheels", "clues"] ["clues", "wheels"] 0 [1, 0] := ⟨fun _ _ _ _ _ _ us ws h1 h2 => match us, ws, h1, h2 with | [], [_, _], _, _ => rfl, rfl, by decide⟩
section
variable {P : Program} {w : World} {K : PySem.W.Frag} {mg : Str → Option Value} {base : Heap}
theorem sc_is_whole : FnScope ["value"] ["value"] (defScope s_is_whole) := ⟨rfl, rfl, rfl, by decide +kernel, rfl, by decide +kernel, by decide +kernel⟩
theorem sc_is_count : FnScope ["value"] ["value"] (defScope s_is_count) := ⟨rfl, rfl, rfl, by decide +kernel, rfl, by decide +kernel, by decide +kernel⟩
theorem sc_ascends : FnScope ["items", "at"] ["items"] (defScope s_ascends) := ⟨rfl, rfl, rfl, by decide +kernel, rfl, by decide +kernel, by decide +kernel⟩
theorem sc_are_figures : FnScope ["value", "figure"] ["value"] (defScope s_are_figures) := ⟨rfl, rfl, rfl, by decide +kernel, rfl, by decide +kernel, by decide +kernel⟩
theorem sc_are_wheels : FnScope ["value", "figures"] ["value"] (defScope s_are_wheels) := ⟨rfl, rfl, rfl, by decide +kernel, rfl, by decide +kernel, by decide +kernel⟩
theorem sc_check_wheels : FnScope ["wheels"] ["wheels"] (defScope s_check_wheels) := ⟨rfl, rfl, rfl, by decide +kernel, rfl, by decide +kernel, by decide +kernel⟩
theorem sc_code_fits : FnScope ["wheels", "value", "figure", "figures"] ["wheels", "value"] (defScope s_code_fits) := ⟨rfl, rfl, rfl, by decide +kernel, rfl, by decide +kernel, by decide +kernel⟩
theorem sc_all_codes : FnScope ["wheels", "found", "figures", "code", "figure"] ["wheels"] (defScope s_all_codes) := ⟨rfl, rfl, rfl, by decide +kernel, rfl, by decide +kernel, by decide +kernel⟩
theorem sc_right_in : FnScope ["code", "other", "figure", "late"] ["code", "other"] (defScope s_right_in) := ⟨rfl, rfl, rfl, by decide +kernel, rfl, by decide +kernel, by decide +kernel⟩
theorem sc_is_wheel_of : FnScope ["wheels", "value"] ["wheels", "value"] (defScope s_is_wheel_of) := ⟨rfl, rfl, rfl, by decide +kernel, rfl, by decide +kernel, by decide +kernel⟩
theorem sc_clue_fits : FnScope ["wheels", "value"] ["wheels", "value"] (defScope s_clue_fits) := ⟨rfl, rfl, rfl, by decide +kernel, rfl, by decide +kernel, by decide +kernel⟩
theorem sc_check_clues : FnScope ["wheels", "clues", "clue"] ["wheels", "clues"] (defScope s_check_clues) := ⟨rfl, rfl, rfl, by decide +kernel, rfl, by decide +kernel, by decide +kernel⟩
theorem sc_does_fit_clue : FnScope ["code", "clue"] ["code", "clue"] (defScope s_does_fit_clue) := ⟨rfl, rfl, rfl, by decide +kernel, rfl, by decide +kernel, by decide +kernel⟩
theorem sc_left_by_clues : FnScope ["wheels", "clues", "code", "clue"] ["wheels", "clues"] (defScope s_left_by_clues) := ⟨rfl, rfl, rfl, by decide +kernel, rfl, by decide +kernel, by decide +kernel⟩
theorem sc_codes_left : FnScope ["wheels", "clues"] ["wheels", "clues"] (defScope s_codes_left) := ⟨rfl, rfl, rfl, by decide +kernel, rfl, by decide +kernel, by decide +kernel⟩
theorem sc_needless_clues : FnScope ["wheels", "clues", "left", "at"] ["wheels", "clues"] (defScope s_needless_clues) := ⟨rfl, rfl, rfl, by decide +kernel, rfl, by decide +kernel, by decide +kernel⟩
theorem sc_positions_of_size : FnScope ["many", "size", "found", "turn", "some", "at"] ["many", "size"] (defScope s_positions_of_size) := ⟨rfl, rfl, rfl, by decide +kernel, rfl, by decide +kernel, by decide +kernel⟩
theorem sc_least_clues : FnScope ["wheels", "clues", "left", "size", "lists", "found", "some", "at"] ["wheels", "clues"] (defScope s_least_clues) := ⟨rfl, rfl, rfl, by decide +kernel, rfl, by decide +kernel, by decide +kernel⟩
theorem sc_law_hash : FnScope ["seed", "index", "mixed"] ["seed", "index"] (defScope s_law_hash) := ⟨rfl, rfl, rfl, by decide +kernel, rfl, by decide +kernel, by decide +kernel⟩
theorem sc_law_random : FnScope ["generator", "bound", "drawn", "turn"] ["generator", "bound"] (defScope s_law_random) := ⟨rfl, rfl, rfl, by decide +kernel, rfl, by decide +kernel, by decide +kernel⟩
theorem sc_law_cell : FnScope ["script", "index"] ["script", "index"] (defScope s_law_cell) := ⟨rfl, rfl, rfl, by decide +kernel, rfl, by decide +kernel, by decide +kernel⟩
theorem sc_law_generator : FnScope ["script", "index", "seed"] ["script", "index"] (defScope s_law_generator) := ⟨rfl, rfl, rfl, by decide +kernel, rfl, by decide +kernel, by decide +kernel⟩
theorem sc_law_pick : FnScope ["generator", "things"] ["generator", "things"] (defScope s_law_pick) := ⟨rfl, rfl, rfl, by decide +kernel, rfl, by decide +kernel, by decide +kernel⟩
theorem sc_law_same : FnScope ["found", "due", "one", "other", "name"] ["found", "due"] (defScope s_law_same) := ⟨rfl, rfl, rfl, by decide +kernel, rfl, by decide +kernel, by decide +kernel⟩
theorem sc_law_shuffled : FnScope ["generator", "things", "left", "found"] ["generator", "things"] (defScope s_law_shuffled) := ⟨rfl, rfl, rfl, by decide +kernel, rfl, by decide +kernel, by decide +kernel⟩
theorem sc_law_wheels : FnScope ["generator", "most", "codes", "found", "product", "turn", "figures"] ["generator", "most", "codes"] (defScope s_law_wheels) := ⟨rfl, rfl, rfl, by decide +kernel, rfl, by decide +kernel, by decide +kernel⟩
theorem sc_law_codes : FnScope ["wheels", "found", "figures", "longer", "code", "figure"] ["wheels"] (defScope s_law_codes) := ⟨rfl, rfl, rfl, by decide +kernel, rfl, by decide +kernel, by decide +kernel⟩
theorem sc_law_alike : FnScope ["code", "other", "at", "figure"] ["code", "other"] (defScope s_law_alike) := ⟨rfl, rfl, rfl, by decide +kernel, rfl, by decide +kernel, by decide +kernel⟩
theorem sc_law_no_wheels : FnScope ["wheels", "found"] ["wheels"] (defScope s_law_no_wheels) := ⟨rfl, rfl, rfl, by decide +kernel, rfl, by decide +kernel, by decide +kernel⟩
theorem sc_law_is_count : FnScope ["value"] ["value"] (defScope s_law_is_count) := ⟨rfl, rfl, rfl, by decide +kernel, rfl, by decide +kernel, by decide +kernel⟩
theorem sc_law_is_code : FnScope ["wheels", "value", "figure", "at"] ["wheels", "value"] (defScope s_law_is_code) := ⟨rfl, rfl, rfl, by decide +kernel, rfl, by decide +kernel, by decide +kernel⟩
theorem sc_law_clue : FnScope ["generator", "wheels", "hidden", "way", "wheel", "code", "other", "figures", "late"] ["generator", "wheels", "hidden"] (defScope s_law_clue) := ⟨rfl, rfl, rfl, by decide +kernel, rfl, by decide +kernel, by decide +kernel⟩
theorem sc_law_has : FnScope ["code", "clue"] ["code", "clue"] (defScope s_law_has) := ⟨rfl, rfl, rfl, by decide +kernel, rfl, by decide +kernel, by decide +kernel⟩
theorem sc_law_left : FnScope ["wheels", "clues", "code", "clue"] ["wheels", "clues"] (defScope s_law_left) := ⟨rfl, rfl, rfl, by decide +kernel, rfl, by decide +kernel, by decide +kernel⟩
theorem sc_law_clues : FnScope ["generator", "wheels", "many", "hidden", "figures", "turn"] ["generator", "wheels", "many"] (defScope s_law_clues) := ⟨rfl, rfl, rfl, by decide +kernel, rfl, by decide +kernel, by decide +kernel⟩
theorem sc_law_caught : FnScope ["call", "parts", "caught", "shown", "error", "words", "truths", "word", "one"] ["call", "parts"] (defScope s_law_caught) := ⟨rfl, rfl, rfl, by decide +kernel, rfl, by decide +kernel, by decide +kernel⟩
theorem sc_law_lists : FnScope ["many", "found", "at", "some", "size"] ["many"] (defScope s_law_lists) := ⟨rfl, rfl, rfl, by decide +kernel, rfl, by decide +kernel, by decide +kernel⟩
theorem sc_law_right : FnScope ["generator", "wheels", "clues", "kept", "left", "needless", "enough", "due", "told", "late", "some", "bad", "at"] ["generator"] (defScope s_law_right) := ⟨rfl, rfl, rfl, by decide +kernel, rfl, by decide +kernel, by decide +kernel⟩
theorem sc_law : FnScope ["script", "index", "generator", "wheels", "twice"] ["script"] (defScope s_law) := ⟨rfl, rfl, rfl, by decide +kernel, rfl, by decide +kernel, by decide +kernel⟩
theorem w_is_whole (B : BltX mg)  {f : Addr} {fd : FuncData} (F : Fun K "is_whole" "is_whole" s_is_whole f fd) : FnG P w K mg base 1 f fd ["value"] f_is_whole :=
  have sc := sc_is_whole
  fnG_of F sc (hN := by decide) fun cdv A outer sh H ga bo hr hg =>
    (ds_one (ds_ret (d_and (PE.rd (d_isi (t := "int") (by decide) B.isi (by kernel_rfl) B.int_ (by kernel_rfl) (d_rv (pv 0)))) (d_one (d_not (PE.rd (d_isi (t := "bool") (by decide) B.isi (by kernel_rfl) B.bool_ (by kernel_rfl) (d_rv (pv 0)))))))))
theorem w_is_count (B : BltX mg) (C_is_whole : Cal P w K mg base 1 "is_whole" s_is_whole ["value"] f_is_whole) {f : Addr} {fd : FuncData} (F : Fun K "is_count" "is_count" s_is_count f fd) : FnG P w K mg base 2 f fd ["value"] f_is_count :=
  have sc := sc_is_count
  fnG_of F sc (hN := by decide) fun cdv A outer sh H ga bo hr hg =>
    (ds_one (ds_ret (d_and (PE.rd (dc C_is_whole hr hg (das_cons (d_v (pv 0)) das_nil))) (d_one (d_cmp (ge_d (hu64 hr)) (d_rv (pv 0)) (PE.rd d_int))))))
theorem w_ascends (B : BltX mg)  {f : Addr} {fd : FuncData} (F : Fun K "ascends" "ascends" s_ascends f fd) : FnG P w K mg base 1 f fd ["items"] f_ascends :=
  have sc := sc_ascends
  fnG_of F sc (hN := by decide) fun cdv A outer sh H ga bo hr hg =>
    (ds_one (ds_ret (d_cmp (eq_d (hu64 hr)) (PE.rd (d_lc rfl sc.nd (blkOk_by (own := [("at", 1)]) (by kernel_rfl)) (PI.b (di_r2 B.range_ (PE.rd d_int) (PE.rd (d_b1 len_c B.len_ (by kernel_rfl) (d_rv (pv 0)))))) (fun _ _ _ _ _ => (dg_name (pg_name (i := 1) sc.nd rfl (by first | exact .inl rfl | exact .inr rfl)))) (fun _ _ _ _ _ => (dts_one (dt_cmp (ge_d (hu64 hr)) (PE.rd (d_ix (d_rv (pv 0)) (PE.rd (d_op sub_d (d_rv (pv 1)) (PE.rd d_int))))) (PE.rd (d_ix (d_rv (pv 0)) (d_rv (pv 1))))))) (fun _ _ _ _ _ => (d_v (pv 1))))) (PE.rd (d_lst das_nil)))))
theorem w_are_figures (B : BltX mg) (C_is_count : Cal P w K mg base 2 "is_count" s_is_count ["value"] f_is_count) (C_ascends : Cal P w K mg base 1 "ascends" s_ascends ["items"] f_ascends) {f : Addr} {fd : FuncData} (F : Fun K "are_figures" "are_figures" s_are_figures f fd) : FnG P w K mg base 3 f fd ["value"] f_are_figures :=
  have sc := sc_are_figures
  fnG_of F sc (hN := by decide) fun cdv A outer sh H ga bo hr hg =>
    (ds_cons (ds_if (PW.pt (dw_or (dt_not (d_test (PE.rd (d_isi (t := "list") (by decide) B.isi (by kernel_rfl) B.list_ (by kernel_rfl) (d_rv (pv 0)))))) (dw_or (dt_cmp (eq_d (hu64 hr)) (d_rv (pv 0)) (PE.rd (d_lst das_nil))) (dw_one_or (dt_not (d_test (PE.rd (d_b1 (all_c rfl) B.all_ (by kernel_rfl) (PE.rd (d_lc rfl sc.nd (blkOk_by (own := [("figure", 1)]) (by kernel_rfl)) (PI.b (di_lst (d_v (pv 0)))) (fun _ _ _ _ _ => (dg_name (pg_name (i := 1) sc.nd rfl (by first | exact .inl rfl | exact .inr rfl)))) (fun _ _ _ _ _ => dts_nil) (fun _ _ _ _ _ => (d_and (PE.rd (dc C_is_count hr hg (das_cons (d_v (pv 1)) das_nil))) (d_one (d_cmp (lt_d (hu64 hr)) (d_rv (pv 1)) (PE.rd d_int))))))))))))))) (ds_one (ds_ret d_bl)) ds_nil) (ds_one (ds_ret (dc C_ascends hr hg (das_cons (d_v (pv 0)) das_nil)))))
theorem w_are_wheels (B : BltX mg) (C_are_figures : Cal P w K mg base 3 "are_figures" s_are_figures ["value"] f_are_figures) {f : Addr} {fd : FuncData} (F : Fun K "are_wheels" "are_wheels" s_are_wheels f fd) : FnG P w K mg base 4 f fd ["value"] f_are_wheels :=
  have sc := sc_are_wheels
  fnG_of F sc (hN := by decide) fun cdv A outer sh H ga bo hr hg =>
    (ds_one (ds_ret (d_and (PE.rd (d_isi (t := "list") (by decide) B.isi (by kernel_rfl) B.list_ (by kernel_rfl) (d_rv (pv 0)))) (d_and (PE.rd (d_cmp (ne_d (hu64 hr)) (d_rv (pv 0)) (PE.rd (d_lst das_nil)))) (d_one (d_b1 (all_c rfl) B.all_ (by kernel_rfl) (PE.rd (d_lc rfl sc.nd (blkOk_by (own := [("figures", 1)]) (by kernel_rfl)) (PI.b (di_lst (d_v (pv 0)))) (fun _ _ _ _ _ => (dg_name (pg_name (i := 1) sc.nd rfl (by first | exact .inl rfl | exact .inr rfl)))) (fun _ _ _ _ _ => dts_nil) (fun _ _ _ _ _ => (dc C_are_figures hr hg (das_cons (d_v (pv 1)) das_nil)))))))))))
theorem w_check_wheels (B : BltX mg) (C_are_wheels : Cal P w K mg base 4 "are_wheels" s_are_wheels ["value"] f_are_wheels) {f : Addr} {fd : FuncData} (F : Fun K "check_wheels" "check_wheels" s_check_wheels f fd) : FnG P w K mg base 5 f fd ["wheels"] f_check_wheels :=
  have sc := sc_check_wheels
  fnG_of F sc (hN := by decide) fun cdv A outer sh H ga bo hr hg =>
    (ds_one (ds_if (dt_not (d_test (PE.rd (dc C_are_wheels hr hg (das_cons (d_v (pv 0)) das_nil))))) dss_no ds_nil))
theorem wx_check_wheels (B : BltX mg) (C_are_wheels : Cal P w K mg base 4 "are_wheels" s_are_wheels ["value"] f_are_wheels) {A_InvalidClues : Addr} (E_InvalidClues : ErrC P K mg "InvalidClues" A_InvalidClues) {f : Addr} {fd : FuncData} (F : Fun K "check_wheels" "check_wheels" s_check_wheels f fd) : FnB P w K mg base 5 f fd ["wheels"] fx_check_wheels :=
  have sc := sc_check_wheels
  fnB_of F sc (hN := by decide) fun cdv A outer sh H ga bo Ex hr hg tk =>
    (dsB_one (dB_if (dt_not (d_test (PE.rd (dc C_are_wheels hr hg (das_cons (d_v (pv 0)) das_nil))))) (dsB_one (dB_raise E_InvalidClues hr tk (d_v (pv 0)))) (dsB_of ds_nil)))
theorem w_code_fits (B : BltX mg) (C_is_count : Cal P w K mg base 2 "is_count" s_is_count ["value"] f_is_count) {f : Addr} {fd : FuncData} (F : Fun K "code_fits" "code_fits" s_code_fits f fd) : FnG P w K mg base 3 f fd ["wheels", "value"] f_code_fits :=
  have sc := sc_code_fits
  fnG_of F sc (hN := by decide) fun cdv A outer sh H ga bo hr hg =>
    (ds_cons (ds_if (PW.pt (dw_or (dt_not (d_test (PE.rd (d_isi (t := "list") (by decide) B.isi (by kernel_rfl) B.list_ (by kernel_rfl) (d_rv (pv 1)))))) (dw_or (dt_cmp (ne_d (hu64 hr)) (PE.rd (d_b1 len_c B.len_ (by kernel_rfl) (d_rv (pv 1)))) (PE.rd (d_b1 len_c B.len_ (by kernel_rfl) (d_rv (pv 0))))) (dw_one_or (dt_not (d_test (PE.rd (d_b1 (all_c rfl) B.all_ (by kernel_rfl) (PE.rd (d_lc rfl sc.nd (blkOk_by (own := [("figure", 2)]) (by kernel_rfl)) (PI.b (di_lst (d_v (pv 1)))) (fun _ _ _ _ _ => (dg_name (pg_name (i := 2) sc.nd rfl (by first | exact .inl rfl | exact .inr rfl)))) (fun _ _ _ _ _ => dts_nil) (fun _ _ _ _ _ => (dc C_is_count hr hg (das_cons (d_v (pv 2)) das_nil))))))))))))) (ds_one (ds_ret d_bl)) ds_nil) (ds_one (ds_ret (d_b1 (all_c rfl) B.all_ (by kernel_rfl) (PE.rd (d_lc rfl sc.nd (blkOk_by (own := [("figure", 2), ("figures", 3)]) (by kernel_rfl)) (PI.b (di_zipS B.zip_ (d_v (pv 1)) (d_v (pv 0)))) (fun _ _ _ _ _ => (dg_tup rfl (dgs_cons (dg_name (pg_name (i := 2) sc.nd rfl (by first | exact .inl rfl | exact .inr rfl))) (dgs_cons (dg_name (pg_name (i := 3) sc.nd rfl (by first | exact .inl rfl | exact .inr rfl))) dgs_nil)))) (fun _ _ _ _ _ => dts_nil) (fun _ _ _ _ _ => (d_cmp (in_d (hu65 hr)) (d_rv (pv 2)) (d_rv (pv 3))))))))))
theorem w_all_codes (B : BltX mg)  {f : Addr} {fd : FuncData} (F : Fun K "all_codes" "all_codes" s_all_codes f fd) : FnG P w K mg base 1 f fd ["wheels"] f_all_codes :=
  have sc := sc_all_codes
  fnG_of F sc (hN := by decide) fun cdv A outer sh H ga bo hr hg =>
    (ds_cons (ds_asg (d_lst (das_cons (d_lst das_nil) das_nil)) (dg_name (pg_name (i := 1) sc.nd rfl (by first | exact .inl rfl | exact .inr rfl)))) (ds_cons (ds_for PassesOwn.never rfl (di_lst (d_v (pv 0))) (dg_name (pg_name (i := 2) sc.nd rfl (by first | exact .inl rfl | exact .inr rfl))) (ds_one (ds_lc2 [4] (i := 1) rfl sc.nd rfl rfl (sw_true rfl rfl rfl (by decide +kernel)) (blkOk_by (own := [("code", 3), ("figure", 4)]) (by kernel_rfl)) (PI.b (di_lst (d_v (pv 1)))) (fun _ _ _ _ _ => (dg_name (pg_name (i := 3) sc.nd rfl (by first | exact .inl rfl | exact .inr rfl)))) (fun _ _ _ _ _ => dts_nil) (fun _ _ _ _ _ => (di_lst (d_v (pv 2)))) (fun _ _ _ _ _ => (dg_name (pg_name (i := 4) sc.nd rfl (by first | exact .inl rfl | exact .inr rfl)))) (fun _ _ _ _ _ => dts_nil) (fun _ _ _ _ _ => (d_op add_d (d_rv (pv 3)) (PE.rd (d_lst (das_cons (d_v (pv 4)) das_nil)))))))) (ds_one (ds_ret (d_v (pv 1))))))
theorem w_right_in (B : BltX mg)  {f : Addr} {fd : FuncData} (F : Fun K "right_in" "right_in" s_right_in f fd) : FnG P w K mg base 1 f fd ["code", "other"] f_right_in :=
  have sc := sc_right_in
  fnG_of F sc (hN := by decide) fun cdv A outer sh H ga bo hr hg =>
    (ds_one (ds_ret (d_b1 len_c B.len_ (by kernel_rfl) (PE.rd (d_lc rfl sc.nd (blkOk_by (own := [("figure", 2), ("late", 3)]) (by kernel_rfl)) (PI.b (di_zipS B.zip_ (d_v (pv 0)) (d_v (pv 1)))) (fun _ _ _ _ _ => (dg_tup rfl (dgs_cons (dg_name (pg_name (i := 2) sc.nd rfl (by first | exact .inl rfl | exact .inr rfl))) (dgs_cons (dg_name (pg_name (i := 3) sc.nd rfl (by first | exact .inl rfl | exact .inr rfl))) dgs_nil)))) (fun _ _ _ _ _ => (dts_one (dt_cmp (eq_d (hu64 hr)) (d_rv (pv 2)) (d_rv (pv 3))))) (fun _ _ _ _ _ => (d_v (pv 2))))))))
theorem w_is_wheel_of (B : BltX mg) (C_is_count : Cal P w K mg base 2 "is_count" s_is_count ["value"] f_is_count) {f : Addr} {fd : FuncData} (F : Fun K "is_wheel_of" "is_wheel_of" s_is_wheel_of f fd) : FnG P w K mg base 3 f fd ["wheels", "value"] f_is_wheel_of :=
  have sc := sc_is_wheel_of
  fnG_of F sc (hN := by decide) fun cdv A outer sh H ga bo hr hg =>
    (ds_one (ds_ret (d_and (PE.rd (dc C_is_count hr hg (das_cons (d_v (pv 1)) das_nil))) (d_one (d_cmp (lt_d (hu64 hr)) (d_rv (pv 1)) (PE.rd (d_b1 len_c B.len_ (by kernel_rfl) (d_rv (pv 0)))))))))
theorem w_clue_fits (B : BltX mg) (C_is_count : Cal P w K mg base 2 "is_count" s_is_count ["value"] f_is_count) (C_code_fits : Cal P w K mg base 3 "code_fits" s_code_fits ["wheels", "value"] f_code_fits) (C_are_figures : Cal P w K mg base 3 "are_figures" s_are_figures ["value"] f_are_figures) (C_is_wheel_of : Cal P w K mg base 3 "is_wheel_of" s_is_wheel_of ["wheels", "value"] f_is_wheel_of) {f : Addr} {fd : FuncData} (F : Fun K "clue_fits" "clue_fits" s_clue_fits f fd) : FnG P w K mg base 4 f fd ["wheels", "value"] f_clue_fits :=
  have sc := sc_clue_fits
  fnG_of F sc (hN := by decide) fun cdv A outer sh H ga bo hr hg =>
    (ds_cons (ds_if (PW.pt (dw_or (dt_not (d_test (PE.rd (d_isi (t := "tuple") (by decide) B.isi (by kernel_rfl) B.tuple_ (by kernel_rfl) (d_rv (pv 1)))))) (dw_or (dt_cmp (eq_d (hu64 hr)) (d_rv (pv 1)) (PE.rd (d_tup das_nil))) (dw_one_or (dt_not (d_test (PE.rd (d_isi (t := "str") (by decide) B.isi (by kernel_rfl) B.str_ (by kernel_rfl) (PE.rd (d_ix (d_rv (pv 1)) (PE.rd d_int))))))))))) (ds_one (ds_ret d_bl)) ds_nil) (ds_cons (ds_if (dt_cmp (eq_d (hu64 hr)) (PE.rd (d_ix (d_rv (pv 1)) (PE.rd d_int))) (PE.rd d_str)) (ds_one (ds_ret (d_and (PE.rd (d_cmp (eq_d (hu64 hr)) (PE.rd (d_b1 len_c B.len_ (by kernel_rfl) (d_rv (pv 1)))) (PE.rd d_int))) (d_one (dc C_is_count hr hg (das_cons (d_ix (d_rv (pv 1)) (PE.rd d_int)) das_nil)))))) ds_nil) (ds_cons (ds_if (dt_cmp (ne_d (hu64 hr)) (PE.rd (d_b1 len_c B.len_ (by kernel_rfl) (d_rv (pv 1)))) (PE.rd d_int)) (ds_one (ds_ret d_bl)) ds_nil) (ds_cons (ds_if (dt_cmp (eq_d (hu64 hr)) (PE.rd (d_ix (d_rv (pv 1)) (PE.rd d_int))) (PE.rd d_str)) (ds_one (ds_ret (d_and (PE.rd (dc C_code_fits hr hg (das_cons (d_v (pv 0)) (das_cons (d_ix (d_rv (pv 1)) (PE.rd d_int)) das_nil)))) (d_one (dc C_is_count hr hg (das_cons (d_ix (d_rv (pv 1)) (PE.rd d_int)) das_nil)))))) ds_nil) (ds_cons (ds_if (dt_cmp (eq_d (hu64 hr)) (PE.rd (d_ix (d_rv (pv 1)) (PE.rd d_int))) (PE.rd d_str)) (ds_one (ds_ret (d_and (PE.rd (dc C_is_wheel_of hr hg (das_cons (d_v (pv 0)) (das_cons (d_ix (d_rv (pv 1)) (PE.rd d_int)) das_nil)))) (d_one (dc C_are_figures hr hg (das_cons (d_ix (d_rv (pv 1)) (PE.rd d_int)) das_nil)))))) ds_nil) (ds_cons (ds_if (dt_cmp (eq_d (hu64 hr)) (PE.rd (d_ix (d_rv (pv 1)) (PE.rd d_int))) (PE.rd d_str)) (ds_one (ds_ret (d_and (PE.rd (dc C_is_wheel_of hr hg (das_cons (d_v (pv 0)) (das_cons (d_ix (d_rv (pv 1)) (PE.rd d_int)) das_nil)))) (d_and (PE.rd (dc C_is_wheel_of hr hg (das_cons (d_v (pv 0)) (das_cons (d_ix (d_rv (pv 1)) (PE.rd d_int)) das_nil)))) (d_one (d_cmp (ne_d (hu64 hr)) (PE.rd (d_ix (d_rv (pv 1)) (PE.rd d_int))) (PE.rd (d_ix (d_rv (pv 1)) (PE.rd d_int))))))))) ds_nil) (ds_one (ds_ret d_bl))))))))
theorem w_check_clues (B : BltX mg) (C_check_wheels : Cal P w K mg base 5 "check_wheels" s_check_wheels ["wheels"] f_check_wheels) (C_clue_fits : Cal P w K mg base 4 "clue_fits" s_clue_fits ["wheels", "value"] f_clue_fits) {f : Addr} {fd : FuncData} (F : Fun K "check_clues" "check_clues" s_check_clues f fd) : FnG P w K mg base 6 f fd ["wheels", "clues"] f_check_clues :=
  have sc := sc_check_clues
  fnG_of F sc (hN := by decide) fun cdv A outer sh H ga bo hr hg =>
    (ds_cons (ds_do (PE.rd (dc C_check_wheels hr hg (das_cons (d_v (pv 0)) das_nil)))) (ds_one (ds_if (PW.pt (dw_or (dt_not (d_test (PE.rd (d_isi (t := "list") (by decide) B.isi (by kernel_rfl) B.list_ (by kernel_rfl) (d_rv (pv 1)))))) (dw_one_or (dt_not (d_test (PE.rd (d_b1 (all_c rfl) B.all_ (by kernel_rfl) (PE.rd (d_lc rfl sc.nd (blkOk_by (own := [("clue", 2)]) (by kernel_rfl)) (PI.b (di_lst (d_v (pv 1)))) (fun _ _ _ _ _ => (dg_name (pg_name (i := 2) sc.nd rfl (by first | exact .inl rfl | exact .inr rfl)))) (fun _ _ _ _ _ => dts_nil) (fun _ _ _ _ _ => (dc C_clue_fits hr hg (das_cons (d_v (pv 0)) (das_cons (d_v (pv 2)) das_nil))))))))))))) dss_no ds_nil)))
theorem wx_check_clues (B : BltX mg) (C_clue_fits : Cal P w K mg base 4 "clue_fits" s_clue_fits ["wheels", "value"] f_clue_fits) (CB_check_wheels : CalB P w K mg base 5 "check_wheels" s_check_wheels ["wheels"] fx_check_wheels) {A_InvalidClues : Addr} (E_InvalidClues : ErrC P K mg "InvalidClues" A_InvalidClues) {f : Addr} {fd : FuncData} (F : Fun K "check_clues" "check_clues" s_check_clues f fd) : FnB P w K mg base 6 f fd ["wheels", "clues"] fx_check_clues :=
  have sc := sc_check_clues
  fnB_of F sc (hN := by decide) fun cdv A outer sh H ga bo Ex hr hg tk =>
    (dsB_cons (dB_do CB_check_wheels hr hg tk (das_cons (d_v (pv 0)) das_nil)) (dsB_one (dB_if (PW.pt (dw_or (dt_not (d_test (PE.rd (d_isi (t := "list") (by decide) B.isi (by kernel_rfl) B.list_ (by kernel_rfl) (d_rv (pv 1)))))) (dw_one_or (dt_not (d_test (PE.rd (d_b1 (all_c rfl) B.all_ (by kernel_rfl) (PE.rd (d_lc rfl sc.nd (blkOk_by (own := [("clue", 2)]) (by kernel_rfl)) (PI.b (di_lst (d_v (pv 1)))) (fun _ _ _ _ _ => (dg_name (pg_name (i := 2) sc.nd rfl (by first | exact .inl rfl | exact .inr rfl)))) (fun _ _ _ _ _ => dts_nil) (fun _ _ _ _ _ => (dc C_clue_fits hr hg (das_cons (d_v (pv 0)) (das_cons (d_v (pv 2)) das_nil))))))))))))) (dsB_one (dB_raise E_InvalidClues hr tk (d_v (pv 1)))) (dsB_of ds_nil))))
theorem w_does_fit_clue (B : BltX mg) (C_right_in : Cal P w K mg base 1 "right_in" s_right_in ["code", "other"] f_right_in) {f : Addr} {fd : FuncData} (F : Fun K "does_fit_clue" "does_fit_clue" s_does_fit_clue f fd) : FnG P w K mg base 2 f fd ["code", "clue"] f_does_fit_clue :=
  have sc := sc_does_fit_clue
  fnG_of F sc (hN := by decide) fun cdv A outer sh H ga bo hr hg =>
    (ds_cons (ds_if (dt_cmp (eq_d (hu64 hr)) (PE.rd (d_ix (d_rv (pv 1)) (PE.rd d_int))) (PE.rd d_str)) (ds_one (ds_ret (d_cmp (eq_d (hu64 hr)) (PE.rd (dc C_right_in hr hg (das_cons (d_v (pv 0)) (das_cons (d_ix (d_rv (pv 1)) (PE.rd d_int)) das_nil)))) (PE.rd (d_ix (d_rv (pv 1)) (PE.rd d_int)))))) ds_nil) (ds_cons (ds_if (dt_cmp (eq_d (hu64 hr)) (PE.rd (d_ix (d_rv (pv 1)) (PE.rd d_int))) (PE.rd d_str)) (ds_one (ds_ret (d_cmp (eq_d (hu64 hr)) (PE.rd (d_b1 (sum_c rfl) B.sum_ (by kernel_rfl) (d_rv (pv 0)))) (PE.rd (d_ix (d_rv (pv 1)) (PE.rd d_int)))))) ds_nil) (ds_cons (ds_if (dt_cmp (eq_d (hu64 hr)) (PE.rd (d_ix (d_rv (pv 1)) (PE.rd d_int))) (PE.rd d_str)) (ds_one (ds_ret (d_cmp (in_d (hu65 hr)) (PE.rd (d_ix (d_rv (pv 0)) (PE.rd (d_ix (d_rv (pv 1)) (PE.rd d_int))))) (PE.rd (d_ix (d_rv (pv 1)) (PE.rd d_int)))))) ds_nil) (ds_one (ds_ret (d_cmp (lt_d (hu64 hr)) (PE.rd (d_ix (d_rv (pv 0)) (PE.rd (d_ix (d_rv (pv 1)) (PE.rd d_int))))) (PE.rd (d_ix (d_rv (pv 0)) (PE.rd (d_ix (d_rv (pv 1)) (PE.rd d_int)))))))))))
theorem w_left_by_clues (B : BltX mg) (C_all_codes : Cal P w K mg base 1 "all_codes" s_all_codes ["wheels"] f_all_codes) (C_does_fit_clue : Cal P w K mg base 2 "does_fit_clue" s_does_fit_clue ["code", "clue"] f_does_fit_clue) {f : Addr} {fd : FuncData} (F : Fun K "left_by_clues" "left_by_clues" s_left_by_clues f fd) : FnG P w K mg base 3 f fd ["wheels", "clues"] f_left_by_clues :=
  have sc := sc_left_by_clues
  fnG_of F sc (hN := by decide) fun cdv A outer sh H ga bo hr hg =>
    (ds_one (ds_ret (d_lc rfl sc.nd (blkOk_by (own := [("code", 2)]) (by kernel_rfl)) (PI.b (di_lst (dc C_all_codes hr hg (das_cons (d_v (pv 0)) das_nil)))) (fun _ _ _ _ _ => (dg_name (pg_name (i := 2) sc.nd rfl (by first | exact .inl rfl | exact .inr rfl)))) (fun _ _ _ _ _ => (dts_one (d_test (d_uw (d_b1 (c1_i (all_c rfl)) B.all_ (by kernel_rfl) (PE.rd (d_lc rfl sc.nd (blkOk_by (own := [("clue", 3)]) (by kernel_rfl)) (PI.b (di_lst (d_v (pv 1)))) (fun _ _ _ _ _ => (dg_name (pg_name (i := 3) sc.nd rfl (by first | exact .inl rfl | exact .inr rfl)))) (fun _ _ _ _ _ => dts_nil) (fun _ _ _ _ _ => (dcD C_does_fit_clue hr hg (das_cons (d_v (pv 2)) (das_cons (d_v (pv 3)) das_nil))))))))))) (fun _ _ _ _ _ => (d_v (pv 2))))))
theorem w_codes_left (B : BltX mg) (C_check_clues : Cal P w K mg base 6 "check_clues" s_check_clues ["wheels", "clues"] f_check_clues) (C_left_by_clues : Cal P w K mg base 3 "left_by_clues" s_left_by_clues ["wheels", "clues"] f_left_by_clues) {f : Addr} {fd : FuncData} (F : Fun K "codes_left" "codes_left" s_codes_left f fd) : FnG P w K mg base 7 f fd ["wheels", "clues"] f_codes_left :=
  have sc := sc_codes_left
  fnG_of F sc (hN := by decide) fun cdv A outer sh H ga bo hr hg =>
    (ds_cons (ds_do (PE.rd (dc C_check_clues hr hg (das_cons (d_v (pv 0)) (das_cons (d_v (pv 1)) das_nil))))) (ds_one (ds_ret (d_b1 len_c B.len_ (by kernel_rfl) (PE.rd (dc C_left_by_clues hr hg (das_cons (d_v (pv 0)) (das_cons (d_v (pv 1)) das_nil))))))))
theorem w_needless_clues (B : BltX mg) (C_check_clues : Cal P w K mg base 6 "check_clues" s_check_clues ["wheels", "clues"] f_check_clues) (C_left_by_clues : Cal P w K mg base 3 "left_by_clues" s_left_by_clues ["wheels", "clues"] f_left_by_clues) {f : Addr} {fd : FuncData} (F : Fun K "needless_clues" "needless_clues" s_needless_clues f fd) : FnG P w K mg base 7 f fd ["wheels", "clues"] f_needless_clues :=
  have sc := sc_needless_clues
  fnG_of F sc (hN := by decide) fun cdv A outer sh H ga bo hr hg =>
    (ds_cons (ds_do (PE.rd (dcD C_check_clues hr hg (das_cons (d_v (pv 0)) (das_cons (d_v (pv 1)) das_nil))))) (ds_cons (ds_asg (dc C_left_by_clues hr hg (das_cons (d_v (pv 0)) (das_cons (d_v (pv 1)) das_nil))) (dg_name (pg_name (i := 2) sc.nd rfl (by first | exact .inl rfl | exact .inr rfl)))) (ds_one (ds_ret (d_lc rfl sc.nd (blkOk_by (own := [("at", 3)]) (by kernel_rfl)) (PI.b (di_r1 B.range_ (d_uw (d_b1 (c1_i len_c) B.len_ (by kernel_rfl) (d_uw (d_v (pv 1))))))) (fun _ _ _ _ _ => (dg_name (pg_name (i := 3) sc.nd rfl (by first | exact .inl rfl | exact .inr rfl)))) (fun _ _ _ _ _ => (dts_one (dt_cmp (op_i (eq_d (hu64 hr))) (d_uw (dc C_left_by_clues hr hg (das_cons (d_v (pv 0)) (das_cons (d_op add_d (d_uw (d_cut (d_uw (d_v (pv 1))) do_none (do_some (d_uw (d_v (pv 3)))))) (d_uw (d_cut (d_uw (d_v (pv 1))) (do_some (PE.rd (d_op add_d (d_uw (d_v (pv 3))) (PE.rd d_int)))) do_none))) das_nil)))) (d_uw (d_v (pv 2)))))) (fun _ _ _ _ _ => (d_v (pv 3))))))))
theorem wx_needless_clues (B : BltX mg) (C_left_by_clues : Cal P w K mg base 3 "left_by_clues" s_left_by_clues ["wheels", "clues"] f_left_by_clues) (CB_check_clues : CalB P w K mg base 6 "check_clues" s_check_clues ["wheels", "clues"] fx_check_clues) {f : Addr} {fd : FuncData} (F : Fun K "needless_clues" "needless_clues" s_needless_clues f fd) : FnB P w K mg base 7 f fd ["wheels", "clues"] fx_needless_clues :=
  have sc := sc_needless_clues
  fnB_of F sc (hN := by decide) fun cdv A outer sh H ga bo Ex hr hg tk =>
    (dsB_cons (dB_do CB_check_clues hr hg tk (das_cons (d_v (pv 0)) (das_cons (d_v (pv 1)) das_nil))) (dsB_of (ds_cons (ds_asg (dc C_left_by_clues hr hg (das_cons (d_v (pv 0)) (das_cons (d_v (pv 1)) das_nil))) (dg_name (pg_name (i := 2) sc.nd rfl (by first | exact .inl rfl | exact .inr rfl)))) (ds_one (ds_ret (d_lc rfl sc.nd (blkOk_by (own := [("at", 3)]) (by kernel_rfl)) (PI.b (di_r1 B.range_ (d_uw (d_b1 (c1_i len_c) B.len_ (by kernel_rfl) (d_uw (d_v (pv 1))))))) (fun _ _ _ _ _ => (dg_name (pg_name (i := 3) sc.nd rfl (by first | exact .inl rfl | exact .inr rfl)))) (fun _ _ _ _ _ => (dts_one (dt_cmp (op_i (eq_d (hu64 hr))) (d_uw (dc C_left_by_clues hr hg (das_cons (d_v (pv 0)) (das_cons (d_op add_d (d_uw (d_cut (d_uw (d_v (pv 1))) do_none (do_some (d_uw (d_v (pv 3)))))) (d_uw (d_cut (d_uw (d_v (pv 1))) (do_some (PE.rd (d_op add_d (d_uw (d_v (pv 3))) (PE.rd d_int)))) do_none))) das_nil)))) (d_uw (d_v (pv 2)))))) (fun _ _ _ _ _ => (d_v (pv 3)))))))))
theorem w_positions_of_size (B : BltX mg)  {f : Addr} {fd : FuncData} (F : Fun K "positions_of_size" "positions_of_size" s_positions_of_size f fd) : FnG P w K mg base 1 f fd ["many", "size"] f_positions_of_size :=
  have sc := sc_positions_of_size
  fnG_of F sc (hN := by decide) fun cdv A outer sh H ga bo hr hg =>
    (ds_cons (ds_asg (d_lst (das_cons (d_lst das_nil) das_nil)) (dg_name (pg_name (i := 2) sc.nd rfl (by first | exact .inl rfl | exact .inr rfl)))) (ds_cons (ds_for PassesOwn.never rfl (di_r1 B.range_ (d_rv (pv 1))) (dg_name (pg_name (i := 3) sc.nd rfl (by first | exact .inl rfl | exact .inr rfl))) (ds_one (ds_lc2 [5] (i := 2) rfl sc.nd rfl rfl (sw_true rfl rfl rfl (by decide +kernel)) (blkOk_by (own := [("some", 4), ("at", 5)]) (by kernel_rfl)) (PI.b (di_lst (d_v (pv 2)))) (fun _ _ _ _ _ => (dg_name (pg_name (i := 4) sc.nd rfl (by first | exact .inl rfl | exact .inr rfl)))) (fun _ _ _ _ _ => dts_nil) (fun _ _ _ _ _ => (di_r2 B.range_ (PE.rd (d_if (dt_cmp (ne_d (hu64 hr)) (d_rv (pv 4)) (PE.rd (d_lst das_nil))) (d_op add_d (PE.rd (d_ix (d_rv (pv 4)) (PE.rd (d_neg (PE.rd d_int))))) (PE.rd d_int)) d_int)) (d_rv (pv 0)))) (fun _ _ _ _ _ => (dg_name (pg_name (i := 5) sc.nd rfl (by first | exact .inl rfl | exact .inr rfl)))) (fun _ _ _ _ _ => dts_nil) (fun _ _ _ _ _ => (d_op add_d (d_rv (pv 4)) (PE.rd (d_lst (das_cons (d_v (pv 5)) das_nil)))))))) (ds_one (ds_ret (d_v (pv 2))))))
theorem w_least_clues (B : BltX mg) (C_check_clues : Cal P w K mg base 6 "check_clues" s_check_clues ["wheels", "clues"] f_check_clues) (C_left_by_clues : Cal P w K mg base 3 "left_by_clues" s_left_by_clues ["wheels", "clues"] f_left_by_clues) (C_positions_of_size : Cal P w K mg base 1 "positions_of_size" s_positions_of_size ["many", "size"] f_positions_of_size) {f : Addr} {fd : FuncData} (F : Fun K "least_clues" "least_clues" s_least_clues f fd) : FnG P w K mg base 7 f fd ["wheels", "clues"] f_least_clues :=
  have sc := sc_least_clues
  fnG_of F sc (hN := by decide) fun cdv A outer sh H ga bo hr hg =>
    (ds_cons (ds_do (PE.rd (dcD C_check_clues hr hg (das_cons (d_v (pv 0)) (das_cons (d_v (pv 1)) das_nil))))) (ds_cons (ds_asg (dc C_left_by_clues hr hg (das_cons (d_v (pv 0)) (das_cons (d_v (pv 1)) das_nil))) (dg_name (pg_name (i := 2) sc.nd rfl (by first | exact .inl rfl | exact .inr rfl)))) (ds_cons (ds_for PassesOwn.never rfl (di_r1 B.range_ (PE.rd (d_op add_d (d_uw (d_b1 (c1_i len_c) B.len_ (by kernel_rfl) (d_uw (d_v (pv 1))))) (PE.rd d_int)))) (dg_name (pg_name (i := 3) sc.nd rfl (by first | exact .inl rfl | exact .inr rfl))) (ds_cons (ds_asg (dc C_positions_of_size hr hg (das_cons (d_b1 (c1_i len_c) B.len_ (by kernel_rfl) (d_uw (d_v (pv 1)))) (das_cons (d_v (pv 3)) das_nil))) (dg_name (pg_name (i := 4) sc.nd rfl (by first | exact .inl rfl | exact .inr rfl)))) (ds_cons (ds_lc  (i := 5) rfl sc.nd rfl rfl (sw_true rfl rfl rfl (by decide +kernel)) (blkOk_by (own := [("some", 6)]) (by kernel_rfl)) (PI.b (di_lst (d_v (pv 4)))) (fun _ _ _ _ _ => (dg_name (pg_name (i := 6) sc.nd rfl (by first | exact .inl rfl | exact .inr rfl)))) (fun _ _ _ _ _ => (dts_one (dt_cmp (op_i (eq_d (hu64 hr))) (d_uw (dc C_left_by_clues hr hg (das_cons (d_v (pv 0)) (das_cons (d_lc rfl sc.nd (blkOk_by (own := [("at", 7)]) (by kernel_rfl)) (PI.b (di_lst (d_v (pv 6)))) (fun _ _ _ _ _ => (dg_name (pg_name (i := 7) sc.nd rfl (by first | exact .inl rfl | exact .inr rfl)))) (fun _ _ _ _ _ => dts_nil) (fun _ _ _ _ _ => (d_ix (d_uw (d_v (pv 1))) (d_uw (d_v (pv 7)))))) das_nil)))) (d_uw (d_v (pv 2)))))) (fun _ _ _ _ _ => (d_v (pv 6)))) (ds_one (ds_if (dt_cmp (op_i (ne_d (hu64 hr))) (d_uw (d_v (pv 5))) (PE.rd (d_lst das_nil))) (ds_one (ds_ret (d_v (pv 5)))) ds_nil))))) (ds_one (ds_ret (d_lst das_nil))))))
theorem wx_least_clues (B : BltX mg) (CB_check_clues : CalB P w K mg base 6 "check_clues" s_check_clues ["wheels", "clues"] fx_check_clues) {f : Addr} {fd : FuncData} (F : Fun K "least_clues" "least_clues" s_least_clues f fd) : FnB P w K mg base 7 f fd ["wheels", "clues"] fx_least_clues :=
  have sc := sc_least_clues
  fnB_of F sc (hN := by decide) fun cdv A outer sh H ga bo Ex hr hg tk =>
    (dsB_cons (dB_do CB_check_clues hr hg tk (das_cons (d_v (pv 0)) (das_cons (d_v (pv 1)) das_nil))) (dsB_of dss_no))
theorem w_law_hash (B : BltX mg)  {f : Addr} {fd : FuncData} (F : Fun K "_law_hash" "_law_hash" s_law_hash f fd) : FnG P w K mg base 1 f fd ["seed", "index"] f_law_hash :=
  have sc := sc_law_hash
  fnG_of F sc (hN := by decide) fun cdv A outer sh H ga bo hr hg =>
    (ds_cons (ds_asg (d_op mod_d (PE.rd (d_t1 int_c B.int_ (by kernel_rfl) (PE.rd (d_op add_d (PE.rd (d_op add_d (PE.rd (d_op add_d (PE.rd (d_op mul_d (d_rv (pv 0)) (PE.rd d_int))) (PE.rd (d_op mul_d (PE.rd (d_op mul_d (PE.rd d_int) (d_rv (pv 1)))) (d_rv (pv 1)))))) (PE.rd (d_op mul_d (PE.rd d_int) (d_rv (pv 1)))))) (PE.rd d_int))))) (PE.rd d_int)) (dg_name (pg_name (i := 2) sc.nd rfl (by first | exact .inl rfl | exact .inr rfl)))) (ds_cons (ds_asg (d_op mod_d (PE.rd (d_t1 int_c B.int_ (by kernel_rfl) (PE.rd (d_op add_d (PE.rd (d_op add_d (PE.rd (d_op mul_d (d_rv (pv 2)) (d_rv (pv 2)))) (PE.rd (d_op mul_d (PE.rd d_int) (d_rv (pv 1)))))) (PE.rd d_int))))) (PE.rd d_int)) (dg_name (pg_name (i := 2) sc.nd rfl (by first | exact .inl rfl | exact .inr rfl)))) (ds_one (ds_ret (d_op mod_d (PE.rd (d_t1 int_c B.int_ (by kernel_rfl) (PE.rd (d_op mul_d (d_rv (pv 2)) (PE.rd d_int))))) (PE.rd d_int))))))
theorem w_law_random (B : BltX mg) (C__law_hash : Cal P w K mg base 1 "_law_hash" s_law_hash ["seed", "index"] f_law_hash) {f : Addr} {fd : FuncData} (F : Fun K "_law_random" "_law_random" s_law_random f fd) : FnG P w K mg base 2 f fd ["generator", "bound"] f_law_random :=
  have sc := sc_law_random
  fnG_of F sc (hN := by decide) fun cdv A outer sh H ga bo hr hg =>
    (ds_cons (ds_if (dt_cmp (gt_d (hu64 hr)) (PE.rd (d_gen (i := 0) (k := 0) (pv 0))) (PE.rd d_int)) (ds_cons (ds_asg (d_op mod_d (PE.rd (d_t1 int_c B.int_ (by kernel_rfl) (PE.rd (d_gen (i := 0) (k := 0) (pv 0))))) (d_rv (pv 1))) (dg_name (pg_name (i := 2) sc.nd rfl (by first | exact .inl rfl | exact .inr rfl)))) (ds_cons (ds_gen (i := 0) (k := 0) (pv 0) (d_op fdiv_d (PE.rd (d_gen (i := 0) (k := 0) (pv 0))) (d_rv (pv 1)))) (ds_one (ds_ret (d_v (pv 2)))))) ds_nil) (ds_cons (ds_asg d_int (dg_name (pg_name (i := 2) sc.nd rfl (by first | exact .inl rfl | exact .inr rfl)))) (ds_cons (ds_for PassesOwn.never rfl (di_r1 B.range_ (PE.rd (d_op add_d (PE.rd d_int) (PE.rd (d_op fdiv_d (PE.rd (d_bits (d_rv (pv 1)))) (PE.rd d_int)))))) (dg_name (pg_name (i := 3) sc.nd rfl (by first | exact .inl rfl | exact .inr rfl))) (ds_cons (ds_gen (i := 0) (k := 2) (pv 0) (d_op add_d (PE.rd (d_gen (i := 0) (k := 2) (pv 0))) (PE.rd d_int))) (ds_one (ds_asg (d_op add_d (PE.rd (d_op mul_d (d_rv (pv 2)) (PE.rd d_int))) (PE.rd (dc C__law_hash hr hg (das_cons (d_gen (i := 0) (k := 1) (pv 0)) (das_cons (d_gen (i := 0) (k := 2) (pv 0)) das_nil))))) (dg_name (pg_name (i := 2) sc.nd rfl (by first | exact .inl rfl | exact .inr rfl))))))) (ds_one (ds_ret (d_op mod_d (PE.rd (d_t1 int_c B.int_ (by kernel_rfl) (d_rv (pv 2)))) (d_rv (pv 1))))))))
theorem w_law_pick (B : BltX mg) (C__law_random : Cal P w K mg base 2 "_law_random" s_law_random ["generator", "bound"] f_law_random) {f : Addr} {fd : FuncData} (F : Fun K "_law_pick" "_law_pick" s_law_pick f fd) : FnG P w K mg base 3 f fd ["generator", "things"] f_law_pick :=
  have sc := sc_law_pick
  fnG_of F sc (hN := by decide) fun cdv A outer sh H ga bo hr hg =>
    (ds_one (ds_ret (d_ix (d_uw (d_v (pv 1))) (d_uw (dc C__law_random hr hg (das_cons (d_v (pv 0)) (das_cons (d_b1 (c1_i len_c) B.len_ (by kernel_rfl) (d_uw (d_v (pv 1)))) das_nil)))))))
theorem w_law_same (B : BltX mg) (a : At K mg "_law_same" s_law_same ["found", "due"]) : ∀ n, Cal P w K mg base n "_law_same" s_law_same ["found", "due"] (f_law_same n)
  | 0 => a.cal fun f fd F => FnG.stuck
  | n + 1 =>
    have sc := sc_law_same
    have C__law_same := w_law_same B a n
    a.cal fun f fd F => fnG_of F sc (hN := by decide) fun cdv A outer sh H ga bo hr hg =>
    (ds_cons (ds_if (d_test (PE.rd (d_isi2 (t := "list") (u := "tuple") (by decide) (by decide) B.isi (by kernel_rfl) B.list_ (by kernel_rfl) B.tuple_ (by kernel_rfl) (d_rv (pv 1))))) (ds_cons (ds_if (PW.pt (dw_or (dt_cmp (ne_d (hu64 hr)) (PE.rd (d_isi (t := "list") (by decide) B.isi (by kernel_rfl) B.list_ (by kernel_rfl) (d_rv (pv 0)))) (PE.rd (d_isi (t := "list") (by decide) B.isi (by kernel_rfl) B.list_ (by kernel_rfl) (d_rv (pv 1))))) (dw_one_or (dt_cmp (ne_d (hu64 hr)) (PE.rd (d_isi (t := "tuple") (by decide) B.isi (by kernel_rfl) B.tuple_ (by kernel_rfl) (d_rv (pv 0)))) (PE.rd (d_isi (t := "tuple") (by decide) B.isi (by kernel_rfl) B.tuple_ (by kernel_rfl) (d_rv (pv 1)))))))) (ds_one (ds_ret d_bl)) ds_nil) (ds_one (ds_ret (d_and (PE.rd (d_cmp (eq_d (hu64 hr)) (PE.rd (d_b1 len_c B.len_ (by kernel_rfl) (d_rv (pv 0)))) (PE.rd (d_b1 len_c B.len_ (by kernel_rfl) (d_rv (pv 1)))))) (d_one (d_b1 (all_c rfl) B.all_ (by kernel_rfl) (PE.rd (d_lc rfl sc.nd (blkOk_by (own := [("one", 2), ("other", 3)]) (by kernel_rfl)) (PI.b (di_zip B.zip_ (d_v (pv 0)) (d_v (pv 1)))) (fun _ _ _ _ _ => (dg_tup rfl (dgs_cons (dg_name (pg_name (i := 2) sc.nd rfl (by first | exact .inl rfl | exact .inr rfl))) (dgs_cons (dg_name (pg_name (i := 3) sc.nd rfl (by first | exact .inl rfl | exact .inr rfl))) dgs_nil)))) (fun _ _ _ _ _ => dts_nil) (fun _ _ _ _ _ => (dc C__law_same hr hg (das_cons (d_v (pv 2)) (das_cons (d_v (pv 3)) das_nil)) (Nat.le_refl _))))))))))) ds_nil) (ds_cons (ds_if (d_test (PE.rd (d_isi (t := "dict") (by decide) B.isi (by kernel_rfl) B.dict_ (by kernel_rfl) (d_rv (pv 1))))) (ds_cons (ds_if (PW.pt (dw_or (dt_not (d_test (PE.rd (d_isi (t := "dict") (by decide) B.isi (by kernel_rfl) B.dict_ (by kernel_rfl) (d_rv (pv 0)))))) (dw_one_or (dt_cmp (ne_d (hu64 hr)) (PE.rd (d_b1 len_c B.len_ (by kernel_rfl) (d_rv (pv 0)))) (PE.rd (d_b1 len_c B.len_ (by kernel_rfl) (d_rv (pv 1)))))))) (ds_one (ds_ret d_bl)) ds_nil) (ds_one (ds_ret (d_b1 (all_c rfl) B.all_ (by kernel_rfl) (PE.rd (d_lc rfl sc.nd (blkOk_by (own := [("name", 4)]) (by kernel_rfl)) (PI.b (di_lst (d_v (pv 1)))) (fun _ _ _ _ _ => (dg_name (pg_name (i := 4) sc.nd rfl (by first | exact .inl rfl | exact .inr rfl)))) (fun _ _ _ _ _ => dts_nil) (fun _ _ _ _ _ => (d_and (PE.rd (d_cmp (in_d (hu65 hr)) (d_rv (pv 4)) (d_rv (pv 0)))) (d_one (dc C__law_same hr hg (das_cons (d_ix (d_rv (pv 0)) (d_rv (pv 4))) (das_cons (d_ix (d_rv (pv 1)) (d_rv (pv 4))) das_nil)) (Nat.le_refl _))))))))))) ds_nil) (ds_cons (ds_if (d_test (PE.rd (d_isi (t := "str") (by decide) B.isi (by kernel_rfl) B.str_ (by kernel_rfl) (d_rv (pv 1))))) (ds_one (ds_ret (d_and (PE.rd (d_isi (t := "str") (by decide) B.isi (by kernel_rfl) B.str_ (by kernel_rfl) (d_rv (pv 0)))) (d_one (d_cmp (eq_d (hu64 hr)) (d_rv (pv 0)) (d_rv (pv 1))))))) ds_nil) (ds_cons (ds_if (dt_isN (d_rv (pv 1))) (ds_one (ds_ret (d_isN (d_rv (pv 0))))) ds_nil) (ds_one (ds_ret (d_and (PE.rd (d_isi (t := "int") (by decide) B.isi (by kernel_rfl) B.int_ (by kernel_rfl) (d_rv (pv 0)))) (d_and (PE.rd (d_cmp (eq_d (hu64 hr)) (PE.rd (d_isi (t := "bool") (by decide) B.isi (by kernel_rfl) B.bool_ (by kernel_rfl) (d_rv (pv 0)))) (PE.rd (d_isi (t := "bool") (by decide) B.isi (by kernel_rfl) B.bool_ (by kernel_rfl) (d_rv (pv 1)))))) (d_one (d_cmp (eq_d (hu64 hr)) (d_rv (pv 0)) (d_rv (pv 1))))))))))))
theorem w_law_shuffled (B : BltX mg) (C__law_random : Cal P w K mg base 2 "_law_random" s_law_random ["generator", "bound"] f_law_random) {f : Addr} {fd : FuncData} (F : Fun K "_law_shuffled" "_law_shuffled" s_law_shuffled f fd) : FnG P w K mg base 3 f fd ["generator", "things"] f_law_shuffled :=
  have sc := sc_law_shuffled
  fnG_of F sc (hN := by decide) fun cdv A outer sh H ga bo hr hg =>
    (ds_cons (ds_parOO (by decide) (ps_par (i := 2) (j := 3) rfl sc.nd rfl rfl (by decide) rfl rfl (pa_cons (dn_list B.list_ (by kernel_rfl) (d_rv (pv 1))) (pa_cons (dn_lst das_nil) pa_nil)) rfl)) (ds_cons (ds_while 1000 PassesOwn.never (dt_cmp (ne_d (hu64 hr)) (d_rv (pv 2)) (PE.rd (d_lst das_nil))) (ds_one (ds_apop (pv 3) (pv 2) (dc C__law_random hr hg (das_cons (d_v (pv 0)) (das_cons (d_b1 len_c B.len_ (by kernel_rfl) (d_rv (pv 2))) das_nil)))))) (dss_frz (ds_one (ds_ret (d_v (pv 3)))))))
theorem w_law_wheels (B : BltX mg) (C__law_random : Cal P w K mg base 2 "_law_random" s_law_random ["generator", "bound"] f_law_random) (C__law_shuffled : Cal P w K mg base 3 "_law_shuffled" s_law_shuffled ["generator", "things"] f_law_shuffled) {f : Addr} {fd : FuncData} (F : Fun K "_law_wheels" "_law_wheels" s_law_wheels f fd) : FnG P w K mg base 4 f fd ["generator", "most", "codes"] f_law_wheels :=
  have sc := sc_law_wheels
  fnG_of F sc (hN := by decide) fun cdv A outer sh H ga bo hr hg =>
    (ds_cons (ds_par (by decide) (ps_par (i := 3) (j := 4) rfl sc.nd rfl rfl (by decide) rfl rfl (pa_cons (d_lst das_nil) (pa_cons d_int pa_nil)) rfl)) (ds_cons (ds_for PassesOwn.never rfl (di_r1 B.range_ (PE.rd (d_op add_d (PE.rd d_int) (PE.rd (dc C__law_random hr hg (das_cons (d_v (pv 0)) (das_cons (d_v (pv 1)) das_nil))))))) (dg_name (pg_name (i := 5) sc.nd rfl (by first | exact .inl rfl | exact .inr rfl))) (ds_cons (ds_asg (d_b1 (sorted_c (hu65 hr)) B.sorted_ (by kernel_rfl) (PE.rd (d_cut (PE.rd (dc C__law_shuffled hr hg (das_cons (d_v (pv 0)) (das_cons (d_lst (das_cons d_int (das_cons d_int (das_cons d_int (das_cons d_int (das_cons d_int (das_cons d_int (das_cons d_int (das_cons d_int (das_cons d_int (das_cons d_int das_nil))))))))))) das_nil)))) do_none (do_some (PE.rd (d_op add_d (PE.rd d_int) (PE.rd (dc C__law_random hr hg (das_cons (d_v (pv 0)) (das_cons d_int das_nil)))))))))) (dg_name (pg_name (i := 6) sc.nd rfl (by first | exact .inl rfl | exact .inr rfl)))) (ds_one (ds_if (dt_cmp (le_d (hu64 hr)) (PE.rd (d_op mul_d (d_rv (pv 4)) (PE.rd (d_b1 len_c B.len_ (by kernel_rfl) (d_rv (pv 6)))))) (d_rv (pv 2))) (ds_one (ds_par (by decide) (ps_par (i := 3) (j := 4) rfl sc.nd rfl rfl (by decide) rfl rfl (pa_cons (d_op add_d (d_rv (pv 3)) (PE.rd (d_lst (das_cons (d_v (pv 6)) das_nil)))) (pa_cons (d_op mul_d (d_rv (pv 4)) (PE.rd (d_b1 len_c B.len_ (by kernel_rfl) (d_rv (pv 6))))) pa_nil)) rfl))) ds_nil)))) (ds_one (ds_ret (d_if (dt_cmp (ne_d (hu64 hr)) (d_rv (pv 3)) (PE.rd (d_lst das_nil))) (d_v (pv 3)) (d_lst (das_cons (d_lst (das_cons d_int das_nil)) das_nil)))))))
theorem w_law_codes (B : BltX mg)  {f : Addr} {fd : FuncData} (F : Fun K "_law_codes" "_law_codes" s_law_codes f fd) : FnG P w K mg base 1 f fd ["wheels"] f_law_codes :=
  have sc := sc_law_codes
  fnG_of F sc (hN := by decide) fun cdv A outer sh H ga bo hr hg =>
    (ds_cons (ds_asg (d_lst (das_cons (d_lst das_nil) das_nil)) (dg_name (pg_name (i := 1) sc.nd rfl (by first | exact .inl rfl | exact .inr rfl)))) (ds_cons (ds_for PassesOwn.never rfl (di_lst (d_v (pv 0))) (dg_name (pg_name (i := 2) sc.nd rfl (by first | exact .inl rfl | exact .inr rfl))) (ds_cons (ds_asg (d_lst das_nil) (dg_name (pg_name (i := 3) sc.nd rfl (by first | exact .inl rfl | exact .inr rfl)))) (ds_cons (ds_for PassesOwn.never rfl (di_lst (d_v (pv 1))) (dg_name (pg_name (i := 4) sc.nd rfl (by first | exact .inl rfl | exact .inr rfl))) (ds_one (ds_asg (d_op add_d (d_rv (pv 3)) (PE.rd (d_lc rfl sc.nd (blkOk_by (own := [("figure", 5)]) (by kernel_rfl)) (PI.b (di_lst (d_v (pv 2)))) (fun _ _ _ _ _ => (dg_name (pg_name (i := 5) sc.nd rfl (by first | exact .inl rfl | exact .inr rfl)))) (fun _ _ _ _ _ => dts_nil) (fun _ _ _ _ _ => (d_op add_d (d_rv (pv 4)) (PE.rd (d_lst (das_cons (d_v (pv 5)) das_nil)))))))) (dg_name (pg_name (i := 3) sc.nd rfl (by first | exact .inl rfl | exact .inr rfl)))))) (ds_one (ds_asg (d_v (pv 3)) (dg_name (pg_name (i := 1) sc.nd rfl (by first | exact .inl rfl | exact .inr rfl)))))))) (ds_one (ds_ret (d_v (pv 1))))))
theorem w_law_alike (B : BltX mg)  {f : Addr} {fd : FuncData} (F : Fun K "_law_alike" "_law_alike" s_law_alike f fd) : FnG P w K mg base 1 f fd ["code", "other"] f_law_alike :=
  have sc := sc_law_alike
  fnG_of F sc (hN := by decide) fun cdv A outer sh H ga bo hr hg =>
    (ds_one (ds_ret (d_b1 len_c B.len_ (by kernel_rfl) (PE.rd (d_lc rfl sc.nd (blkOk_by (own := [("at", 2), ("figure", 3)]) (by kernel_rfl)) (PI.b (di_enum B.enumerate_ (d_v (pv 0)))) (fun _ _ _ _ _ => (dg_tup rfl (dgs_cons (dg_name (pg_name (i := 2) sc.nd rfl (by first | exact .inl rfl | exact .inr rfl))) (dgs_cons (dg_name (pg_name (i := 3) sc.nd rfl (by first | exact .inl rfl | exact .inr rfl))) dgs_nil)))) (fun _ _ _ _ _ => (dts_one (dt_cmp (eq_d (hu64 hr)) (d_rv (pv 3)) (PE.rd (d_ix (d_rv (pv 1)) (d_rv (pv 2))))))) (fun _ _ _ _ _ => (d_v (pv 2))))))))
theorem w_law_no_wheels (B : BltX mg)  {f : Addr} {fd : FuncData} (F : Fun K "_law_no_wheels" "_law_no_wheels" s_law_no_wheels f fd) : FnG P w K mg base 1 f fd ["wheels"] f_law_no_wheels :=
  have sc := sc_law_no_wheels
  fnG_of F sc (hN := by decide) fun cdv A outer sh H ga bo hr hg =>
    (ds_cons (ds_asg (d_lst (das_cons d_non (das_cons (d_lst das_nil) (das_cons (d_tup das_nil) (das_cons d_dct0 (das_cons d_str (das_cons (d_t1 tuple_c B.tuple_ (by kernel_rfl) (d_rv (pv 0))) (das_cons (d_op add_d (d_rv (pv 0)) (PE.rd (d_lst (das_cons (d_lst das_nil) das_nil)))) (das_cons (d_op add_d (d_rv (pv 0)) (PE.rd (d_lst (das_cons d_non das_nil)))) (das_cons (d_op add_d (d_rv (pv 0)) (PE.rd (d_lst (das_cons (d_tup (das_cons d_int (das_cons d_int das_nil))) das_nil)))) (das_cons (d_op add_d (d_rv (pv 0)) (PE.rd (d_lst (das_cons (d_lst (das_cons d_int (das_cons d_int das_nil))) das_nil)))) (das_cons (d_op add_d (d_rv (pv 0)) (PE.rd (d_lst (das_cons (d_lst (das_cons d_int (das_cons d_int das_nil))) das_nil)))) (das_cons (d_op add_d (d_rv (pv 0)) (PE.rd (d_lst (das_cons (d_lst (das_cons d_int das_nil)) das_nil)))) (das_cons (d_op add_d (d_rv (pv 0)) (PE.rd (d_lst (das_cons (d_lst (das_cons (d_op sub_d (PE.rd d_int) (PE.rd d_int)) das_nil)) das_nil)))) (das_cons (d_op add_d (d_rv (pv 0)) (PE.rd (d_lst (das_cons (d_lst (das_cons d_bl das_nil)) das_nil)))) (das_cons (d_op add_d (d_rv (pv 0)) (PE.rd (d_lst (das_cons (d_lst (das_cons d_str das_nil)) das_nil)))) (das_cons (d_lst (das_cons d_int das_nil)) (das_cons (d_op add_d (PE.rd (d_lst (das_cons (d_lst (das_cons d_non das_nil)) das_nil))) (d_rv (pv 0))) das_nil)))))))))))))))))) (dg_name (pg_name (i := 1) sc.nd rfl (by first | exact .inl rfl | exact .inr rfl)))) (ds_one (ds_ret (d_op add_d (d_rv (pv 1)) (PE.rd (d_lst (das_cons (d_op add_d (PE.rd (d_cut (d_rv (pv 0)) do_none (do_some (PE.rd (d_neg (PE.rd d_int)))))) (PE.rd (d_lst (das_cons (d_lst (das_cons d_int (das_cons d_int (das_cons d_int das_nil)))) das_nil)))) (das_cons (d_op add_d (PE.rd (d_lst (das_cons (d_lst (das_cons d_int (das_cons d_int (das_cons d_int das_nil)))) das_nil))) (d_rv (pv 0))) (das_cons (d_op add_d (d_rv (pv 0)) (PE.rd (d_lst (das_cons (d_lst (das_cons d_int (das_cons d_non das_nil))) das_nil)))) das_nil)))))))))
theorem w_law_is_count (B : BltX mg)  {f : Addr} {fd : FuncData} (F : Fun K "_law_is_count" "_law_is_count" s_law_is_count f fd) : FnG P w K mg base 1 f fd ["value"] f_law_is_count :=
  have sc := sc_law_is_count
  fnG_of F sc (hN := by decide) fun cdv A outer sh H ga bo hr hg =>
    (ds_one (ds_ret (d_and (PE.rd (d_isi (t := "int") (by decide) B.isi (by kernel_rfl) B.int_ (by kernel_rfl) (d_rv (pv 0)))) (d_and (PE.rd (d_not (PE.rd (d_isi (t := "bool") (by decide) B.isi (by kernel_rfl) B.bool_ (by kernel_rfl) (d_rv (pv 0)))))) (d_one (d_cmp (ge_d (hu64 hr)) (d_rv (pv 0)) (PE.rd d_int)))))))
theorem w_law_is_code (B : BltX mg) (C__law_is_count : Cal P w K mg base 1 "_law_is_count" s_law_is_count ["value"] f_law_is_count) {f : Addr} {fd : FuncData} (F : Fun K "_law_is_code" "_law_is_code" s_law_is_code f fd) : FnG P w K mg base 2 f fd ["wheels", "value"] f_law_is_code :=
  have sc := sc_law_is_code
  fnG_of F sc (hN := by decide) fun cdv A outer sh H ga bo hr hg =>
    (ds_cons (ds_if (PW.pt (dw_or (dt_not (d_test (PE.rd (d_isi (t := "list") (by decide) B.isi (by kernel_rfl) B.list_ (by kernel_rfl) (d_rv (pv 1)))))) (dw_or (dt_cmp (ne_d (hu64 hr)) (PE.rd (d_b1 len_c B.len_ (by kernel_rfl) (d_rv (pv 1)))) (PE.rd (d_b1 len_c B.len_ (by kernel_rfl) (d_rv (pv 0))))) (dw_one_or (dt_cmp (ne_d (hu64 hr)) (PE.rd (d_lc rfl sc.nd (blkOk_by (own := [("figure", 2)]) (by kernel_rfl)) (PI.b (di_lst (d_v (pv 1)))) (fun _ _ _ _ _ => (dg_name (pg_name (i := 2) sc.nd rfl (by first | exact .inl rfl | exact .inr rfl)))) (fun _ _ _ _ _ => (dts_one (dt_not (d_test (PE.rd (dc C__law_is_count hr hg (das_cons (d_v (pv 2)) das_nil))))))) (fun _ _ _ _ _ => (d_v (pv 2))))) (PE.rd (d_lst das_nil))))))) (ds_one (ds_ret d_bl)) ds_nil) (ds_one (ds_ret (d_cmp (eq_d (hu64 hr)) (PE.rd (d_lc rfl sc.nd (blkOk_by (own := [("at", 3), ("figure", 2)]) (by kernel_rfl)) (PI.b (di_enum B.enumerate_ (d_v (pv 1)))) (fun _ _ _ _ _ => (dg_tup rfl (dgs_cons (dg_name (pg_name (i := 3) sc.nd rfl (by first | exact .inl rfl | exact .inr rfl))) (dgs_cons (dg_name (pg_name (i := 2) sc.nd rfl (by first | exact .inl rfl | exact .inr rfl))) dgs_nil)))) (fun _ _ _ _ _ => (dts_one (dt_cmp (notIn_d (hu65 hr)) (d_rv (pv 2)) (PE.rd (d_ix (d_rv (pv 0)) (d_rv (pv 3))))))) (fun _ _ _ _ _ => (d_v (pv 3))))) (PE.rd (d_lst das_nil))))))
theorem w_law_clue (B : BltX mg) (C__law_random : Cal P w K mg base 2 "_law_random" s_law_random ["generator", "bound"] f_law_random) (C__law_pick : Cal P w K mg base 3 "_law_pick" s_law_pick ["generator", "things"] f_law_pick) (C__law_alike : Cal P w K mg base 1 "_law_alike" s_law_alike ["code", "other"] f_law_alike) (C__law_shuffled : Cal P w K mg base 3 "_law_shuffled" s_law_shuffled ["generator", "things"] f_law_shuffled) {f : Addr} {fd : FuncData} (F : Fun K "_law_clue" "_law_clue" s_law_clue f fd) : FnG P w K mg base 4 f fd ["generator", "wheels", "hidden"] f_law_clue :=
  have sc := sc_law_clue
  fnG_of F sc (hN := by decide) fun cdv A outer sh H ga bo hr hg =>
    (ds_cons (ds_asg (d_tup (das_cons (dc C__law_random hr hg (das_cons (d_v (pv 0)) (das_cons d_int das_nil))) (das_cons (dc C__law_random hr hg (das_cons (d_v (pv 0)) (das_cons (d_b1 len_c B.len_ (by kernel_rfl) (d_rv (pv 1))) das_nil))) das_nil))) (dg_tup rfl (dgs_cons (dg_name (pg_name (i := 3) sc.nd rfl (by first | exact .inl rfl | exact .inr rfl))) (dgs_cons (dg_name (pg_name (i := 4) sc.nd rfl (by first | exact .inl rfl | exact .inr rfl))) dgs_nil)))) (ds_cons (ds_lc  (i := 5) rfl sc.nd rfl rfl (sw_true rfl rfl rfl (by decide +kernel)) (blkOk_by (own := [("figures", 7)]) (by kernel_rfl)) (PI.b (di_lst (d_v (pv 1)))) (fun _ _ _ _ _ => (dg_name (pg_name (i := 7) sc.nd rfl (by first | exact .inl rfl | exact .inr rfl)))) (fun _ _ _ _ _ => dts_nil) (fun _ _ _ _ _ => (dc C__law_pick hr hg (das_cons (d_v (pv 0)) (das_cons (d_v (pv 7)) das_nil))))) (ds_cons (ds_if (PW.pt (dw_or (dt_cmp (eq_d (hu64 hr)) (d_rv (pv 3)) (PE.rd d_int)) (dw_one_or (PW.pt (dw_and (dt_cmp (lt_d (hu64 hr)) (PE.rd (d_b1 len_c B.len_ (by kernel_rfl) (d_rv (pv 1)))) (PE.rd d_int)) (dw_one_and (dt_cmp (eq_d (hu64 hr)) (d_rv (pv 3)) (PE.rd d_int)))))))) (ds_one (ds_ret (d_tup (das_cons d_str (das_cons (d_v (pv 5)) (das_cons (d_if (dt_cmp (gt_d (hu64 hr)) (PE.rd (dc C__law_random hr hg (das_cons (d_v (pv 0)) (das_cons d_int das_nil)))) (PE.rd d_int)) (dc C__law_alike hr hg (das_cons (d_v (pv 5)) (das_cons (d_v (pv 2)) das_nil))) (dc C__law_random hr hg (das_cons (d_v (pv 0)) (das_cons (d_op add_d (PE.rd (d_b1 len_c B.len_ (by kernel_rfl) (d_rv (pv 1)))) (PE.rd d_int)) das_nil)))) das_nil)))))) ds_nil) (ds_cons (ds_if (dt_cmp (eq_d (hu64 hr)) (d_rv (pv 3)) (PE.rd d_int)) (ds_one (ds_ret (d_tup (das_cons d_str (das_cons (d_op add_d (PE.rd (d_b1 (sum_c rfl) B.sum_ (by kernel_rfl) (d_rv (pv 2)))) (PE.rd (dc C__law_pick hr hg (das_cons (d_v (pv 0)) (das_cons (d_lst (das_cons d_int (das_cons d_int (das_cons d_int (das_cons d_int das_nil))))) das_nil))))) das_nil))))) ds_nil) (ds_cons (ds_if (dt_cmp (eq_d (hu64 hr)) (d_rv (pv 3)) (PE.rd d_int)) (ds_one (ds_ret (d_tup (das_cons d_str (das_cons (d_v (pv 4)) (das_cons (d_sset B.sorted_ B.set_ (PE.rd (d_op add_d (PE.rd (d_op mul_d (PE.rd (d_lst (das_cons (d_ix (d_rv (pv 2)) (d_rv (pv 4))) das_nil))) (PE.rd (dc C__law_random hr hg (das_cons (d_v (pv 0)) (das_cons d_int das_nil)))))) (PE.rd (d_cut (PE.rd (dc C__law_shuffled hr hg (das_cons (d_v (pv 0)) (das_cons (d_lst (das_cons d_int (das_cons d_int (das_cons d_int (das_cons d_int (das_cons d_int (das_cons d_int (das_cons d_int (das_cons d_int (das_cons d_int (das_cons d_int das_nil))))))))))) das_nil)))) do_none (do_some (PE.rd (d_op add_d (PE.rd d_int) (PE.rd (dc C__law_random hr hg (das_cons (d_v (pv 0)) (das_cons d_int das_nil)))))))))))) das_nil)))))) ds_nil) (ds_cons (ds_asg (dc C__law_pick hr hg (das_cons (d_v (pv 0)) (das_cons (d_lc rfl sc.nd (blkOk_by (own := [("late", 8)]) (by kernel_rfl)) (PI.b (di_r1 B.range_ (PE.rd (d_b1 len_c B.len_ (by kernel_rfl) (d_rv (pv 1)))))) (fun _ _ _ _ _ => (dg_name (pg_name (i := 8) sc.nd rfl (by first | exact .inl rfl | exact .inr rfl)))) (fun _ _ _ _ _ => (dts_one (dt_cmp (ne_d (hu64 hr)) (d_rv (pv 8)) (d_rv (pv 4))))) (fun _ _ _ _ _ => (d_v (pv 8)))) das_nil))) (dg_name (pg_name (i := 6) sc.nd rfl (by first | exact .inl rfl | exact .inr rfl)))) (ds_one (ds_ret (d_if (PW.pt (dw_or (dt_cmp (lt_d (hu64 hr)) (PE.rd (d_ix (d_rv (pv 2)) (d_rv (pv 4)))) (PE.rd (d_ix (d_rv (pv 2)) (d_rv (pv 6))))) (dw_one_or (dt_cmp (eq_d (hu64 hr)) (PE.rd (dc C__law_random hr hg (das_cons (d_v (pv 0)) (das_cons d_int das_nil)))) (PE.rd d_int))))) (d_tup (das_cons d_str (das_cons (d_v (pv 4)) (das_cons (d_v (pv 6)) das_nil)))) (d_tup (das_cons d_str (das_cons (d_v (pv 6)) (das_cons (d_v (pv 4)) das_nil)))))))))))))
theorem w_law_has (B : BltX mg) (C__law_alike : Cal P w K mg base 1 "_law_alike" s_law_alike ["code", "other"] f_law_alike) {f : Addr} {fd : FuncData} (F : Fun K "_law_has" "_law_has" s_law_has f fd) : FnG P w K mg base 2 f fd ["code", "clue"] f_law_has :=
  have sc := sc_law_has
  fnG_of F sc (hN := by decide) fun cdv A outer sh H ga bo hr hg =>
    (ds_cons (ds_if (dt_cmp (eq_d (hu64 hr)) (PE.rd (d_ix (d_rv (pv 1)) (PE.rd d_int))) (PE.rd d_str)) (ds_one (ds_ret (d_cmp (eq_d (hu64 hr)) (PE.rd (dc C__law_alike hr hg (das_cons (d_v (pv 0)) (das_cons (d_ix (d_rv (pv 1)) (PE.rd d_int)) das_nil)))) (PE.rd (d_ix (d_rv (pv 1)) (PE.rd d_int)))))) ds_nil) (ds_cons (ds_if (dt_cmp (eq_d (hu64 hr)) (PE.rd (d_ix (d_rv (pv 1)) (PE.rd d_int))) (PE.rd d_str)) (ds_one (ds_ret (d_cmp (eq_d (hu64 hr)) (PE.rd (d_b1 (sum_c rfl) B.sum_ (by kernel_rfl) (d_rv (pv 0)))) (PE.rd (d_ix (d_rv (pv 1)) (PE.rd d_int)))))) ds_nil) (ds_one (ds_ret (d_if (dt_cmp (eq_d (hu64 hr)) (PE.rd (d_ix (d_rv (pv 1)) (PE.rd d_int))) (PE.rd d_str)) (d_cmp (in_d (hu65 hr)) (PE.rd (d_ix (d_rv (pv 0)) (PE.rd (d_ix (d_rv (pv 1)) (PE.rd d_int))))) (PE.rd (d_ix (d_rv (pv 1)) (PE.rd d_int)))) (d_cmp (lt_d (hu64 hr)) (PE.rd (d_ix (d_rv (pv 0)) (PE.rd (d_ix (d_rv (pv 1)) (PE.rd d_int))))) (PE.rd (d_ix (d_rv (pv 0)) (PE.rd (d_ix (d_rv (pv 1)) (PE.rd d_int)))))))))))
theorem w_law_left (B : BltX mg) (C__law_codes : Cal P w K mg base 1 "_law_codes" s_law_codes ["wheels"] f_law_codes) (C__law_has : Cal P w K mg base 2 "_law_has" s_law_has ["code", "clue"] f_law_has) {f : Addr} {fd : FuncData} (F : Fun K "_law_left" "_law_left" s_law_left f fd) : FnG P w K mg base 3 f fd ["wheels", "clues"] f_law_left :=
  have sc := sc_law_left
  fnG_of F sc (hN := by decide) fun cdv A outer sh H ga bo hr hg =>
    (ds_one (ds_ret (d_lc rfl sc.nd (blkOk_by (own := [("code", 2)]) (by kernel_rfl)) (PI.b (di_lst (dc C__law_codes hr hg (das_cons (d_v (pv 0)) das_nil)))) (fun _ _ _ _ _ => (dg_name (pg_name (i := 2) sc.nd rfl (by first | exact .inl rfl | exact .inr rfl)))) (fun _ _ _ _ _ => (dts_one (dt_cmp (eq_d (hu64 hr)) (PE.rd (d_lc rfl sc.nd (blkOk_by (own := [("clue", 3)]) (by kernel_rfl)) (PI.b (di_lst (d_v (pv 1)))) (fun _ _ _ _ _ => (dg_name (pg_name (i := 3) sc.nd rfl (by first | exact .inl rfl | exact .inr rfl)))) (fun _ _ _ _ _ => (dts_one (dt_not (d_test (PE.rd (dc C__law_has hr hg (das_cons (d_v (pv 2)) (das_cons (d_v (pv 3)) das_nil)))))))) (fun _ _ _ _ _ => (d_v (pv 3))))) (PE.rd (d_lst das_nil))))) (fun _ _ _ _ _ => (d_v (pv 2))))))
theorem w_law_clues (B : BltX mg) (C__law_pick : Cal P w K mg base 3 "_law_pick" s_law_pick ["generator", "things"] f_law_pick) (C__law_random : Cal P w K mg base 2 "_law_random" s_law_random ["generator", "bound"] f_law_random) (C__law_clue : Cal P w K mg base 4 "_law_clue" s_law_clue ["generator", "wheels", "hidden"] f_law_clue) {f : Addr} {fd : FuncData} (F : Fun K "_law_clues" "_law_clues" s_law_clues f fd) : FnG P w K mg base 5 f fd ["generator", "wheels", "many"] f_law_clues :=
  have sc := sc_law_clues
  fnG_of F sc (hN := by decide) fun cdv A outer sh H ga bo hr hg =>
    (ds_cons (ds_asg (d_lc rfl sc.nd (blkOk_by (own := [("figures", 4)]) (by kernel_rfl)) (PI.b (di_lst (d_v (pv 1)))) (fun _ _ _ _ _ => (dg_name (pg_name (i := 4) sc.nd rfl (by first | exact .inl rfl | exact .inr rfl)))) (fun _ _ _ _ _ => dts_nil) (fun _ _ _ _ _ => (dc C__law_pick hr hg (das_cons (d_v (pv 0)) (das_cons (d_v (pv 4)) das_nil))))) (dg_name (pg_name (i := 3) sc.nd rfl (by first | exact .inl rfl | exact .inr rfl)))) (ds_one (ds_ret (d_lc rfl sc.nd (blkOk_by (own := [("turn", 5)]) (by kernel_rfl)) (PI.b (di_r1 B.range_ (PE.rd (dc C__law_random hr hg (das_cons (d_v (pv 0)) (das_cons (d_op add_d (d_rv (pv 2)) (PE.rd d_int)) das_nil)))))) (fun _ _ _ _ _ => (dg_name (pg_name (i := 5) sc.nd rfl (by first | exact .inl rfl | exact .inr rfl)))) (fun _ _ _ _ _ => dts_nil) (fun _ _ _ _ _ => (dc C__law_clue hr hg (das_cons (d_v (pv 0)) (das_cons (d_v (pv 1)) (das_cons (d_v (pv 3)) das_nil)))))))))
theorem w_law_lists (B : BltX mg)  {f : Addr} {fd : FuncData} (F : Fun K "_law_lists" "_law_lists" s_law_lists f fd) : FnG P w K mg base 1 f fd ["many"] f_law_lists :=
  have sc := sc_law_lists
  fnG_of F sc (hN := by decide) fun cdv A outer sh H ga bo hr hg =>
    (ds_cons (ds_asg (d_lst (das_cons (d_lst das_nil) das_nil)) (dg_name (pg_name (i := 1) sc.nd rfl (by first | exact .inl rfl | exact .inr rfl)))) (ds_cons (ds_for PassesOwn.never rfl (di_r1 B.range_ (d_rv (pv 0))) (dg_name (pg_name (i := 2) sc.nd rfl (by first | exact .inl rfl | exact .inr rfl))) (ds_one (ds_asg (d_op add_d (d_rv (pv 1)) (PE.rd (d_lc rfl sc.nd (blkOk_by (own := [("some", 3)]) (by kernel_rfl)) (PI.b (di_lst (d_v (pv 1)))) (fun _ _ _ _ _ => (dg_name (pg_name (i := 3) sc.nd rfl (by first | exact .inl rfl | exact .inr rfl)))) (fun _ _ _ _ _ => dts_nil) (fun _ _ _ _ _ => (d_op add_d (d_rv (pv 3)) (PE.rd (d_lst (das_cons (d_v (pv 2)) das_nil)))))))) (dg_name (pg_name (i := 1) sc.nd rfl (by first | exact .inl rfl | exact .inr rfl)))))) (ds_one (ds_ret (d_lc rfl sc.nd (blkOk_by (own := [("size", 4), ("some", 3)]) (by kernel_rfl)) (PI.b (di_lst (d_b1 (sorted_c (hu65 hr)) B.sorted_ (by kernel_rfl) (PE.rd (d_lc rfl sc.nd (blkOk_by (own := [("some", 3)]) (by kernel_rfl)) (PI.b (di_lst (d_v (pv 1)))) (fun _ _ _ _ _ => (dg_name (pg_name (i := 3) sc.nd rfl (by first | exact .inl rfl | exact .inr rfl)))) (fun _ _ _ _ _ => dts_nil) (fun _ _ _ _ _ => (d_tup (das_cons (d_b1 len_c B.len_ (by kernel_rfl) (d_rv (pv 3))) (das_cons (d_v (pv 3)) das_nil))))))))) (fun _ _ _ _ _ => (dg_tup rfl (dgs_cons (dg_name (pg_name (i := 4) sc.nd rfl (by first | exact .inl rfl | exact .inr rfl))) (dgs_cons (dg_name (pg_name (i := 3) sc.nd rfl (by first | exact .inl rfl | exact .inr rfl))) dgs_nil)))) (fun _ _ _ _ _ => dts_nil) (fun _ _ _ _ _ => (d_v (pv 3))))))))
theorem w_law_caught (B : BltX mg)  (TB : TabB P w K mg base 7 tab) {cE : Value} (hgE : mg "EscapeError" = some cE) (hEm : ∀ z ∈ errs, ∀ C, mg z = some (.ref C) → PySem.W.exmOne K (.ref C) cE = some true) (hEr : ∀ x, ∀ C, mg x = some (.ref C) → x ∈ errs → ErrIs K mg x C) (ET_InvalidClues : ErrT K mg errs "InvalidClues") {f : Addr} {fd : FuncData} (F : Fun K "_law_caught" "_law_caught" s_law_caught f fd) : FnG P w K mg base 8 f fd ["call", "parts"] f_law_caught :=
  have sc := sc_law_caught
  fnG_of F sc (hN := by decide) fun cdv A outer sh H ga bo hr hg =>
    (ds_cons (ds_par (by decide) (ps_par (i := 2) (j := 3) rfl sc.nd rfl rfl (by decide) rfl rfl (pa_cons d_non (pa_cons (d_b1 (reprN_c hg (hu65 hr)) B.repr_ (by kernel_rfl) (d_rv (pv 1))) pa_nil)) rfl)) (ds_cons (ds_try (i := 4) (j := 2) rfl rfl rfl sc.nd rfl rfl rfl rfl ⟨rfl, by decide, .inl hgE⟩ hEm (fun W pn xe tk => (dC_one (dC_if (dt_cmp (eq_d (hu64 hr)) (PE.rd (d_b1 len_c B.len_ (by kernel_rfl) (d_rv (pv 1)))) (PE.rd d_int)) (dC_one (dC_call TB hr hg tk rfl (by first | exact .inl rfl | exact .inr (.inl rfl)) (das_cons (d_ix (d_rv (pv 1)) (PE.rd d_int)) das_nil))) (dC_one (dC_if (dt_cmp (eq_d (hu64 hr)) (PE.rd (d_b1 len_c B.len_ (by kernel_rfl) (d_rv (pv 1)))) (PE.rd d_int)) (dC_one (dC_call TB hr hg tk rfl (by first | exact .inl rfl | exact .inr (.inl rfl)) (das_cons (d_ix (d_rv (pv 1)) (PE.rd d_int)) (das_cons (d_ix (d_rv (pv 1)) (PE.rd d_int)) das_nil)))) (dC_one (dC_if (dt_cmp (eq_d (hu64 hr)) (PE.rd (d_b1 len_c B.len_ (by kernel_rfl) (d_rv (pv 1)))) (PE.rd d_int)) (dC_one (dC_call TB hr hg tk rfl (by first | exact .inl rfl | exact .inr (.inl rfl)) (das_cons (d_ix (d_rv (pv 1)) (PE.rd d_int)) (das_cons (d_ix (d_rv (pv 1)) (PE.rd d_int)) (das_cons (d_ix (d_rv (pv 1)) (PE.rd d_int)) das_nil))))) (dC_one (dC_if (dt_cmp (eq_d (hu64 hr)) (PE.rd (d_b1 len_c B.len_ (by kernel_rfl) (d_rv (pv 1)))) (PE.rd d_int)) (dC_one (dC_call TB hr hg tk rfl (by first | exact .inl rfl | exact .inr (.inl rfl)) (das_cons (d_ix (d_rv (pv 1)) (PE.rd d_int)) (das_cons (d_ix (d_rv (pv 1)) (PE.rd d_int)) (das_cons (d_ix (d_rv (pv 1)) (PE.rd d_int)) (das_cons (d_ix (d_rv (pv 1)) (PE.rd d_int)) das_nil)))))) (dC_one (dC_call TB hr hg tk rfl (by first | exact .inl rfl | exact .inr (.inl rfl)) (das_cons (d_ix (d_rv (pv 1)) (PE.rd d_int)) (das_cons (d_ix (d_rv (pv 1)) (PE.rd d_int)) (das_cons (d_ix (d_rv (pv 1)) (PE.rd d_int)) (das_cons (d_ix (d_rv (pv 1)) (PE.rd d_int)) (das_cons (d_ix (d_rv (pv 1)) (PE.rd d_int)) das_nil))))))))))))))))) (ds_cons (ds_if (dt_cmp (ne_d (hu64 hr)) (PE.rd (d_b1 (reprN_c hg (hu65 hr)) B.repr_ (by kernel_rfl) (d_rv (pv 1)))) (d_rv (pv 3))) (ds_one (ds_ret (d_lst (das_cons d_str das_nil)))) ds_nil) (ds_cons (ds_par (by decide) (ps_par (i := 5) (j := 6) rfl sc.nd rfl rfl (by decide) rfl rfl (pa_cons (d_lst (das_cons d_str das_nil)) (pa_cons (d_lst (das_cons (d_isE ET_InvalidClues B.isi (d_v (pv 2))) das_nil)) pa_nil)) rfl)) (ds_one (ds_ret (d_if (dt_isN (d_rv (pv 2))) d_non (d_lst (das_cons (d_lc rfl sc.nd (blkOk_by (own := [("word", 7), ("one", 8)]) (by kernel_rfl)) (PI.b (di_zip B.zip_ (d_v (pv 5)) (d_v (pv 6)))) (fun _ _ _ _ _ => (dg_tup rfl (dgs_cons (dg_name (pg_name (i := 7) sc.nd rfl (by first | exact .inl rfl | exact .inr rfl))) (dgs_cons (dg_name (pg_name (i := 8) sc.nd rfl (by first | exact .inl rfl | exact .inr rfl))) dgs_nil)))) (fun _ _ _ _ _ => (dts_one (d_test (d_rv (pv 8))))) (fun _ _ _ _ _ => (d_v (pv 7)))) (das_cons (d_b1 (reprN_c hg (hu65 hr)) B.repr_ (by kernel_rfl) (PE.rd (d_valx hEr (d_v (pv 2))))) das_nil))))))))))
theorem w_law_right (B : BltX mg) (C__law_wheels : Cal P w K mg base 4 "_law_wheels" s_law_wheels ["generator", "most", "codes"] f_law_wheels) (C__law_clues : Cal P w K mg base 5 "_law_clues" s_law_clues ["generator", "wheels", "many"] f_law_clues) (C__law_random : Cal P w K mg base 2 "_law_random" s_law_random ["generator", "bound"] f_law_random) (C__law_left : Cal P w K mg base 3 "_law_left" s_law_left ["wheels", "clues"] f_law_left) (C__law_lists : Cal P w K mg base 1 "_law_lists" s_law_lists ["many"] f_law_lists) (C_needless_clues : Cal P w K mg base 7 "needless_clues" s_needless_clues ["wheels", "clues"] f_needless_clues) (C_least_clues : Cal P w K mg base 7 "least_clues" s_least_clues ["wheels", "clues"] f_least_clues) (C__law_same : Cal P w K mg base 4 "_law_same" s_law_same ["found", "due"] (f_law_same 4)) (C_codes_left : Cal P w K mg base 7 "codes_left" s_codes_left ["wheels", "clues"] f_codes_left) (C__law_caught : Cal P w K mg base 8 "_law_caught" s_law_caught ["call", "parts"] f_law_caught) (C__law_no_wheels : Cal P w K mg base 1 "_law_no_wheels" s_law_no_wheels ["wheels"] f_law_no_wheels) (G_least_clues : ∃ a, mg "least_clues" = some (.ref a)) (G_needless_clues : ∃ a, mg "needless_clues" = some (.ref a)) {f : Addr} {fd : FuncData} (F : Fun K "_law_right" "_law_right" s_law_right f fd) : FnG P w K mg base 9 f fd ["generator"] f_law_right :=
  have sc := sc_law_right
  fnG_of F sc (hN := by decide) fun cdv A outer sh H ga bo hr hg =>
    (ds_cons (ds_asg (dc C__law_wheels hr hg (das_cons (d_v (pv 0)) (das_cons d_int (das_cons d_int das_nil)))) (dg_name (pg_name (i := 1) sc.nd rfl (by first | exact .inl rfl | exact .inr rfl)))) (ds_cons (ds_asg (dc C__law_clues hr hg (das_cons (d_v (pv 0)) (das_cons (d_v (pv 1)) (das_cons d_int das_nil)))) (dg_name (pg_name (i := 2) sc.nd rfl (by first | exact .inl rfl | exact .inr rfl)))) (ds_cons (ds_asg (d_op add_d (d_rv (pv 2)) (PE.rd (d_cut (d_rv (pv 2)) do_none (do_some (PE.rd (dc C__law_random hr hg (das_cons (d_v (pv 0)) (das_cons d_int das_nil)))))))) (dg_name (pg_name (i := 2) sc.nd rfl (by first | exact .inl rfl | exact .inr rfl)))) (ds_cons (ds_asg (d_tup (das_cons (d_b1 (reprN_c hg (hu65 hr)) B.repr_ (by kernel_rfl) (PE.rd (d_lst (das_cons (d_v (pv 1)) (das_cons (d_v (pv 2)) das_nil))))) (das_cons (dc C__law_left hr hg (das_cons (d_v (pv 1)) (das_cons (d_v (pv 2)) das_nil))) das_nil))) (dg_tup rfl (dgs_cons (dg_name (pg_name (i := 3) sc.nd rfl (by first | exact .inl rfl | exact .inr rfl))) (dgs_cons (dg_name (pg_name (i := 4) sc.nd rfl (by first | exact .inl rfl | exact .inr rfl))) dgs_nil)))) (ds_cons (ds_asg (d_lc rfl sc.nd (blkOk_by (own := [("at", 12)]) (by kernel_rfl)) (PI.b (di_r1 B.range_ (PE.rd (d_b1 len_c B.len_ (by kernel_rfl) (d_rv (pv 2)))))) (fun _ _ _ _ _ => (dg_name (pg_name (i := 12) sc.nd rfl (by first | exact .inl rfl | exact .inr rfl)))) (fun _ _ _ _ _ => (dts_one (dt_cmp (eq_d (hu64 hr)) (PE.rd (dc C__law_left hr hg (das_cons (d_v (pv 1)) (das_cons (d_op add_d (PE.rd (d_cut (d_rv (pv 2)) do_none (do_some (d_rv (pv 12))))) (PE.rd (d_cut (d_rv (pv 2)) (do_some (PE.rd (d_op add_d (d_rv (pv 12)) (PE.rd d_int)))) do_none))) das_nil)))) (d_rv (pv 4))))) (fun _ _ _ _ _ => (d_v (pv 12)))) (dg_name (pg_name (i := 5) sc.nd rfl (by first | exact .inl rfl | exact .inr rfl)))) (ds_cons (ds_asg (d_lc rfl sc.nd (blkOk_by (own := [("some", 10)]) (by kernel_rfl)) (PI.b (di_lst (dc C__law_lists hr hg (das_cons (d_b1 len_c B.len_ (by kernel_rfl) (d_rv (pv 2))) das_nil)))) (fun _ _ _ _ _ => (dg_name (pg_name (i := 10) sc.nd rfl (by first | exact .inl rfl | exact .inr rfl)))) (fun _ _ _ _ _ => (dts_one (dt_cmp (eq_d (hu64 hr)) (PE.rd (dc C__law_left hr hg (das_cons (d_v (pv 1)) (das_cons (d_lc rfl sc.nd (blkOk_by (own := [("at", 12)]) (by kernel_rfl)) (PI.b (di_lst (d_v (pv 10)))) (fun _ _ _ _ _ => (dg_name (pg_name (i := 12) sc.nd rfl (by first | exact .inl rfl | exact .inr rfl)))) (fun _ _ _ _ _ => dts_nil) (fun _ _ _ _ _ => (d_ix (d_rv (pv 2)) (d_rv (pv 12))))) das_nil)))) (d_rv (pv 4))))) (fun _ _ _ _ _ => (d_v (pv 10)))) (dg_name (pg_name (i := 6) sc.nd rfl (by first | exact .inl rfl | exact .inr rfl)))) (ds_cons (ds_asg (d_lc rfl sc.nd (blkOk_by (own := [("some", 10)]) (by kernel_rfl)) (PI.b (di_lst (d_v (pv 6)))) (fun _ _ _ _ _ => (dg_name (pg_name (i := 10) sc.nd rfl (by first | exact .inl rfl | exact .inr rfl)))) (fun _ _ _ _ _ => (dts_one (dt_cmp (eq_d (hu64 hr)) (PE.rd (d_b1 len_c B.len_ (by kernel_rfl) (d_rv (pv 10)))) (PE.rd (d_b1 len_c B.len_ (by kernel_rfl) (PE.rd (d_ix (d_rv (pv 6)) (PE.rd d_int)))))))) (fun _ _ _ _ _ => (d_v (pv 10)))) (dg_name (pg_name (i := 7) sc.nd rfl (by first | exact .inl rfl | exact .inr rfl)))) (dss_split 6 (dss_scope (dSS_cons (fun ga bo => (ds_asg (d_lst (das_cons (dc C_needless_clues hr hg (das_cons (d_v (pv 1)) (das_cons (d_v (pv 2)) das_nil))) (das_cons (dcK0 C_needless_clues hr hg (kw_needless_clues_0_clues_wheels) (dk_cons (d_v (pv 2)) (dk_cons (d_v (pv 1)) dk_nil)) (esN_cons (esN_cons esN_nil))) das_nil))) (dg_name (pg_name (i := 8) sc.nd rfl (by first | exact .inl rfl | exact .inr rfl))))) (dSS_cons (fun ga bo => (ds_asg (d_lst (das_cons (dc C_least_clues hr hg (das_cons (d_v (pv 1)) (das_cons (d_v (pv 2)) das_nil))) (das_cons (dcK0 C_least_clues hr hg (kw_least_clues_0_clues_wheels) (dk_cons (d_v (pv 2)) (dk_cons (d_v (pv 1)) dk_nil)) (esN_cons (esN_cons esN_nil))) das_nil))) (dg_name (pg_name (i := 9) sc.nd rfl (by first | exact .inl rfl | exact .inr rfl))))) (dSS_cons (fun ga bo => (ds_if (PW.pt (dw_or (dt_not (d_test (d_uw (dcD C__law_same hr hg (das_cons (d_v (pv 8)) (das_cons (d_lst (das_cons (d_v (pv 5)) (das_cons (d_v (pv 5)) das_nil))) das_nil)))))) (dw_one_or (dt_not (d_test (d_uw (dcD C__law_same hr hg (das_cons (d_v (pv 9)) (das_cons (d_lst (das_cons (d_v (pv 7)) (das_cons (d_v (pv 7)) das_nil))) das_nil))))))))) (ds_one (ds_ret d_bl)) ds_nil)) (dSS_cons (fun ga bo => (ds_if (dt_cmp (op_i (ne_d (hu64 hr))) (PE.rd (d_lc rfl sc.nd (blkOk_by (own := [("at", 12)]) (by kernel_rfl)) (PI.b (di_r1 B.range_ (d_uw (d_b1 (c1_i len_c) B.len_ (by kernel_rfl) (d_uw (d_v (pv 2))))))) (fun _ _ _ _ _ => (dg_name (pg_name (i := 12) sc.nd rfl (by first | exact .inl rfl | exact .inr rfl)))) (fun _ _ _ _ _ => (dts_one (PW.pt (dw_and (dt_cmp (op_i (notIn_d (hu65 hr))) (d_uw (d_v (pv 12))) (d_uw (d_b2 (sumLD_c rfl) B.sum_ (by kernel_rfl) (d_uw (d_v (pv 7))) (PE.rd (d_lst das_nil))))) (dw_one_and (dt_cmp (op_i (notIn_d (hu65 hr))) (d_uw (d_v (pv 12))) (d_uw (d_v (pv 5))))))))) (fun _ _ _ _ _ => (d_v (pv 12))))) (PE.rd (d_lst das_nil))) (ds_one (ds_ret d_bl)) ds_nil)) (dSS_ops (o1 := [.one 8 [0], .each 9 [0] 10]) (o2 := []) (pops_one (ps_oddP (pa_ix (k := 0) (pa_nm (pv 8)))) (pops_each (ps_each (j := 10) (pa_ix (k := 0) (pa_nm (pv 9))) sc.nd rfl (by first | exact .inl rfl | exact .inr rfl) (ps_oddP (pa_nm (pv 10)))) pops_nil)))))))) (ds_cons (ds_if (dt_cmp (ne_d (hu64 hr)) (PE.rd (d_lc rfl sc.nd (blkOk_by (own := [("some", 10)]) (by kernel_rfl)) (PI.b (di_lst (d_v (pv 7)))) (fun _ _ _ _ _ => (dg_name (pg_name (i := 10) sc.nd rfl (by first | exact .inl rfl | exact .inr rfl)))) (fun _ _ _ _ _ => (dts_one (dt_cmp (ne_d (hu64 hr)) (PE.rd (dc C_codes_left hr hg (das_cons (d_v (pv 1)) (das_cons (d_lc rfl sc.nd (blkOk_by (own := [("at", 12)]) (by kernel_rfl)) (PI.b (di_lst (d_v (pv 10)))) (fun _ _ _ _ _ => (dg_name (pg_name (i := 12) sc.nd rfl (by first | exact .inl rfl | exact .inr rfl)))) (fun _ _ _ _ _ => dts_nil) (fun _ _ _ _ _ => (d_ix (d_rv (pv 2)) (d_rv (pv 12))))) das_nil)))) (PE.rd (d_b1 len_c B.len_ (by kernel_rfl) (d_rv (pv 4))))))) (fun _ _ _ _ _ => (d_v (pv 10))))) (PE.rd (d_lst das_nil))) (ds_one (ds_ret d_bl)) ds_nil) (ds_cons (ds_for PassesOwn.never rfl (di_lst (d_lst (das_cons d_non (das_cons (d_tup das_nil) (das_cons d_dct0 (das_cons (d_lst (das_cons d_non das_nil)) (das_cons (d_op add_d (d_rv (pv 2)) (PE.rd (d_lst (das_cons (d_tup (das_cons d_str das_nil)) das_nil)))) (das_cons (d_lst (das_cons (d_tup (das_cons d_str (das_cons d_int (das_cons d_int das_nil)))) das_nil)) (das_cons d_str das_nil))))))))) (dg_name (pg_name (i := 11) sc.nd rfl (by first | exact .inl rfl | exact .inr rfl))) (ds_one (ds_if (PW.pt (dw_or (dt_cmp (ne_d (hu64 hr)) (PE.rd (dc C__law_caught hr hg (das_cons (d_fn G_needless_clues) (das_cons (d_lst (das_cons (d_v (pv 1)) (das_cons (d_v (pv 11)) das_nil))) das_nil)))) (PE.rd (d_lst (das_cons (d_lst (das_cons d_str das_nil)) (das_cons (d_b1 (reprN_c hg (hu65 hr)) B.repr_ (by kernel_rfl) (d_rv (pv 11))) das_nil))))) (dw_one_or (dt_cmp (ne_d (hu64 hr)) (PE.rd (dc C__law_caught hr hg (das_cons (d_fn G_least_clues) (das_cons (d_lst (das_cons (d_v (pv 1)) (das_cons (d_v (pv 11)) das_nil))) das_nil)))) (PE.rd (d_lst (das_cons (d_lst (das_cons d_str das_nil)) (das_cons (d_b1 (reprN_c hg (hu65 hr)) B.repr_ (by kernel_rfl) (d_rv (pv 11))) das_nil)))))))) (ds_one (ds_ret d_bl)) ds_nil))) (ds_cons (ds_for PassesOwn.never rfl (di_lst (dc C__law_no_wheels hr hg (das_cons (d_v (pv 1)) das_nil))) (dg_name (pg_name (i := 11) sc.nd rfl (by first | exact .inl rfl | exact .inr rfl))) (ds_one (ds_if (PW.pt (dw_or (dt_cmp (ne_d (hu64 hr)) (PE.rd (dc C__law_caught hr hg (das_cons (d_fn G_needless_clues) (das_cons (d_lst (das_cons (d_v (pv 11)) (das_cons d_non das_nil))) das_nil)))) (PE.rd (d_lst (das_cons (d_lst (das_cons d_str das_nil)) (das_cons (d_b1 (reprN_c hg (hu65 hr)) B.repr_ (by kernel_rfl) (d_rv (pv 11))) das_nil))))) (dw_one_or (dt_cmp (ne_d (hu64 hr)) (PE.rd (dc C__law_caught hr hg (das_cons (d_fn G_least_clues) (das_cons (d_lst (das_cons (d_v (pv 11)) (das_cons d_non das_nil))) das_nil)))) (PE.rd (d_lst (das_cons (d_lst (das_cons d_str das_nil)) (das_cons (d_b1 (reprN_c hg (hu65 hr)) B.repr_ (by kernel_rfl) (d_rv (pv 11))) das_nil)))))))) (ds_one (ds_ret d_bl)) ds_nil))) (ds_one (ds_ret (d_and (PE.rd (dc C__law_same hr hg (das_cons (d_lst (das_cons (dc C_needless_clues hr hg (das_cons (d_v (pv 1)) (das_cons (d_v (pv 2)) das_nil))) (das_cons (dc C_least_clues hr hg (das_cons (d_v (pv 1)) (das_cons (d_v (pv 2)) das_nil))) das_nil))) (das_cons (d_lst (das_cons (d_v (pv 5)) (das_cons (d_v (pv 7)) das_nil))) das_nil)))) (d_one (d_cmp (eq_d (hu64 hr)) (PE.rd (d_b1 (reprN_c hg (hu65 hr)) B.repr_ (by kernel_rfl) (PE.rd (d_lst (das_cons (d_v (pv 1)) (das_cons (d_v (pv 2)) das_nil)))))) (d_rv (pv 3))))))))))))))))))
end
end K78

/-! ## HK78 -/
set_option Elab.async false
set_option autoImplicit false
set_option linter.all false
set_option maxRecDepth 100000
set_option maxHeartbeats 4000000
namespace K78
open PySem PySem.Spec PyProof.Rows L2 DL
section
variable {P : Program} {w : World} {K : PySem.W.Frag} {mg : Str → Option Value} {base : Heap}
/-- a number of the script -/
def cellOf (ns : List Int) (i : Nat) : Int := match ns[i]? with
  | some x => x
  | none => (ns.take 1).sum % 1000003
def spCell (K : PySem.W.Frag) : List V → Hp → VK → Prop := fun vs H Q => ∃ (a : Addr) (ns : List Int) (i : Nat), vs = [.ref a, .int i] ∧ SqL K H a (ns.map V.int) ∧ i < 1000 ∧ ∀ H', Same H H' → Q (.int (cellOf ns i)) H'
theorem q_law_cell (B : BltX mg) {f : Addr} {fd : FuncData} (F : Fun K "_law_cell" "_law_cell" s_law_cell f fd) : FnQ P w K mg base 1 f fd ["script", "index"] (spCell K) :=
  fnQ_of F sc_law_cell fun cdv A outer sh H vs Q hr hg hl ⟨a, ns, i, e, hS, hi, q⟩ => by
    subst e
    refine ⟨_, pss_cons (ps_if (pt_cmpR op_lt (pv 1) (pe_callB call_len_seq (by rfl) B.len_ (by kernel_rfl) (pa_cons (pv 0) pa_nil)) rfl) (pss_one (ps_ret (pe_ix ix_list (pv 0) (pv 1) (fun _ _ => rfl)))) pss_nil)
      (pss_one (ps_ret (pe_op op_mod (pe_callB (cr_sum rfl) (by rfl) B.sum_ (by kernel_rfl) (pa_cons (pe_slice sl_list (pv 0) po_none (po_some pe_int)) pa_nil)) pe_int))), ?_⟩
    refine ⟨.int i, rfl, .ref a, rfl, a, ns.map V.int, rfl, .inl hS, i, (ns.map V.int).length, rfl, rfl, _, rfl, ?_⟩
    by_cases h : i < ns.length
    · rw [decide_eq_true (show (i : Int) < ((ns.map V.int).length : Nat) by rw [List.length_map]; omega)]
      refine iteT ⟨.ref a, rfl, .int i, rfl, a, _, i, .int ns[i], rfl, rfl, hS, atI_nat (by rw [List.getElem?_map, List.getElem?_eq_getElem h]; rfl), ?_⟩
      have q' := q H (.refl H)
      unfold cellOf at q'
      rw [List.getElem?_eq_getElem h] at q'
      exact q'
    · rw [decide_eq_false (show ¬ (i : Int) < ((ns.map V.int).length : Nat) by rw [List.length_map]; omega)]
      refine iteF ⟨.ref a, rfl, 1, rfl, a, _, rfl, hS, fun p hp => ?_⟩
      have ec : cutV (ns.map V.int) none (some 1) = (ns.take 1).map V.int := by
        rw [cut_eq]
        unfold cut cutEnd
        rw [List.map_take]
        cases ns <;> simp
      refine ⟨p, ns.take 1, rfl, SqL.of (by rw [upd_same, ec]), _, _, rfl, rfl, (show (0 : Int) < 1000003 by decide), ?_⟩
      have q' := q (upd H p (.lst (cutV (ns.map V.int) none (some 1)))) fun b o e => by rw [upd_ne (ne_of_none e hp)]; exact e
      unfold cellOf at q'
      rw [List.getElem?_eq_none (by omega)] at q'
      exact q'
/-! ### the generator's list -/
def big18 : Int := 10 ^ 18
def gen0 (x : Int) : Int := (if x - 10 ^ 18 < 0 then 0 else x - 10 ^ 18) % (10 ^ 60) ^ 10
def genOf (ns : List Int) (i : Nat) : List Int := [gen0 (cellOf ns i), cellOf ns i % 2147483647, 1000 * (i : Int)]
def spGen (K : PySem.W.Frag) : List V → Hp → VK → Prop := fun vs H Q => ∃ (a : Addr) (ns : List Int) (i : Nat), vs = [.ref a, .int i] ∧ SqL K H a (ns.map V.int) ∧ i < 1000 ∧ ∀ p H', Same H H' → H p = none → H' p = some (.lst ((genOf ns i).map V.int)) → Q (.ref p) H'
def genE : Es := esC (eO dMod (eF dInt (eO dMax2 (eO dSub (eV 2) (eO dPow (eK (.int 10)) (eK (.int 18)))) (eK (.int 0)))) (eO dPow (eO dPow (eK (.int 10)) (eK (.int 60))) (eK (.int 10)))) (esC (eO dMod (eF dInt (eV 2)) (eK (.int 2147483647))) (esC (eO dMul (eK (.int 1000)) (eV 1)) esN))
theorem q_law_generator (B : BltX mg) (C : ∃ f fd, mg "_law_cell" = some (.ref f) ∧ Fun K "_law_cell" "_law_cell" s_law_cell f fd ∧ Binds K fd ["script", "index"] [] ∧ FnQ P w K mg base 1 f fd ["script", "index"] (spCell K)) {f : Addr} {fd : FuncData} (F : Fun K "_law_generator" "_law_generator" s_law_generator f fd) : FnQ P w K mg base 2 f fd ["script", "index"] (spGen K) :=
  fnQ_of F sc_law_generator fun cdv A outer sh H vs Q hr hg hl ⟨a, ns, i, e, hS, hi, q⟩ => by
    subst e
    obtain ⟨fc, fdc, c1, c2, c3, c4⟩ := C
    have sc := sc_law_generator
    refine ⟨_, pss_cons (ps_set (i := 2) sc.nd rfl (by first | exact .inl rfl | exact .inr rfl) (pe_callQ c4 hr hg c1 c2.kp c3 (pa_cons (pv 0) (pa_cons (pv 1) pa_nil))))
      (pss_one (ps_ret (dn_lst (c := ⟨K, mg, none, fun _ => none⟩) (fs := genE) (das_cons (d_op mod_d (.rd (d_t1 int_c B.int_ (by kernel_rfl) (.rd (d_b2 (max2_c rfl) B.max_ (by kernel_rfl) (.rd (d_op sub_d (d_rv (pv 2)) (.rd (d_op pow_d (.rd d_int) (.rd d_int))))) (.rd d_int))))) (.rd (d_op pow_d (.rd (d_op pow_d (.rd d_int) (.rd d_int))) (.rd d_int))))
        (das_cons (d_op mod_d (.rd (d_t1 int_c B.int_ (by kernel_rfl) (d_rv (pv 2)))) (.rd d_int)) (das_cons (d_op mul_d (.rd d_int) (d_rv (pv 1))) das_nil)))))), ?_⟩
    refine ⟨.ref a, rfl, .int i, rfl, rfl, a, ns, i, rfl, hS, hi, fun H1 s1 => ?_⟩
    refine ⟨H1, fun _ => none, [.no, .val (.int i), .val (.int (cellOf ns i))], [], (genOf ns i).map D.int, [], ⟨fun b o e => (by cases e), ⟨fun b e => (by cases e), fun b o e => (by cases e), fun b e => (by cases e)⟩, rfl, fun j d h => ?_, fun j xs h => ?_, fun j k xs ys ne h1 h2 => ?_, fun b o e => (by cases e)⟩, ?_, fun p vs F' H' st e1 e2 e3 r => ?_⟩
    · match j, h with
      | 0, h => cases h
      | 1, h => cases h; exact ⟨.int i, rfl, .int _⟩
      | 2, h => cases h; exact ⟨_, rfl, .int _⟩
    · match j, h with
      | 0, h => cases h
      | 1, h => cases h
      | 2, h => cases h
    · match j, h1 with
      | 0, h => cases h
      | 1, h => cases h
      | 2, h => cases h
    · have p1 : dPow (.int 10) (.int 18) = pure (.int (10 ^ 18)) := rfl
      have p2 : dPow (.int 10) (.int 60) = pure (.int (10 ^ 60)) := rfl
      have p3 : dPow (.int (10 ^ 60)) (.int 10) = pure (.int ((10 ^ 60) ^ 10)) := rfl
      have m1 : dMul (.int 1000) (.int i) = pure (.int (1000 * i)) := by
        show (if big 1000 + big i < 1000000 then _ else _) = _
        unfold big
        rw [if_pos]
        have h2 : (i : Int).natAbs.log2 ≤ i := Nat.log2_le_self i
        have h3 : (1000 : Int).natAbs.log2 = 9 := by decide
        omega
      refine ok_bind.mpr ⟨_, _, (?_ : Ok (genE _) [] ((genOf ns i).map D.int) []), ok_pure.mpr ⟨rfl, rfl⟩⟩
      have ee : genE [.no, .val (.int i), .val (.int (cellOf ns i))] = pure ((genOf ns i).map D.int) := by
        simp only [genE, esC, esN, eO, eF, eV, eK, pure_bind, p1, p2, p3, m1, dSub, dMax2, dInt, List.getElem?_cons_succ, List.getElem?_cons_zero, dMod]
        rfl
      rw [ee]
      exact ok_pure.mpr ⟨rfl, rfl⟩
    · rw [RepAll.ofInts r] at e1
      exact q p H' (s1.trans fun b o e => st.ext b o (fun z => (by cases z)) e) (by
        cases e : H p with
        | none => rfl
        | some u => rw [s1 p u e] at e3; cases e3) e1
end
end K78

/-! ## LK78 -/
set_option Elab.async false
set_option autoImplicit false
set_option linter.all false
set_option maxRecDepth 100000
set_option maxHeartbeats 4000000
namespace K78
open PySem PySem.Spec PyProof.Rows L2 DL
section
variable {P : Program} {w : World} {K : PySem.W.Frag} {mg : Str → Option Value} {base : Heap}
def spLaw (K : PySem.W.Frag) : List V → Hp → VK → Prop := fun vs H Q => ∃ (a : Addr) (ns : List Int), vs = [.ref a] ∧ SqL K H a (ns.map V.int) ∧ ∀ H', Q (.bl true) H'
theorem q_law (B : BltX mg) (C__law_right : Cal P w K mg base 9 "_law_right" s_law_right ["generator"] f_law_right) (C_least_clues : Cal P w K mg base 7 "least_clues" s_least_clues ["wheels", "clues"] f_least_clues) (C_needless_clues : Cal P w K mg base 7 "needless_clues" s_needless_clues ["wheels", "clues"] f_needless_clues)
    (C : ∃ f fd, mg "_law_generator" = some (.ref f) ∧ Fun K "_law_generator" "_law_generator" s_law_generator f fd ∧ Binds K fd ["script", "index"] [] ∧ FnQ P w K mg base 2 f fd ["script", "index"] (spGen K))
    (right : ∀ (ns : List Int) (i : Nat), i < 3 → ∃ g2, Ok (eTurn (lawSl 5)) (genOf ns i) (.bl false) g2) (far : ∃ g2, Ok (sLaw (List.replicate 5 .no)) [] (.rt (.bl true)) g2)
    {f : Addr} {fd : FuncData} (F : Fun K "law" "law" s_law f fd) : FnQ P w K mg base 10 f fd ["script"] (spLaw K) :=
  fnQ_of F sc_law fun cdv A outer sh H vs Q hr hg hl ⟨a, ns, e, hS, q⟩ => by
    subst e
    obtain ⟨fc, fdc, c1, c2, c3, c4⟩ := C
    have sc := sc_law
    refine ⟨_, pss_cons (ps_for PassesOwn.never rfl (pi_range1 (by rfl) B.range_ (pa_cons pe_int pa_nil)) (pg_name (i := 1) sc.nd rfl (by first | exact .inl rfl | exact .inr rfl))
      (pss_cons (ps_set (i := 2) sc.nd rfl (by first | exact .inl rfl | exact .inr rfl) (pe_callQ (c4.mono (by decide : 2 ≤ 9)) hr hg c1 c2.kp c3 (pa_cons (pv 0) (pa_cons (pv 1) pa_nil))))
        (pss_one (ps_if (ptx (f := eTurn) fun ga bo => (PW.pt (dw_or (dt_not (d_test (PE.rd (dc C__law_right hr hg (das_cons (d_v (pv 2)) das_nil))))) (dw_one_or (dt_not (d_test (PE.rd (dc C__law_right hr hg (das_cons (d_v (pv 2)) das_nil))))))))) pss_never pss_nil))))
      ((fun (ga : Option Addr) (bo : Hp) => ((ds_cons (ds_par (by decide) (ps_par (i := 3) (j := 4) rfl sc.nd rfl rfl (by decide) rfl rfl (pa_cons (d_lst (das_cons (d_lst (das_cons d_int (das_cons d_int das_nil))) (das_cons (d_lst (das_cons d_int (das_cons d_int das_nil))) das_nil))) (pa_cons (d_lst (das_cons (d_tup (das_cons d_str (das_cons d_int das_nil))) (das_cons (d_tup (das_cons d_str (das_cons d_int (das_cons d_int das_nil)))) (das_cons (d_tup (das_cons d_str (das_cons (d_lst (das_cons d_int (das_cons d_int das_nil))) (das_cons d_int das_nil)))) das_nil)))) pa_nil)) rfl)) (ds_one (ds_ret (d_cmp (eq_d (hu64 hr)) (PE.rd (d_lst (das_cons (dc C_needless_clues hr hg (das_cons (d_v (pv 3)) (das_cons (d_v (pv 4)) das_nil))) (das_cons (dc C_least_clues hr hg (das_cons (d_v (pv 3)) (das_cons (d_v (pv 4)) das_nil))) (das_cons (dc C_needless_clues hr hg (das_cons (d_v (pv 3)) (das_cons (d_lst das_nil) das_nil))) (das_cons (dc C_least_clues hr hg (das_cons (d_v (pv 3)) (das_cons (d_lst das_nil) das_nil))) das_nil)))))) (PE.rd (d_lst (das_cons (d_lst (das_cons d_int (das_cons d_int (das_cons d_int das_nil)))) (das_cons (d_lst (das_cons (d_lst (das_cons d_int das_nil)) (das_cons (d_lst (das_cons d_int das_nil)) das_nil))) (das_cons (d_lst das_nil) (das_cons (d_lst (das_cons (d_lst das_nil) das_nil)) das_nil)))))))))) : PSs _ _ (tS ⟨K, mg, ga, bo⟩ _))) none (fun _ => none)), ?_⟩
    refine ⟨3, rfl, by decide, by decide, ?_⟩
    refine ⟨fun i m σ H' => m = 3 - i ∧ i ≤ 3 ∧ σ.length = 5 ∧ σ[0]? = some (some (.ref a)) ∧ SqL K H' a (ns.map V.int), ⟨3, rfl, by decide, rfl, rfl, hS⟩, fun i m σ H1 h => ?_⟩
    obtain ⟨rfl, hi, hlen, h0, hS1⟩ := h
    by_cases hlt : i < 3
    · refine .inr ⟨hlt, fun σ' H' => σ'.length = 5 ∧ σ'[0]? = some (some (.ref a)) ∧ SqL K H' a (ns.map V.int), fun σ' H' hN => ⟨3 - (i + 1), by omega, rfl, hlt, hN⟩, fun x H2 hy => ?_⟩
      obtain ⟨rfl, rfl⟩ := hy
      have e0 : (σ.set 1 (some (V.int (0 + (i : Nat)))))[0]? = some (some (.ref a)) := by rw [List.getElem?_set_ne (by decide)]; exact h0
      have e1 : (σ.set 1 (some (V.int (0 + (i : Nat)))))[1]? = some (some (.int i)) := by rw [List.getElem?_set_self (by omega), Int.zero_add]
      refine ⟨.ref a, e0, .int i, e1, rfl, a, ns, i, rfl, hS1, by omega, fun p H3 s3 hp hp3 => ?_⟩
      obtain ⟨g2, o2⟩ := right ns i hlt
      refine ⟨some p, fun _ => none, H3, fun _ => none, lawSl 5, genOf ns i, false, g2, law_wd (by decide) (by simp [hlen]) (by rw [List.getElem?_set_self (by simp [hlen])]) hp3, o2, fun F' H' st => iteF ?_⟩
      exact ⟨by simp [hlen], by rw [List.getElem?_set_ne (by decide)]; exact e0, sq_stay hS1 hp s3 st⟩
    · have e : i = 3 := by omega
      subst e
      refine .inl ⟨Nat.le_refl _, ?_⟩
      obtain ⟨g2, far⟩ := far
      refine ⟨fun _ => none, H1, fun _ => none, List.replicate 5 .no, [], _, g2, law_wd0 hlen, .refl (fun b o e => (by cases e)) ⟨fun b e => (by cases e), fun b o e => (by cases e), fun b e => (by cases e)⟩, far, fun v F' H' st r => ?_⟩
      cases r
      exact q H'
end
end K78

/-! ## MAK78 -/
set_option autoImplicit false
set_option linter.all false
set_option maxRecDepth 100000
set_option maxHeartbeats 2000000
namespace K78
open PySem DL
/-! ### the mathematics -/
def allC (W : List (List Int)) : List (List Int) := W.foldl (fun cs fs => cs.flatMap fun c => fs.map fun f => c ++ [f]) [[]]
def szC : List (List Int) → Nat
  | [] => 1
  | fs :: W => fs.length * szC W
theorem szC_app : ∀ (a b : List (List Int)), szC (a ++ b) = szC a * szC b
  | [], b => by simp [szC]
  | x :: a, b => by simp [szC, szC_app a b, Nat.mul_assoc]
theorem allC_snoc (W : List (List Int)) (fs : List Int) : allC (W ++ [fs]) = (allC W).flatMap fun c => fs.map fun f => c ++ [f] := by
  unfold allC
  rw [List.foldl_append]
  rfl
theorem snoc_ind {P : List (List Int) → Prop} (h0 : P []) (h1 : ∀ W fs, P W → P (W ++ [fs])) (W : List (List Int)) : P W := by
  have : ∀ V : List (List Int), P V.reverse := fun V => by
    induction V with
    | nil => exact h0
    | cons x V ih => rw [List.reverse_cons]; exact h1 _ _ ih
  rw [← List.reverse_reverse W]
  exact this _
theorem flat_len (cs : List (List Int)) (fs : List Int) : (cs.flatMap fun c => fs.map fun f => c ++ [f]).length = cs.length * fs.length := by
  induction cs with
  | nil => simp
  | cons c cs ih => rw [List.flatMap_cons, List.length_append, ih, List.length_map, List.length_cons, Nat.add_mul]; omega
theorem allC_len (W : List (List Int)) : (allC W).length = szC W := by
  induction W using snoc_ind with
  | h0 => rfl
  | h1 W fs ih => rw [allC_snoc, flat_len, ih, szC_app]; simp [szC]
/-- wheels as the law draws them -/
structure Wh (W : List (List Int)) : Prop where
  ne : W ≠ []
  fs : ∀ c ∈ W, c ≠ [] ∧ (∀ x ∈ c, 0 ≤ x ∧ x < 10) ∧ c.Pairwise (· < ·)
  few : W.length ≤ 4
  sz : szC W ≤ 300
theorem szC_pos : ∀ {W : List (List Int)}, (∀ c ∈ W, c ≠ []) → 1 ≤ szC W
  | [], _ => by simp [szC]
  | c :: W, h => by
    have h1 : 1 ≤ c.length := by
      have := h c List.mem_cons_self
      cases c with
      | nil => exact absurd rfl this
      | cons _ _ => simp
    have h2 := szC_pos (W := W) fun d hd => h d (List.mem_cons_of_mem _ hd)
    show 1 ≤ c.length * szC W
    exact Nat.mul_pos h1 h2
theorem Wh.pre {W p q : List (List Int)} (h : Wh W) (e : W = p ++ q) : szC p ≤ 300 := by
  have h1 := h.sz
  rw [e, szC_app] at h1
  have h2 : 1 ≤ szC q := szC_pos fun c hc => (h.fs c (by rw [e]; exact List.mem_append_right _ hc)).1
  exact Nat.le_trans (Nat.le_mul_of_pos_right _ h2) h1
theorem digit_small {x : Int} (h : 0 ≤ x ∧ x < 10) : smallI x := small_of (by omega)
theorem Wh.len {W : List (List Int)} (h : Wh W) {c : List Int} (hc : c ∈ W) : c.length ≤ 300 := by
  obtain ⟨p, q, e⟩ := List.append_of_mem hc
  have := h.pre (p := p ++ [c]) (q := q) (by simp [e])
  rw [szC_app] at this
  have h2 : 1 ≤ szC p := szC_pos fun d hd => (h.fs d (by rw [e]; exact List.mem_append_left _ hd)).1
  simp only [szC, Nat.mul_one] at this
  exact Nat.le_trans (Nat.le_mul_of_pos_left _ h2) this
theorem allC_in : ∀ (W : List (List Int)), ∀ c ∈ allC W, c.length = W.length ∧ ∀ x ∈ c, ∃ fs ∈ W, x ∈ fs := by
  intro W
  induction W using snoc_ind with
  | h0 => intro c hc; have : c = [] := by simpa [allC] using hc
          subst this; simp
  | h1 W fs ih =>
    intro c hc
    rw [allC_snoc, List.mem_flatMap] at hc
    obtain ⟨d, hd, hc⟩ := hc
    rw [List.mem_map] at hc
    obtain ⟨f, hf, rfl⟩ := hc
    obtain ⟨h1, h2⟩ := ih d hd
    refine ⟨by simp [h1], fun x hx => ?_⟩
    rw [List.mem_append] at hx
    rcases hx with hx | hx
    · obtain ⟨g, hg, hxg⟩ := h2 x hx
      exact ⟨g, List.mem_append_left _ hg, hxg⟩
    · have : x = f := by simpa using hx
      subst this
      exact ⟨fs, by simp, hf⟩
theorem Wh.digits {W : List (List Int)} (h : Wh W) {c : List Int} (hc : c ∈ allC W) : ∀ x ∈ c, 0 ≤ x ∧ x < 10 := fun x hx => by
  obtain ⟨fs, h1, h2⟩ := (allC_in W c hc).2 x hx
  exact (h.fs fs h1).2.1 x h2
theorem Wh.small {W : List (List Int)} (h : Wh W) : ∀ c ∈ W, ∀ i ∈ c, smallI i := fun c hc i hi => digit_small ((h.fs c hc).2.1 i hi)
/-! ### the checks -/
theorem is_count_int (i : Int) : f_is_count [.int i] = pure (.bl (decide (0 ≤ i))) := by
  simp [f_is_count, f_is_whole, fn, startD, sRet, eAnd, eF, eO, eV, eW, eK, eCall, esC, esN, dIsI, D.ty, isTy, dNot, dGe]
theorem is_count_bl (b : Bool) : f_is_count [.bl b] = pure (.bl false) := by
  simp [f_is_count, f_is_whole, fn, startD, sRet, eAnd, eF, eO, eV, eW, eK, eCall, esC, esN, dIsI, D.ty, isTy, dNot, dGe]
theorem eLc_in {α : Type} (xs : List α) (emb : α → D) {δ : Dlt} {i : Nat} (h : eW i δ = pure (.lst (xs.map emb))) : xL (eW i) δ = pure (xs.map emb) := by
  unfold xL
  rw [h, pure_bind]
  rfl
theorem all_codes_eq {W : List (List Int)} (h : Wh W) : f_all_codes [codesD W] = pure (codesD (allC W)) := by
  have loop := forGo_pre (g := gN 2) (s := sAsg (gN 1) (eLc2 [3, 4] [4] (gN 3) (xL (eW 1)) (eK (.bl true)) (gN 4) (xL (eW 2)) (eK (.bl true)) (eO dAdd (eV 3) (eLst (esC (eW 4) (esN)))))) (emb := codeD)
    (I := fun p δ => ∃ a2 a3 a4, δ = [.val (codesD W), .val (codesD (allC p)), a2, a3, a4]) (xs := W) (pre := []) (δ := [.val (codesD W), .val (codesD [[]]), .no, .no, .no]) ⟨.no, .no, .no, rfl⟩ (fun p x q δ e hI => by
      obtain ⟨a2, a3, a4, rfl⟩ := hI
      have hp : szC (p ++ [x]) ≤ 300 := h.pre (q := q) (by rw [List.nil_append] at e; simp [e])
      refine ⟨[.val (codesD W), .val (codesD (allC p)), .val (codeD x), a3, a4], [.val (codesD W), .val (codesD (allC (p ++ [x]))), .val (codeD x), a3, a4], rfl, ?_, _, _, _, rfl⟩
      have l1 := allC_len (p ++ [x])
      have inn : ∀ c ∈ allC p, lcGo (gN 4) (eK (.bl true)) (eO dAdd (eV 3) (eLst (esC (eW 4) esN))) [.val (codesD W), .val (codesD (allC p)), .val (codeD x), .val (codeD c), .no] (x.map .int) = pure (x.map fun f => codeD (c ++ [f])) := fun c hc => by
        have q := lcGo_map (g := gN 4) (tt := eK (.bl true)) (te := eO dAdd (eV 3) (eLst (esC (eW 4) esN))) (δ := [.val (codesD W), .val (codesD (allC p)), .val (codeD x), .val (codeD c), .no]) (emb := D.int) (γ := fun f => [.val (codesD W), .val (codesD (allC p)), .val (codeD x), .val (codeD c), .val (.int f)])
          (p := fun _ => true) (f := fun f => codeD (c ++ [f])) (xs := x) (fun f _ => rfl) (fun f _ => rfl) (fun f _ _ => by
            have hl : (c.map D.int).length ≤ 999999 := by
              rw [List.length_map, (allC_in p c hc).1]
              have := h.few
              rw [List.nil_append] at e
              rw [e] at this
              simp at this
              omega
            simp only [fn, startD, sSeq, sAsg, sRet, sIf, sDo, sFor, sSkip, sPar, eK, eV, eW, eF, eO, esN, esC, eLst, eTup, eCall, eCallI, eAnd, eOr, eIf, eNo, eAt, eCut, gN, liftG, xL, xT, xR, xR2, xE, xZ, xZs, xZ3, pure_bind, List.length_cons, List.length_nil, List.replicate, List.map_cons, List.map_nil, List.cons_append, List.nil_append, List.getElem?_cons_zero, List.getElem?_cons_succ, List.set_cons_zero, List.set_cons_succ, Nat.reduceAdd, Nat.reduceSub, ↓reduceIte, wipeD]
            unfold codeD
            simp only [dAdd, lim_ok (show 1 ≤ 1000000 by decide), ↓reduceIte, pure_bind]
            rw [if_pos (lim_ok (by simp only [List.length_cons, List.length_nil]; omega))]
            simp)
        rw [List.filter_eq_self.mpr (fun _ _ => rfl)] at q
        exact q
      have outer := lc2_map (g := gN 3) (tt := eK (.bl true)) (δ := wipeD [.val (codesD W), .val (codesD (allC p)), .val (codeD x), a3, a4] [3, 4]) (in1 := fun δ' => xL (eW 2) δ' >>= fun zs => lcGo (gN 4) (eK (.bl true)) (eO dAdd (eV 3) (eLst (esC (eW 4) esN))) (wipeD δ' [4]) zs) (emb := codeD)
        (γ := fun c => [.val (codesD W), .val (codesD (allC p)), .val (codeD x), .val (codeD c), .no]) (f := fun c => x.map fun f => codeD (c ++ [f])) (β := D) (xs := allC p) (fun c _ => rfl) (fun c _ => rfl) (fun c hc => by
          show (xL (eW 2) _ >>= _) = _
          rw [eLc_in x D.int (i := 2) rfl, pure_bind]
          exact inn c hc)
      have ee : (allC p).flatMap (fun c => x.map fun f => codeD (c ++ [f])) = (allC (p ++ [x])).map codeD := by
        rw [allC_snoc, List.map_flatMap]
        congr 1
        funext c
        rw [List.map_map]
        rfl
      show (eLc2 _ _ _ _ _ _ _ _ _ _ >>= _) = _
      unfold eLc2
      rw [eLc_in (allC p) codeD (i := 1) rfl, pure_bind, outer, pure_bind, ee, if_pos (lim_ok (by rw [List.length_map, l1]; omega)), pure_bind]
      rfl)
  obtain ⟨δ', h1, a2, a3, a4, h2⟩ := loop
  refine fn_rt rfl ?_
  have s0 : sAsg (gN 1) (eLst (esC (eLst esN) esN)) (startD 5 [codesD W]) = pure (.nx [.val (codesD W), .val (codesD [[]]), .no, .no, .no]) :=
    asg_nx (lst_eq (es_cons (lst_eq es_nil (by simp)) es_nil) (by simp)) rfl
  rw [seq_nx s0, seq_nx (for_nx (eLc_in W codeD (i := 0) rfl) h1), h2]
  rfl
def ext (cs : List (List Int)) (fs : List Int) : List (List Int) := cs.flatMap fun c => fs.map fun f => c ++ [f]
theorem ext_snoc (cs : List (List Int)) (c : List Int) (fs : List Int) : ext (cs ++ [c]) fs = ext cs fs ++ fs.map fun f => c ++ [f] := by
  unfold ext
  rw [List.flatMap_append]
  simp
theorem ext_len (cs : List (List Int)) (fs : List Int) : (ext cs fs).length = cs.length * fs.length := flat_len cs fs
theorem mul_mono {a b c : Nat} (h : a ≤ b) (h2 : b * c ≤ 300) : a * c ≤ 300 := Nat.le_trans (Nat.mul_le_mul_right c h) h2
/-- [code + [figure] for figure in ..] -/
theorem ext_row {k : Nat} {src : Es} {A : E} {δ : Dlt} {c fs : List Int} {γ : Int → Dlt} (hs : src δ = pure (fs.map .int)) (hg : ∀ f ∈ fs, gN k (.int f) (wipeD δ [k]) = some (γ f)) (hA : ∀ f ∈ fs, A (γ f) = pure (codeD c)) (hW : ∀ f ∈ fs, eW k (γ f) = pure (.int f)) (hc : c.length ≤ 1000) (hf : fs.length ≤ 1000) :
    eLc [k] (gN k) src (eK (.bl true)) (eO dAdd A (eLst (esC (eW k) esN))) δ = pure (codesD (fs.map fun f => c ++ [f])) := by
  have h := eLc_all (vs := [k]) (g := gN k) (te := eO dAdd A (eLst (esC (eW k) esN))) (δ := δ) (emb := D.int) (γ := γ) (f := fun f => codeD (c ++ [f])) hs hg (fun f hf => by
    refine o_eq (hA f hf) (lst_eq (es_cons (hW f hf) es_nil) (by simp)) ?_
    unfold codeD
    rw [cat_eq (by simp; omega)]
    simp) (by omega)
  rw [h]
  unfold codesD
  rw [List.map_map]
  rfl
theorem law_codes_eq {W : List (List Int)} (h : Wh W) : f_law_codes [codesD W] = pure (codesD (allC W)) := by
  have inner : ∀ (p : List (List Int)) (x : List Int) (q : List (List Int)) (a4 a5 : Sl), W = p ++ x :: q → ∃ b4 b5, forGo (gN 4) (sAsg (gN 3) (eO dAdd (eV 3) (eLc [5] (gN 5) (xL (eW 2)) (eK (.bl true)) (eO dAdd (eV 4) (eLst (esC (eW 5) (esN))))))) ((allC p).map codeD)
      [.val (codesD W), .val (codesD (allC p)), .val (codeD x), .val (codesD []), a4, a5] = pure (.nx [.val (codesD W), .val (codesD (allC p)), .val (codeD x), .val (codesD (ext (allC p) x)), b4, b5]) := fun p x q a4 a5 e => by
    have hp : szC (p ++ [x]) ≤ 300 := h.pre (q := q) (by simp [e])
    have hx : x.length ≤ 1000 := Nat.le_trans (h.len (c := x) (by simp [e])) (by decide)
    have hpl : p.length ≤ 4 := by
      have := h.few
      rw [e] at this
      simp at this
      omega
    obtain ⟨δ', h1, b4, b5, h2⟩ := forGo_pre (g := gN 4) (s := sAsg (gN 3) (eO dAdd (eV 3) (eLc [5] (gN 5) (xL (eW 2)) (eK (.bl true)) (eO dAdd (eV 4) (eLst (esC (eW 5) (esN))))))) (emb := codeD)
      (I := fun r δ => ∃ b4 b5, δ = [.val (codesD W), .val (codesD (allC p)), .val (codeD x), .val (codesD (ext r x)), b4, b5]) (xs := allC p) (pre := []) (δ := [.val (codesD W), .val (codesD (allC p)), .val (codeD x), .val (codesD []), a4, a5]) ⟨a4, a5, rfl⟩ (fun r c t δ e2 hI => by
        obtain ⟨b4, b5, rfl⟩ := hI
        rw [List.nil_append] at e2
        have hc : c ∈ allC p := by rw [e2]; simp
        have lr : (r ++ [c]).length * x.length ≤ 300 := by
          rw [szC_app] at hp
          simp only [szC, Nat.mul_one] at hp
          rw [← allC_len p] at hp
          exact mul_mono (by rw [e2]; simp) hp
        refine ⟨[.val (codesD W), .val (codesD (allC p)), .val (codeD x), .val (codesD (ext r x)), .val (codeD c), b5], [.val (codesD W), .val (codesD (allC p)), .val (codeD x), .val (codesD (ext (r ++ [c]) x)), .val (codeD c), b5], rfl, ?_, _, _, rfl⟩
        refine asg_nx (d := codesD (ext (r ++ [c]) x)) (o_eq (x := codesD (ext r x)) rfl (ext_row (c := c) (fs := x) (γ := fun f => [.val (codesD W), .val (codesD (allC p)), .val (codeD x), .val (codesD (ext r x)), .val (codeD c), .val (.int f)]) rfl (fun f _ => rfl) (fun f _ => rfl) (fun f _ => rfl) (by rw [(allC_in p c hc).1]; omega) hx) ?_) rfl
        have le := ext_len (r ++ [c]) x
        rw [ext_snoc] at le ⊢
        simp only [List.length_append, List.length_map] at le
        unfold codesD
        rw [cat_eq (by simp only [List.length_map]; simp only [List.length_append] at lr; omega)]
        simp)
    exact ⟨b4, b5, by rw [h1, h2]; rfl⟩
  have loop := forGo_pre (g := gN 2) (s := sSeq (sAsg (gN 3) (eLst (esN))) (sSeq (sFor (gN 4) (xL (eW 1)) (sAsg (gN 3) (eO dAdd (eV 3) (eLc [5] (gN 5) (xL (eW 2)) (eK (.bl true)) (eO dAdd (eV 4) (eLst (esC (eW 5) (esN)))))))) (sAsg (gN 1) (eW 3)))) (emb := codeD)
    (I := fun p δ => ∃ a2 a3 a4 a5, δ = [.val (codesD W), .val (codesD (allC p)), a2, a3, a4, a5]) (xs := W) (pre := []) (δ := [.val (codesD W), .val (codesD [[]]), .no, .no, .no, .no]) ⟨.no, .no, .no, .no, rfl⟩ (fun p x q δ e hI => by
      obtain ⟨a2, a3, a4, a5, rfl⟩ := hI
      rw [List.nil_append] at e
      obtain ⟨b4, b5, hin⟩ := inner p x q a4 a5 e
      refine ⟨[.val (codesD W), .val (codesD (allC p)), .val (codeD x), a3, a4, a5], [.val (codesD W), .val (codesD (allC (p ++ [x]))), .val (codeD x), .val (codesD (ext (allC p) x)), b4, b5], rfl, ?_, _, _, _, _, rfl⟩
      have s1 : sAsg (gN 3) (eLst esN) [.val (codesD W), .val (codesD (allC p)), .val (codeD x), a3, a4, a5] = pure (.nx [.val (codesD W), .val (codesD (allC p)), .val (codeD x), .val (codesD []), a4, a5]) := asg_nx (lst_eq es_nil (by simp)) rfl
      rw [seq_nx s1, seq_nx (for_nx (eLc_in (allC p) codeD (i := 1) rfl) hin)]
      exact asg_nx (d := codesD (ext (allC p) x)) rfl (by rw [allC_snoc]; rfl))
  obtain ⟨δ', h1, a2, a3, a4, a5, h2⟩ := loop
  refine fn_rt rfl ?_
  have s0 : sAsg (gN 1) (eLst (esC (eLst esN) esN)) (startD 6 [codesD W]) = pure (.nx [.val (codesD W), .val (codesD [[]]), .no, .no, .no, .no]) :=
    asg_nx (lst_eq (es_cons (lst_eq es_nil (by simp)) es_nil) (by simp)) rfl
  rw [seq_nx s0, seq_nx (for_nx (eLc_in W codeD (i := 0) rfl) h1), h2]
  rfl
theorem numFrom_map {α : Type} (f : α → D) : ∀ (xs : List α) (n : Nat), numFrom n (xs.map f) = (xs.zipIdx n).map fun p => .tup [.int p.2, f p.1]
  | [], _ => rfl
  | x :: xs, n => by
    rw [List.map_cons, numFrom, numFrom_map f xs (n + 1), List.zipIdx_cons]
    rfl
end K78

/-! ## MBK78 -/
set_option autoImplicit false
set_option linter.all false
set_option maxRecDepth 100000
set_option maxHeartbeats 2000000
namespace K78
open PySem DL
theorem place_nat {n i : Nat} (h : i < n) : place n (i : Int) = some i := by
  unfold place
  rw [if_pos (by omega), if_pos (by omega)]
  simp
theorem ix_lst {xs : List D} {i : Nat} {d : D} (h : xs[i]? = some d) : dIx (.lst xs) (.int i) = pure d := by
  obtain ⟨hi, _⟩ := List.getElem?_eq_some_iff.mp h
  show (match (place xs.length i).bind fun j => xs[j]? with | some v => pure v | none => stuck) = _
  rw [place_nat hi]
  show (match xs[i]? with | some v => pure v | none => stuck) = _
  rw [h]
theorem ix_code {c : List Int} {i : Nat} (h : i < c.length) : dIx (codeD c) (.int i) = pure (.int c[i]) := ix_lst (by rw [List.getElem?_map, List.getElem?_eq_getElem h]; rfl)
theorem ix_codes {c : List (List Int)} {i : Nat} (h : i < c.length) : dIx (codesD c) (.int i) = pure (codeD c[i]) := ix_lst (by rw [List.getElem?_map, List.getElem?_eq_getElem h]; rfl)
theorem eq_code {a b : List Int} (ha : ∀ i ∈ a, smallI i) (hb : ∀ i ∈ b, smallI i) : dEq (codeD a) (codeD b) = pure (.bl (decide (a = b))) := by
  unfold dEq
  rw [eqB_code ha hb]
  rfl
theorem ne_code {a b : List Int} (ha : ∀ i ∈ a, smallI i) (hb : ∀ i ∈ b, smallI i) : dNe (codeD a) (codeD b) = pure (.bl (!decide (a = b))) := by
  unfold dNe
  rw [eqB_code ha hb]
  rfl
theorem ne_codes {a b : List (List Int)} (ha : ∀ c ∈ a, ∀ i ∈ c, smallI i) (hb : ∀ c ∈ b, ∀ i ∈ c, smallI i) : dNe (codesD a) (codesD b) = pure (.bl (!decide (a = b))) := by
  unfold dNe
  rw [eqB_codes ha hb]
  rfl
theorem eq_codes {a b : List (List Int)} (ha : ∀ c ∈ a, ∀ i ∈ c, smallI i) (hb : ∀ c ∈ b, ∀ i ∈ c, smallI i) : dEq (codesD a) (codesD b) = pure (.bl (decide (a = b))) := by
  unfold dEq
  rw [eqB_codes ha hb]
  rfl
theorem range1 {n : Nat} (h : n < 1000000) {e : E} {δ : Dlt} (he : e δ = pure (.int n)) : xR2 (eK (.int 1)) e δ = pure ((List.range (n - 1)).map fun k => .int ((1 + k : Nat) : Int)) := by
  unfold xR2
  show (pure (D.int 1) >>= _) = _
  rw [pure_bind, he, pure_bind]
  show (if -1000000 < (1 : Int) ∧ (1 : Int) < 1000000 ∧ -1000000 < (n : Int) ∧ (n : Int) < 1000000 then pure ((List.range ((n : Int) - 1).toNat).map fun k => D.int (1 + (k : Nat))) else stuck) = _
  rw [if_pos ⟨by decide, by decide, by omega, by omega⟩, show ((n : Int) - 1).toNat = n - 1 by omega]
  congr 1
theorem len_lst (xs : List D) : dLen (.lst xs) = pure (.int xs.length) := rfl
theorem ascends_eq {c : List Int} (h : c.Pairwise (· < ·)) (hl : c.length ≤ 1000) : f_ascends [codeD c] = pure (.bl true) := by
  refine fn_rt rfl (ret_rt ?_)
  have q := eLc_map (vs := [1]) (g := gN 1) (src := xR2 (eK (.int 1)) (eF dLen (eV 0))) (tt := eO dGe (eO dIx (eV 0) (eO dSub (eV 1) (eK (.int 1)))) (eO dIx (eV 0) (eV 1))) (te := eW 1) (δ := startD 2 [codeD c]) (emb := fun k : Nat => D.int ((1 + k : Nat) : Int))
    (γ := fun k => [.val (codeD c), .val (.int ((1 + k : Nat) : Int))]) (p := fun _ => false) (f := fun k => D.int ((1 + k : Nat) : Int)) (xs := List.range (c.length - 1)) (range1 (by omega) (f_eq rfl (by unfold codeD; rw [len_lst, List.length_map]))) (fun k _ => rfl) (fun k hk => by
      rw [List.mem_range] at hk
      have i0 : k < c.length := by omega
      have i1 : 1 + k < c.length := by omega
      have e0 : (1 + k : Nat) - (1 : Int) = (k : Nat) := by omega
      refine o_eq (x := .int c[k]) (y := .int c[1 + k]) (o_eq (x := codeD c) (y := .int k) rfl (o_eq (x := .int ((1 + k : Nat) : Int)) (y := .int 1) rfl rfl (by show pure (D.int _) = _; rw [e0])) (ix_code i0)) (o_eq rfl rfl (ix_code i1)) ?_
      have lt : c[k] < c[1 + k] := List.pairwise_iff_getElem.mp h k (1 + k) i0 i1 (by omega)
      show pure (D.bl (decide (c[1 + k] ≤ c[k]))) = _
      rw [decide_eq_false (by omega)]) (fun k _ e => by cases e) (by rw [List.length_range]; omega)
  rw [List.filter_eq_nil_iff.mpr (by simp)] at q
  exact o_eq (x := .lst []) (y := .lst []) q (lst_eq es_nil (by simp)) (eq_code (a := []) (b := []) (by simp) (by simp))
theorem are_figures_eq {c : List Int} (h1 : c ≠ []) (h2 : ∀ x ∈ c, 0 ≤ x ∧ x < 10) (h3 : c.Pairwise (· < ·)) (hl : c.length ≤ 1000) : f_are_figures [codeD c] = pure (.bl true) := by
  refine fn_rt rfl ?_
  have sm : ∀ i ∈ c, smallI i := fun i hi => digit_small (h2 i hi)
  have q := eLc_all (vs := [1]) (g := gN 1) (src := xL (eW 0)) (te := eAnd (eCall f_is_count (esC (eW 1) (esN))) (eO dLt (eV 1) (eK (.int 10)))) (δ := startD 2 [codeD c]) (emb := D.int) (γ := fun x => [.val (codeD c), .val (.int x)]) (f := fun x => D.bl true) (xs := c) rfl (fun x _ => rfl) (fun x hx => by
      rw [and_t (call_eq (xs := [.int x]) rfl (by rw [is_count_int, decide_eq_true (h2 x hx).1]))]
      refine o_eq (x := .int x) (y := .int 10) rfl rfl ?_
      show pure (D.bl (decide (x < 10))) = _
      rw [decide_eq_true (h2 x hx).2]) (by omega)
  have qa : dAll (.lst (c.map fun _ => D.bl true)) = pure (.bl true) := by
    rw [all_bls c (fun _ => true), show (c.all fun _ => true) = true from List.all_eq_true.mpr fun _ _ => rfl]
  rw [seq_nx (δ' := startD 2 [codeD c])]
  · exact ret_rt (call_eq (xs := [codeD c]) rfl (ascends_eq h3 hl))
  · rw [if_f]
    · rfl
    · rw [or_f (f_eq (x := .bl true) (f_eq (x := codeD c) rfl rfl) rfl)]
      rw [or_f (o_eq (x := codeD c) (y := codeD []) rfl (lst_eq es_nil (by simp)) (by rw [eq_code sm (by simp), decide_eq_false h1]))]
      exact f_eq (x := .bl true) (f_eq q qa) rfl
theorem check_eq {W : List (List Int)} (h : Wh W) : f_check_wheels [codesD W] = pure .non := by
  have hw : f_are_wheels [codesD W] = pure (.bl true) := by
    refine fn_rt rfl (ret_rt ?_)
    have hl : W.length ≤ 1000 := Nat.le_trans h.few (by decide)
    have q := eLc_all (vs := [1]) (g := gN 1) (src := xL (eW 0)) (te := eCall f_are_figures (esC (eW 1) (esN))) (δ := startD 2 [codesD W]) (emb := codeD) (γ := fun x => [.val (codesD W), .val (codeD x)]) (f := fun x => D.bl true) (xs := W) rfl (fun x _ => rfl) (fun x hx => by
      obtain ⟨a, b, c⟩ := h.fs x hx
      exact call_eq (xs := [codeD x]) rfl (are_figures_eq a b c (Nat.le_trans (h.len hx) (by decide)))) (by omega)
    have qa : dAll (.lst (W.map fun _ => D.bl true)) = pure (.bl true) := by
      rw [all_bls W (fun _ => true), show (W.all fun _ => true) = true from List.all_eq_true.mpr fun _ _ => rfl]
    rw [and_t (f_eq (x := codesD W) rfl rfl)]
    rw [and_t (o_eq (x := codesD W) (y := codesD []) rfl (lst_eq es_nil (by simp)) (by rw [ne_codes h.small (by simp), decide_eq_false h.ne]; rfl))]
    exact f_eq q qa
  refine fn_nx (δ := startD 1 [codesD W]) rfl ?_
  rw [if_f (f_eq (x := .bl true) (call_eq (xs := [codesD W]) rfl hw) rfl)]
  rfl
/-! ### does a value fit -/
theorem fits_no {W : List (List Int)} {e : D} {t : String} (h : e.ty = some t) (h2 : isTy e "list" = false) : f_code_fits [codesD W, e] = pure (.bl false) := by
  refine fn_rt rfl (seq_rt ?_)
  rw [if_t]
  · exact ret_rt rfl
  · exact or_t (f_eq (x := .bl false) (f_eq (x := e) rfl (by unfold dIsI; rw [h, h2])) rfl)
theorem ne_int (i j : Int) : dNe (.int i) (.int j) = pure (.bl (!decide (i = j))) := rfl
theorem fits_len {W : List (List Int)} {xs : List D} (h : xs.length ≠ W.length) : f_code_fits [codesD W, .lst xs] = pure (.bl false) := by
  refine fn_rt rfl (seq_rt ?_)
  rw [if_t]
  · exact ret_rt rfl
  · rw [or_f (f_eq (x := .bl true) (f_eq (x := .lst xs) rfl rfl) rfl)]
    refine or_t (o_eq (x := .int xs.length) (y := .int W.length) (f_eq (x := .lst xs) rfl rfl) (f_eq (x := codesD W) rfl (by unfold codesD; rw [len_lst, List.length_map])) ?_)
    rw [ne_int, decide_eq_false (by omega)]
    rfl
theorem fits_bools {W : List (List Int)} {bs : List Bool} (h : bs ≠ []) (hl : bs.length ≤ 1000) : f_code_fits [codesD W, .lst (bs.map .bl)] = pure (.bl false) := by
  by_cases hn : (bs.map D.bl).length = W.length
  · refine fn_rt rfl (seq_rt ?_)
    rw [if_t]
    · exact ret_rt rfl
    · rw [or_f (f_eq (x := .bl true) (f_eq (x := .lst (bs.map .bl)) rfl rfl) rfl)]
      rw [or_f (o_eq (x := .int (bs.map D.bl).length) (y := .int W.length) (f_eq (x := .lst (bs.map .bl)) rfl rfl) (f_eq (x := codesD W) rfl (by unfold codesD; rw [len_lst, List.length_map])) (by rw [ne_int, decide_eq_true (by omega)]; rfl))]
      have q := eLc_all (vs := [2]) (g := gN 2) (src := xL (eW 1)) (te := eCall f_is_count (esC (eW 2) (esN))) (δ := startD 4 [codesD W, .lst (bs.map .bl)]) (emb := D.bl) (γ := fun x => [.val (codesD W), .val (.lst (bs.map .bl)), .val (.bl x), .no]) (f := fun x => D.bl false) (xs := bs) rfl (fun x _ => rfl) (fun x hx => call_eq (xs := [.bl x]) rfl (is_count_bl x)) (by omega)
      have qa : dAll (.lst (bs.map fun _ => D.bl false)) = pure (.bl false) := by
        rw [all_bls bs (fun _ => false)]
        cases bs with
        | nil => exact absurd rfl h
        | cons b bs => rfl
      exact f_eq (x := .bl false) (f_eq q qa) rfl
  · exact fits_len (xs := bs.map D.bl) hn
theorem zip2_map {α β : Type} (f : α → D) (g : β → D) : ∀ (xs : List α) (ys : List β), zip2 (xs.map f) (ys.map g) = (xs.zip ys).map fun p => .tup [f p.1, g p.2]
  | [], _ => rfl
  | _ :: _, [] => rfl
  | x :: xs, y :: ys => by
    show .tup [f x, g y] :: zip2 (xs.map f) (ys.map g) = _
    rw [zip2_map f g xs ys]
    rfl
theorem zip3_map {α β γ : Type} (f : α → D) (g : β → D) (h : γ → D) : ∀ (xs : List α) (ys : List β) (zs : List γ), zip3 (xs.map f) (ys.map g) (zs.map h) = (xs.zip (ys.zip zs)).map fun p => .tup [f p.1, g p.2.1, h p.2.2]
  | [], _, _ => rfl
  | _ :: _, [], _ => rfl
  | _ :: _, _ :: _, [] => rfl
  | x :: xs, y :: ys, z :: zs => by
    show .tup [f x, g y, h z] :: zip3 (xs.map f) (ys.map g) (zs.map h) = _
    rw [zip3_map f g h xs ys zs]
    rfl
theorem allC_zip (W : List (List Int)) : ∀ c ∈ allC W, ∀ p ∈ c.zip W, p.1 ∈ p.2 := by
  induction W using snoc_ind with
  | h0 => intro c hc; have : c = [] := by simpa [allC] using hc
          subst this; simp
  | h1 W fs ih =>
    intro c hc
    rw [allC_snoc, List.mem_flatMap] at hc
    obtain ⟨d, hd, hc⟩ := hc
    rw [List.mem_map] at hc
    obtain ⟨f, hf, rfl⟩ := hc
    intro p hp
    rw [List.zip_append (allC_in W d hd).1, List.mem_append] at hp
    rcases hp with hp | hp
    · exact ih d hd p hp
    · have : p = (f, fs) := by simpa using hp
      subst this
      exact hf
theorem fits_code {W : List (List Int)} (h : Wh W) {c : List Int} (hc : c ∈ allC W) : f_code_fits [codesD W, codeD c] = pure (.bl true) := by
  have hl := (allC_in W c hc).1
  have hfew := h.few
  refine fn_rt rfl ?_
  rw [seq_nx (δ' := startD 4 [codesD W, codeD c])]
  · have q := eLc_all (vs := [2, 3]) (g := gT [gN 2, gN 3]) (src := xZs (eW 1) (eW 0)) (te := eO dIn (eV 2) (eV 3)) (δ := startD 4 [codesD W, codeD c]) (emb := fun p : Int × List Int => .tup [.int p.1, codeD p.2]) (γ := fun p => [.val (codesD W), .val (codeD c), .val (.int p.1), .val (codeD p.2)]) (f := fun x => D.bl true) (xs := c.zip W) (by
      show (if (c.map D.int).length = (W.map codeD).length then pure (zip2 (c.map D.int) (W.map codeD)) else stuck) = _
      rw [if_pos (by simp [hl]), zip2_map]) (fun p _ => rfl) (fun p hp => o_eq (x := .int p.1) (y := codeD p.2) rfl rfl (by rw [in_int, decide_eq_true (allC_zip W c hc p hp)])) (by rw [List.length_zip]; omega)
    have qa : dAll (.lst ((c.zip W).map fun _ => D.bl true)) = pure (.bl true) := by
      rw [all_bls (c.zip W) (fun _ => true), show ((c.zip W).all fun _ => true) = true from List.all_eq_true.mpr fun _ _ => rfl]
    exact ret_rt (f_eq q qa)
  · rw [if_f]
    · rfl
    · rw [or_f (f_eq (x := .bl true) (f_eq (x := codeD c) rfl rfl) rfl)]
      rw [or_f (o_eq (x := .int c.length) (y := .int W.length) (f_eq (x := codeD c) rfl (by unfold codeD; rw [len_lst, List.length_map])) (f_eq (x := codesD W) rfl (by unfold codesD; rw [len_lst, List.length_map])) (by rw [ne_int, decide_eq_true (by omega)]; rfl))]
      have q := eLc_all (vs := [2]) (g := gN 2) (src := xL (eW 1)) (te := eCall f_is_count (esC (eW 2) (esN))) (δ := startD 4 [codesD W, codeD c]) (emb := D.int) (γ := fun x => [.val (codesD W), .val (codeD c), .val (.int x), .no]) (f := fun x => D.bl true) (xs := c) rfl (fun x _ => rfl) (fun x hx => call_eq (xs := [.int x]) rfl (by rw [is_count_int, decide_eq_true (h.digits hc x hx).1])) (by omega)
      have qa : dAll (.lst (c.map fun _ => D.bl true)) = pure (.bl true) := by
        rw [all_bls c (fun _ => true), show (c.all fun _ => true) = true from List.all_eq_true.mpr fun _ _ => rfl]
      exact f_eq (x := .bl true) (f_eq q qa) rfl
/-! ### one turn of one wheel -/
def pl (fs : List Int) (x : Int) : Nat := fs.findIdx fun y => decide (y = x)
theorem index_pl {fs : List Int} {x : Int} (h : x ∈ fs) : dIndex (codeD fs) (.int x) = pure (.int (pl fs x)) := by
  refine index_int ?_
  rw [List.findIdx?_eq_some_iff_findIdx_eq]
  exact ⟨List.findIdx_lt_length_of_exists ⟨x, h, by simp⟩, rfl⟩
end K78

/-! ## MCK78 -/
set_option autoImplicit false
set_option linter.all false
set_option maxRecDepth 100000
set_option maxHeartbeats 2000000
namespace K78
open PySem DL
theorem shown_lst (xs : List D) : (D.lst xs).py.shown = listText (PyData.shownAll (pys xs)) := by
  show PyData.shown (.list (pys xs)) = _
  simp only [PyData.shown]
theorem shown_pys : ∀ xs : List D, PyData.shownAll (pys xs) = xs.map fun d => d.py.shown
  | [] => by simp [pys, PyData.shownAll]
  | x :: xs => by simp only [pys, PyData.shownAll, shown_pys xs, List.map_cons]
/-- a list's text by its items' texts of one length -/
theorem shown_len {xs : List D} {n : Nat} (h : ∀ d ∈ xs, d.py.shown.length = n) : (D.lst xs).py.shown.length = if xs = [] then 2 else (n + 2) * xs.length := by
  rw [shown_lst, shown_pys]
  cases xs with
  | nil => rw [if_pos rfl]; exact (congrArg Str.length listText_nil).trans rfl
  | cons x xs =>
    rw [if_neg (by simp), List.map_cons, listLen, h x List.mem_cons_self]
    have e : ((xs.map fun d => d.py.shown).map fun t => t.length + 2).sum = (n + 2) * xs.length := by
      have h' : ∀ d ∈ xs, d.py.shown.length = n := fun d hd => h d (List.mem_cons_of_mem _ hd)
      clear h
      induction xs with
      | nil => simp
      | cons y ys ih =>
        rw [List.map_cons, List.map_cons, List.sum_cons, ih fun d hd => h' d (List.mem_cons_of_mem _ hd), h' y List.mem_cons_self, List.length_cons, Nat.mul_add]
        omega
    rw [e, List.length_cons, Nat.mul_add]
    omega
theorem shown_code {c : List Int} (h : ∀ x ∈ c, 0 ≤ x ∧ x < 10) : (codeD c).py.shown.length = if c = [] then 2 else 3 * c.length := by
  have := shown_len (xs := c.map D.int) (n := 1) (fun d hd => by
    rw [List.mem_map] at hd
    obtain ⟨x, hx, rfl⟩ := hd
    exact digit_len (h x hx).1 (h x hx).2)
  rw [List.length_map] at this
  rw [show (codeD c) = D.lst (c.map D.int) from rfl, this]
  cases c <;> simp
theorem repr_cl {d : D} (h : d.cl 60 = true) (hl : d.py.shown.length ≤ 1000000) : dRepr d = pure (.str d.py.shown) := by
  unfold dRepr
  rw [if_pos]
  rw [Bool.and_eq_true]
  refine ⟨?_, lim_ok hl⟩
  unfold D.rp
  cases d with
  | dct kvs => simp [D.cl] at h
  | _ => exact h
theorem repr_code {c : List Int} (h : ∀ x ∈ c, 0 ≤ x ∧ x < 10) (hl : c.length ≤ 1000) : dRepr (codeD c) = pure (.str (codeD c).py.shown) := by
  refine repr_cl (cl_code (n := 59) fun i hi => digit_small (h i hi)) ?_
  rw [shown_code h]
  split <;> omega
theorem ne_nil {xs : List D} (h : ∀ d ∈ xs, d.cl 59 = true) : dNe (.lst xs) (.lst []) = pure (.bl (!decide (xs = []))) := by
  show liftB ((if (D.lst xs).cl 60 && (D.lst []).cl 60 then some (PyData.eqv (.list (pys xs)) (.list (pys []))) else none).map (!·)) = _
  rw [if_pos]
  · have e : PyData.eqv (.list (pys xs)) (.list (pys [])) = decide (xs = []) := by
      simp only [PyData.eqv]
      cases xs <;> simp [pys, PyData.eqvAll]
    rw [e]
    rfl
  · rw [Bool.and_eq_true]
    exact ⟨List.all_eq_true.mpr h, rfl⟩
theorem list_le {xs : List D} {n : Nat} (h : ∀ d ∈ xs, d.py.shown.length ≤ n) : (D.lst xs).py.shown.length ≤ (n + 2) * xs.length + 2 := by
  rw [shown_lst, shown_pys]
  cases xs with
  | nil => rw [List.map_nil, listText_nil]; exact Nat.le_add_left 2 _
  | cons x xs =>
    rw [List.map_cons, listLen]
    have hx := h x List.mem_cons_self
    have e : ((xs.map fun d => d.py.shown).map fun t => t.length + 2).sum ≤ (n + 2) * xs.length := by
      have h' : ∀ d ∈ xs, d.py.shown.length ≤ n := fun d hd => h d (List.mem_cons_of_mem _ hd)
      clear h
      induction xs with
      | nil => simp
      | cons y ys ih =>
        have := ih fun d hd => h' d (List.mem_cons_of_mem _ hd)
        have hy := h' y List.mem_cons_self
        rw [List.map_cons, List.map_cons, List.sum_cons, List.length_cons, Nat.mul_add]
        omega
    rw [List.length_cons, Nat.mul_add]
    omega
theorem piled_le {n : Nat} : ∀ {ts : List Str}, (∀ t ∈ ts, t.length ≤ n) → piled ts ≤ (n + 2) * ts.length
  | [], _ => by simp [piled]
  | t :: ts, h => by
    have ih := piled_le (n := n) (ts := ts) fun u hu => h u (List.mem_cons_of_mem _ hu)
    have ht := h t List.mem_cons_self
    have e : piled (t :: ts) = t.length + 2 + piled ts := by simp [piled] <;> omega
    rw [e, List.length_cons, Nat.mul_add]
    omega
theorem tup_le {xs : List D} {n : Nat} (h : ∀ d ∈ xs, d.py.shown.length ≤ n) : (D.tup xs).py.shown.length ≤ (n + 2) * xs.length + 3 := by
  have e0 : (D.tup xs).py.shown = tupleText (PyData.shownAll (pys xs)) := by
    show PyData.shown (.tuple (pys xs)) = _
    simp only [PyData.shown]
  rw [e0, shown_pys]
  unfold tupleText
  rw [strLen_append, strLen_append]
  have e1 : (("(" : String) : Str).length = 1 := rfl
  have e2 : (((if (xs.map fun d => d.py.shown).length == 1 then ",)" else ")" : String)) : Str).length ≤ 2 := by
    split <;> decide
  rw [e1]
  cases xs with
  | nil =>
    have e3 : (Str.join ", " (([] : List D).map fun d => d.py.shown)).length = 0 := rfl
    rw [e3]
    omega
  | cons x xs =>
    have h3 := join_length_add ((x :: xs).map fun d => d.py.shown) (by simp)
    have h4 := piled_le (n := n) (ts := (x :: xs).map fun d => d.py.shown) (fun t ht => by
      rw [List.mem_map] at ht
      obtain ⟨d, hd, rfl⟩ := ht
      exact h d hd)
    rw [List.length_map] at h4
    omega
/-- an element that is no code, and its text -/
theorem code_txt {c : List Int} (h : ∀ x ∈ c, 0 ≤ x ∧ x < 10) (hl : c.length ≤ 100) : (codeD c).py.shown.length ≤ 1000 := by
  rw [shown_code h]
  split <;> omega
theorem cut_map {α β : Type} (f : α → β) (xs : List α) (lo hi : Option Int) : cut (xs.map f) lo hi = (cut xs lo hi).map f := by
  unfold cut
  rw [List.length_map, List.map_take, List.map_drop]
theorem cut_mem {α : Type} {xs : List α} {lo hi : Option Int} {x : α} (h : x ∈ cut xs lo hi) : x ∈ xs := List.mem_of_mem_drop (List.mem_of_mem_take h)
theorem cut_len {α : Type} (xs : List α) (lo hi : Option Int) : (cut xs lo hi).length ≤ xs.length := by
  unfold cut
  rw [List.length_take, List.length_drop]
  omega
theorem cut_codes (R : List (List Int)) (lo hi : Option Int) : dCut (codesD R) lo hi = pure (codesD (cut R lo hi)) := by
  show (pure (D.lst (cut (R.map codeD) lo hi)) : M D) = _
  rw [cut_map]
  rfl
theorem cut_code (R : List Int) (lo hi : Option Int) : dCut (codeD R) lo hi = pure (codeD (cut R lo hi)) := by
  show (pure (D.lst (cut (R.map D.int) lo hi)) : M D) = _
  rw [cut_map]
  rfl
theorem cut_eq {a : E} {l h : Dlt → M (Option Int)} {δ : Dlt} {x d : D} {lo hi : Option Int} (h1 : a δ = pure x) (h2 : l δ = pure lo) (h3 : h δ = pure hi) (h4 : dCut x lo hi = pure d) : eCut a l h δ = pure d := by
  unfold eCut
  rw [h1, pure_bind, h2, pure_bind, h3, pure_bind, h4]
theorem at_eq {a : E} {δ : Dlt} {i : Int} (h : a δ = pure (.int i)) : eAt a δ = pure (some i) := by
  unfold eAt
  rw [h, pure_bind]
theorem add_codes {a b : List (List Int)} (h : a.length + b.length ≤ 1000000) : dAdd (codesD a) (codesD b) = pure (codesD (a ++ b)) := by
  unfold codesD
  rw [cat_eq (by simpa using h), List.map_append]
end K78

/-! ## MDK78 -/
set_option autoImplicit false
set_option linter.all false
set_option maxRecDepth 100000
set_option maxHeartbeats 2000000
namespace K78
open PySem DL
/-! ### what is drawn -/
theorem hash_eq {s i : Int} (hs : 0 ≤ s) (hs2 : s < 2147483647) (hi : 0 ≤ i) (hi2 : i ≤ 2000000) : ∃ h, f_law_hash [.int s, .int i] = pure (.int h) ∧ 0 ≤ h ∧ h < 2147483647 := by
  have m1a : 0 ≤ (s * 1140671 + 27644437 * i * i + 131 * i + 19) % 2147483629 := Int.emod_nonneg _ (by decide)
  have m1b : (s * 1140671 + 27644437 * i * i + 131 * i + 19) % 2147483629 < 2147483629 := Int.emod_lt_of_pos _ (by decide)
  refine ⟨((((s * 1140671 + 27644437 * i * i + 131 * i + 19) % 2147483629 * ((s * 1140671 + 27644437 * i * i + 131 * i + 19) % 2147483629) + 62089 * i + 32416187) % 2147483587) * 48271) % 2147483647, ?_, Int.emod_nonneg _ (by decide), Int.emod_lt_of_pos _ (by decide)⟩
  generalize hm : (s * 1140671 + 27644437 * i * i + 131 * i + 19) % 2147483629 = m at m1a m1b
  have m2a : 0 ≤ (m * m + 62089 * i + 32416187) % 2147483587 := Int.emod_nonneg _ (by decide)
  have m2b : (m * m + 62089 * i + 32416187) % 2147483587 < 2147483587 := Int.emod_lt_of_pos _ (by decide)
  generalize hn : (m * m + 62089 * i + 32416187) % 2147483587 = n at m2a m2b
  refine fn_rt rfl ?_
  rw [seq_nx (asg_nx (δ' := [.val (.int s), .val (.int i), .val (.int m)]) (d := .int m) ?_ rfl), seq_nx (asg_nx (δ' := [.val (.int s), .val (.int i), .val (.int n)]) (d := .int n) ?_ rfl)]
  · exact ret_rt (o_eq (f_eq (o_eq rfl rfl (mul_small (by omega) (by omega))) rfl) rfl (mod_eq (by decide)))
  · rw [← hn]
    exact o_eq (f_eq (o_eq (o_eq (o_eq rfl rfl (mul_small (by omega) (by omega))) (o_eq rfl rfl (mul_small (by omega) (by omega))) rfl) rfl rfl) rfl) rfl (mod_eq (by decide))
  · rw [← hm]
    exact o_eq (f_eq (o_eq (o_eq (o_eq (o_eq rfl rfl (mul_small (by omega) (by omega))) (o_eq (o_eq rfl rfl (mul_small (by omega) (by omega))) rfl (mul_small (by omega) (by omega))) rfl) (o_eq rfl rfl (mul_small (by omega) (by omega))) rfl) rfl rfl) rfl) rfl (mod_eq (by decide))
theorem random_yl {b : Int} (h1 : 1 ≤ b) (h2 : b ≤ 1000) : Yl 1 (f_law_random [.gen, .int b]) fun d => ∃ r : Nat, d = .int r ∧ (r : Int) < b := by
  rintro k g ⟨x, s, c, rfl, hs1, hs2, hc1, hc2⟩ hk
  have bits : (Builtin.Int.intBits b : Int) / 30 = 0 := by
    have := PyProof.Rows.intBits_le (a := b) (k := 10) (by omega)
    omega
  have emb : ∀ y : Int, 0 ≤ y % b → y % b < b → ∃ r : Nat, D.int (y % b) = .int r ∧ (r : Int) < b := fun y q1 q2 => ⟨(y % b).toNat, by rw [Int.toNat_of_nonneg q1], by rw [Int.toNat_of_nonneg q1]; exact q2⟩
  by_cases hx : 0 < x
  · refine ⟨.int (x % b), [x / b, s, c], ?_, emb x (Int.emod_nonneg _ (by omega)) (Int.emod_lt_of_pos _ (by omega)), _, _, _, rfl, hs1, hs2, hc1, by omega⟩
    have g0 : Ok (eG 0 0 [.val .gen, .val (.int b), .no, .no]) [x, s, c] (.int x) [x, s, c] := rfl
    have g0' : Ok (eG 0 0 [.val .gen, .val (.int b), .val (.int (x % b)), .no]) [x, s, c] (.int x) [x, s, c] := rfl
    refine ok_bind.mpr ⟨.rt (.int (x % b)), _, ok_bind.mpr ⟨.rt (.int (x % b)), [x / b, s, c], ?_, ok_pure.mpr ⟨rfl, rfl⟩⟩, ok_pure.mpr ⟨rfl, rfl⟩⟩
    refine ok_bind.mpr ⟨.bl true, [x, s, c], ok_bind.mpr ⟨_, _, g0, ok_bind.mpr ⟨.int 0, _, ok_pure.mpr ⟨rfl, rfl⟩, ok_pure.mpr ⟨by rw [decide_eq_true hx], rfl⟩⟩⟩, ?_⟩
    refine ok_bind.mpr ⟨.nx [.val .gen, .val (.int b), .val (.int (x % b)), .no], [x, s, c], ok_bind.mpr ⟨.int (x % b), [x, s, c], ok_bind.mpr ⟨.int x, [x, s, c], ok_bind.mpr ⟨_, _, g0, ok_pure.mpr ⟨rfl, rfl⟩⟩, ok_bind.mpr ⟨.int b, [x, s, c], ok_pure.mpr ⟨rfl, rfl⟩, ?_⟩⟩, ok_bind.mpr ⟨_, _, ok_pure.mpr ⟨rfl, rfl⟩, ok_pure.mpr ⟨rfl, rfl⟩⟩⟩, ?_⟩
    · rw [mod_eq (by omega)]; exact ok_pure.mpr ⟨rfl, rfl⟩
    refine ok_bind.mpr ⟨.nx [.val .gen, .val (.int b), .val (.int (x % b)), .no], [x / b, s, c], ok_bind.mpr ⟨.int (x / b), [x, s, c], ok_bind.mpr ⟨_, _, g0', ok_bind.mpr ⟨.int b, [x, s, c], ok_pure.mpr ⟨rfl, rfl⟩, ?_⟩⟩, ok_bind.mpr ⟨(), [x / b, s, c], rfl, ok_pure.mpr ⟨rfl, rfl⟩⟩⟩, ok_pure.mpr ⟨rfl, rfl⟩⟩
    rw [fdiv_eq (by omega) (by omega)]; exact ok_pure.mpr ⟨rfl, rfl⟩
  · obtain ⟨h, eh, hh1, hh2⟩ := hash_eq (s := s) (i := c + 1) hs1 hs2 (by omega) (by omega)
    refine ⟨.int (h % b), [x, s, c + 1], ?_, emb h (Int.emod_nonneg _ (by omega)) (Int.emod_lt_of_pos _ (by omega)), _, _, _, rfl, hs1, hs2, by omega, by omega⟩
    have g0 : Ok (eG 0 0 [.val .gen, .val (.int b), .no, .no]) [x, s, c] (.int x) [x, s, c] := rfl
    refine ok_bind.mpr ⟨.rt (.int (h % b)), _, ok_bind.mpr ⟨.nx [.val .gen, .val (.int b), .no, .no], [x, s, c], ok_bind.mpr ⟨.bl false, [x, s, c], ok_bind.mpr ⟨_, _, g0, ok_bind.mpr ⟨.int 0, _, ok_pure.mpr ⟨rfl, rfl⟩, ok_pure.mpr ⟨by rw [decide_eq_false hx], rfl⟩⟩⟩, ok_pure.mpr ⟨rfl, rfl⟩⟩, ?_⟩, ok_pure.mpr ⟨rfl, rfl⟩⟩
    refine ok_bind.mpr ⟨.nx [.val .gen, .val (.int b), .val (.int 0), .no], [x, s, c], rfl, ?_⟩
    refine ok_bind.mpr ⟨.nx [.val .gen, .val (.int b), .val (.int h), .val (.int 0)], [x, s, c + 1], ok_bind.mpr ⟨[.int 0], [x, s, c], ?_, ?_⟩, ?_⟩
    · have e : xR (eO dAdd (eK (.int 1)) (eO dFdiv (eF dBits (eV 1)) (eK (.int 30)))) [.val .gen, .val (.int b), .val (.int 0), .no] = pure [.int 0] := by
        unfold xR
        rw [o_eq (x := .int 1) (y := .int 0) (d := .int 1) rfl (o_eq (x := .int (Builtin.Int.intBits b : Nat)) (y := .int 30) (f_eq (x := .int b) rfl rfl) rfl (by rw [fdiv_eq (by decide) (by decide), bits])) rfl, pure_bind]
        rfl
      rw [e]; exact ok_pure.mpr ⟨rfl, rfl⟩
    · have gs : Ok (eG 0 1 [.val .gen, .val (.int b), .val (.int 0), .val (.int 0)]) [x, s, c + 1] (.int s) [x, s, c + 1] := rfl
      have gc : Ok (eG 0 2 [.val .gen, .val (.int b), .val (.int 0), .val (.int 0)]) [x, s, c + 1] (.int (c + 1)) [x, s, c + 1] := rfl
      have gc0 : Ok (eG 0 2 [.val .gen, .val (.int b), .val (.int 0), .val (.int 0)]) [x, s, c] (.int c) [x, s, c] := rfl
      refine ok_bind.mpr ⟨[.val .gen, .val (.int b), .val (.int 0), .val (.int 0)], [x, s, c], rfl, ok_bind.mpr ⟨.nx [.val .gen, .val (.int b), .val (.int h), .val (.int 0)], [x, s, c + 1], ok_bind.mpr ⟨.nx [.val .gen, .val (.int b), .val (.int 0), .val (.int 0)], [x, s, c + 1], ok_bind.mpr ⟨.int (c + 1), [x, s, c], ok_bind.mpr ⟨_, _, gc0, ok_bind.mpr ⟨.int 1, _, ok_pure.mpr ⟨rfl, rfl⟩, ok_pure.mpr ⟨rfl, rfl⟩⟩⟩, rfl⟩, ?_⟩, ok_pure.mpr ⟨rfl, rfl⟩⟩⟩
      refine ok_bind.mpr ⟨.int h, [x, s, c + 1], ok_bind.mpr ⟨.int 0, [x, s, c + 1], ok_bind.mpr ⟨.int 0, [x, s, c + 1], ok_pure.mpr ⟨rfl, rfl⟩, ok_bind.mpr ⟨.int 2147483587, [x, s, c + 1], ok_pure.mpr ⟨rfl, rfl⟩, ?_⟩⟩, ok_bind.mpr ⟨.int h, [x, s, c + 1], ok_bind.mpr ⟨[.int s, .int (c + 1)], [x, s, c + 1], ok_bind.mpr ⟨_, _, gs, ok_bind.mpr ⟨[.int (c + 1)], _, ok_bind.mpr ⟨_, _, gc, ok_bind.mpr ⟨[], _, ok_pure.mpr ⟨rfl, rfl⟩, ok_pure.mpr ⟨rfl, rfl⟩⟩⟩, ok_pure.mpr ⟨rfl, rfl⟩⟩⟩, ?_⟩, ok_pure.mpr ⟨by rw [Int.zero_add], rfl⟩⟩⟩, ok_bind.mpr ⟨_, _, ok_pure.mpr ⟨rfl, rfl⟩, ok_pure.mpr ⟨rfl, rfl⟩⟩⟩
      · rw [mul_small (by decide) (by decide)]; exact ok_pure.mpr ⟨by simp, rfl⟩
      · rw [eh]; exact ok_pure.mpr ⟨rfl, rfl⟩
    · have e : sRet (eO dMod (eF dInt (eV 2)) (eV 1)) [.val .gen, .val (.int b), .val (.int h), .val (.int 0)] = pure (.rt (.int (h % b))) := ret_rt (o_eq (f_eq (x := .int h) rfl rfl) rfl (mod_eq (by omega)))
      show Ok (sRet (eO dMod (eF dInt (eV 2)) (eV 1)) [.val .gen, .val (.int b), .val (.int h), .val (.int 0)]) _ _ _
      rw [e]; exact ok_pure.mpr ⟨rfl, rfl⟩
theorem dNe_nil {xs : List D} (h : ∀ d ∈ xs, d.cl 59 = true) : dNe (.lst xs) (.lst []) = pure (.bl (!decide (xs = []))) := ne_nil h
theorem erase_perm {α : Type} : ∀ (l : List α) (m : Nat) (h : m < l.length), (l[m] :: l.eraseIdx m).Perm l
  | [], _, h => by simp at h
  | x :: l, 0, _ => .refl _
  | x :: l, m + 1, h => by
    have hm : m < l.length := by simpa using h
    have ih := erase_perm l m hm
    show (l[m] :: x :: l.eraseIdx m).Perm (x :: l)
    exact (List.Perm.swap x l[m] _).trans (ih.cons x)
/-- the loop of _law_shuffled -/
theorem shuffle_loop (things : D) : ∀ (fuel : Nat) (left found : List D), left.length < fuel → left.length + found.length ≤ 1000 → (∀ d ∈ left, d.cl 59 = true) →
    Yl left.length (whGo (eO dNe (eV 2) (eLst (esN))) (sAppPop 3 2 (eCall f_law_random (esC (eW 0) (esC (eF dLen (eV 2)) (esN))))) fuel [.val .gen, .val things, .own left, .own found])
      fun r => ∃ ys, r = .nx [.val .gen, .val things, .own [], .own ys] ∧ ys.Perm (found ++ left)
  | 0, _, _, h, _, _ => by omega
  | fuel + 1, [], found, _, _, _ => by
    have e : whGo (eO dNe (eV 2) (eLst (esN))) (sAppPop 3 2 (eCall f_law_random (esC (eW 0) (esC (eF dLen (eV 2)) (esN))))) (fuel + 1) [.val .gen, .val things, .own [], .own found] = pure (.nx [.val .gen, .val things, .own [], .own found]) := by
      show (eO dNe (eV 2) (eLst esN) _ >>= _) = _
      rw [o_eq (x := .lst []) (y := .lst []) rfl (lst_eq es_nil (by simp)) (dNe_nil (xs := []) (by simp)), pure_bind]
      rfl
    exact yl_eq e ⟨found, rfl, by simp⟩
  | fuel + 1, x :: left, found, hf, hl, hc => by
    rw [List.length_cons] at hf hl
    have e1 : eO dNe (eV 2) (eLst (esN)) [.val .gen, .val things, .own (x :: left), .own found] = pure (.bl true) := o_eq (x := .lst (x :: left)) (y := .lst []) rfl (lst_eq es_nil (by simp)) (by rw [dNe_nil hc]; rfl)
    have pop : Yl 1 (sAppPop 3 2 (eCall f_law_random (esC (eW 0) (esC (eF dLen (eV 2)) (esN)))) [.val .gen, .val things, .own (x :: left), .own found]) fun r => ∃ (m : Nat) (y : D), m < (x :: left).length ∧ (x :: left)[m]? = some y ∧ r = .nx [.val .gen, .val things, .own ((x :: left).eraseIdx m), .own (found ++ [y])] := by
      have q := yl_call (n := 0) (j := 1) (f := f_law_random) (es := esC (eW 0) (esC (eF dLen (eV 2)) (esN))) (δ := [.val .gen, .val things, .own (x :: left), .own found]) (P := fun ds => ds = [.gen, .int ((x :: left).length : Nat)]) (Q := fun d => ∃ r : Nat, d = .int r ∧ (r : Int) < ((x :: left).length : Nat)) (yl_eq rfl rfl) (fun ds e => by
        subst e
        exact random_yl (by rw [List.length_cons]; omega) (by rw [List.length_cons]; omega))
      refine (yl_bind (j := 0) q fun d ⟨m, ed, hm⟩ => ?_).mono (by omega) fun _ z => z
      subst ed
      have hm2 : m < (x :: left).length := by omega
      have e2 : (x :: left)[m]? = some (x :: left)[m] := List.getElem?_eq_getElem hm2
      refine yl_eq ?_ ⟨m, (x :: left)[m], hm2, e2, rfl⟩
      simp only [List.getElem?_cons_succ, List.getElem?_cons_zero, place_nat hm2, e2]
      have ll : (x :: left).length ≤ 1001 := by rw [List.length_cons]; omega
      rw [if_pos ⟨lim_ok (by omega), by omega, by omega, by decide⟩]
      rfl
    have q : Yl (1 + left.length) (sAppPop 3 2 (eCall f_law_random (esC (eW 0) (esC (eF dLen (eV 2)) (esN)))) [.val .gen, .val things, .own (x :: left), .own found] >>= fun r => match r with
      | .nx δ' => whGo (eO dNe (eV 2) (eLst (esN))) (sAppPop 3 2 (eCall f_law_random (esC (eW 0) (esC (eF dLen (eV 2)) (esN))))) fuel δ'
      | .ct δ' => whGo (eO dNe (eV 2) (eLst (esN))) (sAppPop 3 2 (eCall f_law_random (esC (eW 0) (esC (eF dLen (eV 2)) (esN))))) fuel δ'
      | .bk δ' => pure (.nx δ')
      | .rt d => pure (.rt d)) fun r => ∃ ys, r = .nx [.val .gen, .val things, .own [], .own ys] ∧ ys.Perm (found ++ x :: left) := yl_bind pop fun r ⟨m, y, hm, e2, er⟩ => by
        subst er
        obtain ⟨hm', e3⟩ := List.getElem?_eq_some_iff.mp e2
        have le : ((x :: left).eraseIdx m).length = left.length := by
          rw [List.length_eraseIdx_of_lt hm]
          simp
        have hp : (y :: (x :: left).eraseIdx m).Perm (x :: left) := by
          rw [← e3]
          exact erase_perm _ m hm'
        have ih := shuffle_loop things fuel ((x :: left).eraseIdx m) (found ++ [y]) (by rw [le]; omega) (by rw [le]; simp; omega) (fun d hd => hc d (List.mem_of_mem_eraseIdx hd))
        rw [le] at ih
        refine ih.mono (Nat.le_refl _) fun r ⟨ys, e, p⟩ => ⟨ys, e, p.trans ?_⟩
        rw [List.append_assoc]
        exact List.Perm.append_left found hp
    refine Yl.mono (n := 1 + left.length) ?_ (by rw [List.length_cons]; omega) fun _ z => z
    show Yl _ (eO dNe (eV 2) (eLst esN) _ >>= _) _
    rw [e1, pure_bind]
    exact q
/-- the law's shuffle -/
theorem shuffled_yl {xs : List D} (hl : xs.length ≤ 900) (hc : ∀ d ∈ xs, d.cl 59 = true) : Yl xs.length (f_law_shuffled [.gen, .lst xs]) fun d => ∃ ys, d = .lst ys ∧ ys.Perm xs := by
  refine yl_fn rfl ?_
  have e0 : sParOO 2 3 (eF dList (eV 1)) (eLst (esN)) (startD 4 [.gen, .lst xs]) = pure (.nx [.val .gen, .val (.lst xs), .own xs, .own []]) := by
    unfold sParOO
    rw [f_eq (h := dList) (x := .lst xs) (d := .lst xs) rfl rfl, pure_bind]
    show (eLst esN _ >>= _) = _
    rw [lst_eq es_nil (by simp), pure_bind]
    rfl
  refine yl_seq0 e0 ?_
  refine (yl_seq (j := 0) (P := fun δ => ∃ ys, δ = [.val .gen, .val (.lst xs), .own [], .own ys] ∧ ys.Perm xs) ((shuffle_loop (.lst xs) 1000 xs [] (by omega) (by simp; omega) hc).mono (Nat.le_refl _) fun r ⟨ys, e, p⟩ => ⟨_, e, ys, rfl, by simpa using p⟩) fun δ ⟨ys, e, p⟩ => ?_).mono (by omega) fun _ z => z
  subst e
  exact yl_eq (a := .rt (.lst ys)) rfl ⟨_, rfl, ys, rfl, p⟩
def toI : D → Int
  | .int i => i
  | _ => 0
theorem perm_ints {ys : List D} {ns : List Int} (p : ys.Perm (ns.map D.int)) : ∃ zs : List Int, zs.Perm ns ∧ ys = zs.map .int := by
  have e : ys = (ys.map toI).map D.int := by
    rw [List.map_map]
    have h : ∀ d ∈ ys, (D.int ∘ toI) d = d := fun d hd => by
      have hd := p.mem_iff.mp hd
      rw [List.mem_map] at hd
      obtain ⟨i, _, rfl⟩ := hd
      rfl
    rw [List.map_congr_left h, List.map_id'']
    exact fun _ => rfl
  refine ⟨ys.map toI, ?_, e⟩
  have q := p.map toI
  rw [List.map_map] at q
  have e2 : ns.map (toI ∘ D.int) = ns := by
    rw [List.map_id'']
    exact fun _ => rfl
  rw [e2] at q
  exact q
theorem cut_take {α : Type} (xs : List α) (n : Nat) : cut xs none (some (n : Int)) = xs.take n := by
  unfold cut cutEnd
  simp only [List.drop_zero, Nat.sub_zero]
  rw [if_neg (by omega), Int.toNat_natCast]
  by_cases h : n ≤ xs.length
  · rw [Nat.min_eq_left h]
  · rw [Nat.min_eq_right (by omega), List.take_of_length_le (Nat.le_refl _), List.take_of_length_le (by omega)]
theorem sort_strict {c : List Int} (h : c.Nodup) : (sortI c).Pairwise (· < ·) := by
  have h1 := sortI_sorted c
  have h2 : (sortI c).Nodup := (sortI_perm c).nodup_iff.mpr h
  exact (h1.and h2).imp fun {a b} ⟨q1, q2⟩ => by omega
def eFig : E := eF dSorted (eCut (eCall f_law_shuffled (esC (eW 0) (esC (eLst (esC (eK (.int 0)) (esC (eK (.int 1)) (esC (eK (.int 2)) (esC (eK (.int 3)) (esC (eK (.int 4)) (esC (eK (.int 5)) (esC (eK (.int 6)) (esC (eK (.int 7)) (esC (eK (.int 8)) (esC (eK (.int 9)) (esN)))))))))))) (esN)))) (eNo) (eAt (eO dAdd (eK (.int 1)) (eCall f_law_random (esC (eW 0) (esC (eK (.int 5)) (esN)))))))
def Gd (c : List Int) : Prop := c ≠ [] ∧ (∀ x ∈ c, 0 ≤ x ∧ x < 10) ∧ c.Pairwise (· < ·)
theorem fig_yl {δ : Dlt} (h0 : eW 0 δ = pure .gen) : Yl 11 (eFig δ) fun d => ∃ c, d = codeD c ∧ Gd c ∧ c.length ≤ 5 := by
  have a1 : (esC (eW 0) (esC (eLst (esC (eK (.int 0)) (esC (eK (.int 1)) (esC (eK (.int 2)) (esC (eK (.int 3)) (esC (eK (.int 4)) (esC (eK (.int 5)) (esC (eK (.int 6)) (esC (eK (.int 7)) (esC (eK (.int 8)) (esC (eK (.int 9)) (esN)))))))))))) (esN))) δ = pure [.gen, codeD [0, 1, 2, 3, 4, 5, 6, 7, 8, 9]] :=
    es_cons h0 (es_cons (lst_eq (xs := [.int 0, .int 1, .int 2, .int 3, .int 4, .int 5, .int 6, .int 7, .int 8, .int 9]) rfl (by simp)) es_nil)
  have sh := yl_call (n := 0) (j := 10) (f := f_law_shuffled) (P := fun ds => ds = [.gen, codeD [0, 1, 2, 3, 4, 5, 6, 7, 8, 9]]) (Q := fun d => ∃ zs : List Int, d = codeD zs ∧ zs.Perm [0, 1, 2, 3, 4, 5, 6, 7, 8, 9]) (yl_eq a1 rfl) (fun ds e => by
    subst e
    refine (shuffled_yl (xs := [0, 1, 2, 3, 4, 5, 6, 7, 8, 9].map D.int) (by simp) (fun d hd => ?_)).mono (by simp) fun d ⟨ys, e, p⟩ => ?_
    · rw [List.mem_map] at hd
      obtain ⟨i, hi, rfl⟩ := hd
      have := small_of (i := i) (by simp at hi; omega)
      unfold smallI at this
      simpa [D.cl] using this
    · obtain ⟨zs, pz, rfl⟩ := perm_ints p
      exact ⟨zs, e, pz⟩)
  have rn := yl_call (n := 0) (j := 1) (f := f_law_random) (es := esC (eW 0) (esC (eK (.int 5)) (esN))) (δ := δ) (P := fun ds => ds = [.gen, .int 5]) (Q := fun d => ∃ r : Nat, d = .int r ∧ (r : Int) < 5) (yl_eq (es_cons h0 (es_cons rfl es_nil)) rfl) (fun ds e => by
    subst e
    exact random_yl (by decide) (by decide))
  refine (yl_bind (n := 0 + 10 + 1) (j := 0) (P := fun d => ∃ c : List Int, d = codeD c ∧ c.Nodup ∧ c ≠ [] ∧ c.length ≤ 5 ∧ ∀ x ∈ c, 0 ≤ x ∧ x < 10) ?_ fun d ⟨c, e, h1, h2, h3, h4⟩ => ?_).mono (by omega) fun _ z => z
  · refine (yl_bind sh fun d ⟨zs, e, p⟩ => ?_).mono (Nat.le_refl _) fun _ z => z
    subst e
    refine (yl_bind (n := 0) (j := 1) (P := fun o : Option Int => o = none) (yl_pure rfl) fun o eo => ?_).mono (by omega) fun _ z => z
    subst eo
    refine (yl_bind (n := 1) (j := 0) (P := fun o : Option Int => ∃ r : Nat, o = some ((1 + r : Nat) : Int) ∧ r < 5) ?_ fun o ⟨r, eo, hr⟩ => ?_).mono (by omega) fun _ z => z
    · have q : Yl 1 (eO dAdd (eK (.int 1)) (eCall f_law_random (esC (eW 0) (esC (eK (.int 5)) (esN)))) δ) fun d => ∃ r : Nat, d = .int ((1 + r : Nat) : Int) ∧ r < 5 := (yl_o (n := 0) (P := fun d => d = .int 1) (yl_eq rfl rfl) rn fun x y ex ey => by
        obtain ⟨r, ey, hr⟩ := ey
        subst ex ey
        exact ⟨.int ((1 + r : Nat) : Int), rfl, r, rfl, by omega⟩).mono (by omega) fun _ z => z
      refine (yl_bind (j := 0) q fun d ⟨r, e, hr⟩ => ?_).mono (by omega) fun _ z => z
      subst e
      exact yl_pure ⟨r, rfl, hr⟩
    · subst eo
      have zl : (zs.take (1 + r)).length ≤ 5 := by rw [List.length_take]; omega
      refine yl_eq (a := codeD (zs.take (1 + r))) ?_ ⟨zs.take (1 + r), rfl, ?_, ?_, zl, fun x hx => ?_⟩
      · show (pure (D.lst (cut (zs.map D.int) none (some ((1 + r : Nat) : Int)))) : M D) = _
        rw [cut_take]
        unfold codeD
        rw [List.map_take]
      · exact List.Nodup.sublist (List.take_sublist _ _) (p.nodup_iff.mpr (by decide))
      · have hz : zs.length = 10 := p.length_eq
        intro z
        have l : (zs.take (1 + r)).length = 0 := by rw [z]; rfl
        rw [List.length_take, hz] at l
        omega
      · have := p.mem_iff.mp (List.mem_of_mem_take hx)
        simp at this
        omega
  · subst e
    refine yl_eq (sorted_ints fun i hi => digit_small (h4 i hi)) ⟨sortI c, rfl, ⟨fun z => h2 ?_, fun x hx => h4 x ((sortI_perm c).mem_iff.mp hx), sort_strict h1⟩, by rw [(sortI_perm c).length_eq]; exact h3⟩
    have := (sortI_perm c).length_eq
    rw [z] at this
    exact List.length_eq_zero_iff.mp this.symm
end K78

/-! ## MEK78 -/
set_option autoImplicit false
set_option linter.all false
set_option maxRecDepth 100000
set_option maxHeartbeats 2000000
namespace K78
open PySem DL
theorem le_int (i j : Int) : dLe (.int i) (.int j) = pure (.bl (decide (i ≤ j))) := rfl
theorem wheels_yl : Yl 45 (f_law_wheels [.gen, .int 4, .int 30]) fun d => ∃ W, d = codesD W ∧ Wh W := by
  refine yl_fn rfl ?_
  have e0 : sPar 3 4 (eLst (esN)) (eK (.int 1)) (startD 7 [.gen, .int 4, .int 30]) = pure (.nx [.val .gen, .val (.int 4), .val (.int 30), .val (codesD []), .val (.int ((szC [] : Nat) : Int)), .no, .no]) := by
    unfold sPar
    rw [lst_eq es_nil (by simp), pure_bind]
    rfl
  refine yl_seq0 e0 ?_
  have rn := yl_call (n := 0) (j := 1) (f := f_law_random) (es := esC (eW 0) (esC (eW 1) (esN))) (δ := [.val .gen, .val (.int 4), .val (.int 30), .val (codesD []), .val (.int ((szC [] : Nat) : Int)), .no, .no]) (P := fun ds => ds = [.gen, .int 4]) (Q := fun d => ∃ r : Nat, d = .int r ∧ (r : Int) < 4) (yl_eq rfl rfl) (fun ds e => by
    subst e
    exact random_yl (by decide) (by decide))
  have src : Yl 1 (xR (eO dAdd (eK (.int 1)) (eCall f_law_random (esC (eW 0) (esC (eW 1) (esN))))) [.val .gen, .val (.int 4), .val (.int 30), .val (codesD []), .val (.int ((szC [] : Nat) : Int)), .no, .no]) fun xs => ∃ r : Nat, xs = (List.range (1 + r)).map (fun k : Nat => D.int (k : Nat)) ∧ r < 4 := by
    have q : Yl 1 (eO dAdd (eK (.int 1)) (eCall f_law_random (esC (eW 0) (esC (eW 1) (esN)))) [.val .gen, .val (.int 4), .val (.int 30), .val (codesD []), .val (.int ((szC [] : Nat) : Int)), .no, .no]) fun d => ∃ r : Nat, d = .int ((1 + r : Nat) : Int) ∧ r < 4 := (yl_o (n := 0) (P := fun d => d = .int 1) (yl_eq rfl rfl) rn fun x y ex ey => by
        obtain ⟨r, ey, hr⟩ := ey
        subst ex ey
        exact ⟨.int ((1 + r : Nat) : Int), rfl, r, rfl, by omega⟩).mono (by omega) fun _ z => z
    refine (yl_bind (j := 0) q fun d ⟨r, e, hr⟩ => ?_).mono (by omega) fun _ z => z
    subst e
    refine yl_eq ?_ ⟨r, rfl, hr⟩
    show (if -1000000 < ((1 + r : Nat) : Int) ∧ ((1 + r : Nat) : Int) < 1000000 then (pure ((List.range ((1 + r : Nat) : Int).toNat).map fun k => D.int (k : Nat)) : M (List D)) else stuck) = _
    rw [if_pos ⟨by omega, by omega⟩, Int.toNat_natCast]
  let I : List Nat → Dlt → Prop := fun p δ => ∃ F a5 a6, δ = [.val .gen, .val (.int 4), .val (.int 30), .val (codesD F), .val (.int ((szC F : Nat) : Int)), a5, a6] ∧ F.length ≤ p.length ∧ (∀ c ∈ F, Gd c) ∧ szC F ≤ 30
  have body : ∀ (p : List Nat) (x : Nat) (δ : Dlt), p.length < 5 → I p δ → ∃ δ1, gN 5 (.int (x : Nat)) δ = some δ1 ∧ Yl 11 ((sSeq (sAsg (gN 6) eFig) (sIf (eO dLe (eO dMul (eV 4) (eF dLen (eV 6))) (eV 2)) (sPar 3 4 (eO dAdd (eV 3) (eLst (esC (eW 6) (esN)))) (eO dMul (eV 4) (eF dLen (eV 6)))) (sSkip))) δ1) fun r => ∃ δ2, r = .nx δ2 ∧ I (p ++ [x]) δ2 := fun p x δ hp ⟨F, a5, a6, e, h1, h2, h3⟩ => by
    subst e
    refine ⟨[.val .gen, .val (.int 4), .val (.int 30), .val (codesD F), .val (.int ((szC F : Nat) : Int)), .val (.int (x : Nat)), a6], rfl, ?_⟩
    refine (yl_seq (j := 0) (P := fun δ => ∃ c, δ = [.val .gen, .val (.int 4), .val (.int 30), .val (codesD F), .val (.int ((szC F : Nat) : Int)), .val (.int (x : Nat)), .val (codeD c)] ∧ Gd c ∧ c.length ≤ 5) (yl_asg (fig_yl rfl) fun d ⟨c, e, g, l⟩ => ?_) fun δ ⟨c, e, g, l⟩ => ?_).mono (by omega) fun _ z => z
    · subst e
      exact ⟨_, rfl, c, rfl, g, l⟩
    · subst e
      have em : eO dMul (eV 4) (eF dLen (eV 6)) [.val .gen, .val (.int 4), .val (.int 30), .val (codesD F), .val (.int ((szC F : Nat) : Int)), .val (.int (x : Nat)), .val (codeD c)] = pure (.int ((szC (F ++ [c]) : Nat) : Int)) := by
        refine o_eq (x := .int ((szC F : Nat) : Int)) (y := .int (c.length : Nat)) rfl (f_eq (x := codeD c) rfl (by unfold codeD; rw [len_lst, List.length_map])) ?_
        rw [mul_small (by omega) (by omega), szC_app]
        simp [szC]
      have et : eO dLe (eO dMul (eV 4) (eF dLen (eV 6))) (eV 2) [.val .gen, .val (.int 4), .val (.int 30), .val (codesD F), .val (.int ((szC F : Nat) : Int)), .val (.int (x : Nat)), .val (codeD c)] = pure (.bl (decide (szC (F ++ [c]) ≤ 30))) := by
        refine o_eq em (y := .int 30) rfl ?_
        rw [le_int]
        congr 2
        exact decide_eq_decide.mpr (by omega)
      by_cases hz : szC (F ++ [c]) ≤ 30
      · rw [decide_eq_true hz] at et
        rw [if_t et]
        have ea : eO dAdd (eV 3) (eLst (esC (eW 6) (esN))) [.val .gen, .val (.int 4), .val (.int 30), .val (codesD F), .val (.int ((szC F : Nat) : Int)), .val (.int (x : Nat)), .val (codeD c)] = pure (codesD (F ++ [c])) := by
          refine o_eq (x := codesD F) (y := .lst [codeD c]) rfl (lst_eq (es_cons rfl es_nil) (by simp)) ?_
          unfold codesD
          rw [cat_eq (by simp only [List.length_map, List.length_cons, List.length_nil]; omega)]
          simp
        have ep : sPar 3 4 (eO dAdd (eV 3) (eLst (esC (eW 6) (esN)))) (eO dMul (eV 4) (eF dLen (eV 6))) [.val .gen, .val (.int 4), .val (.int 30), .val (codesD F), .val (.int ((szC F : Nat) : Int)), .val (.int (x : Nat)), .val (codeD c)] = pure (.nx [.val .gen, .val (.int 4), .val (.int 30), .val (codesD (F ++ [c])), .val (.int ((szC (F ++ [c]) : Nat) : Int)), .val (.int (x : Nat)), .val (codeD c)]) := by
          unfold sPar
          rw [ea, pure_bind, em, pure_bind]
          rfl
        refine yl_eq ep ⟨_, rfl, F ++ [c], _, _, rfl, by simp; omega, fun d hd => ?_, hz⟩
        rw [List.mem_append] at hd
        rcases hd with hd | hd
        · exact h2 d hd
        · have : d = c := by simpa using hd
          rw [this]; exact g
      · rw [decide_eq_false hz] at et
        rw [if_f et]
        exact yl_eq rfl ⟨_, rfl, F, _, _, rfl, by simp; omega, h2, h3⟩
  have loop : Yl 45 (sFor (gN 5) (xR (eO dAdd (eK (.int 1)) (eCall f_law_random (esC (eW 0) (esC (eW 1) (esN)))))) (sSeq (sAsg (gN 6) eFig) (sIf (eO dLe (eO dMul (eV 4) (eF dLen (eV 6))) (eV 2)) (sPar 3 4 (eO dAdd (eV 3) (eLst (esC (eW 6) (esN)))) (eO dMul (eV 4) (eF dLen (eV 6)))) (sSkip))) [.val .gen, .val (.int 4), .val (.int 30), .val (codesD []), .val (.int ((szC [] : Nat) : Int)), .no, .no]) fun r => ∃ δ, r = .nx δ ∧ ∃ F a5 a6, δ = [.val .gen, .val (.int 4), .val (.int 30), .val (codesD F), .val (.int ((szC F : Nat) : Int)), a5, a6] ∧ F.length ≤ 4 ∧ (∀ c ∈ F, Gd c) ∧ szC F ≤ 30 := by
    refine (yl_bind (j := 44) src fun xs ⟨r, e, hr⟩ => ?_).mono (by omega) fun _ z => z
    subst e
    refine (yl_for (n := 11) (I := I) (xs := List.range (1 + r)) (pre := []) ⟨[], .no, .no, rfl, by simp, by simp, by simp [szC]⟩ fun p x q δ e2 hI => body p x δ ?_ hI).mono ?_ fun z hz => ?_
    · rw [List.nil_append] at e2
      have := congrArg List.length e2
      rw [List.length_range, List.length_append, List.length_cons] at this
      omega
    · rw [List.length_range]; omega
    · obtain ⟨δ, e3, F, a5, a6, e4, h1, h2, h3⟩ := hz
      rw [List.nil_append, List.length_range] at h1
      exact ⟨δ, e3, F, a5, a6, e4, by omega, h2, h3⟩
  refine (yl_seq (j := 0) loop fun δ ⟨F, a5, a6, e, h1, h2, h3⟩ => ?_).mono (by omega) fun _ z => z
  subst e
  have sm : ∀ c ∈ F, ∀ i ∈ c, smallI i := fun c hc i hi => digit_small ((h2 c hc).2.1 i hi)
  have et : eO dNe (eV 3) (eLst (esN)) [.val .gen, .val (.int 4), .val (.int 30), .val (codesD F), .val (.int ((szC F : Nat) : Int)), a5, a6] = pure (.bl (!decide (F = []))) :=
    o_eq (x := codesD F) (y := codesD []) rfl (lst_eq es_nil (by simp)) (ne_codes sm (by simp))
  refine yl_ret ?_
  by_cases hF : F = []
  · rw [decide_eq_true hF] at et
    rw [ife_f et]
    refine yl_eq (a := codesD [[7]]) (lst_eq (es_cons (lst_eq (es_cons rfl es_nil) (by simp)) es_nil) (by simp)) ⟨[[7]], rfl, ⟨by simp, fun c hc => ?_, by simp, by simp [szC]⟩⟩
    have : c = [7] := by simpa using hc
    subst this
    exact ⟨by simp, by simp, by simp⟩
  · rw [decide_eq_false hF] at et
    rw [ife_t et]
    exact yl_eq rfl ⟨F, rfl, ⟨hF, h2, h1, Nat.le_trans h3 (by decide)⟩⟩
end K78

/-! ## MGK78 -/
set_option autoImplicit false
set_option linter.all false
set_option maxRecDepth 100000
set_option maxHeartbeats 2000000
namespace K78
open PySem DL
local macro_rules | `(tactic| wtm_at "evt") => `(tactic| first | rfl | assumption | (simp only [*]; done) | (simp [*, isTy]; done) | (simp; done) | decide | omega)
local macro_rules | `(tactic| wtm_at "evb") => `(tactic| first | omega | (simp only [List.length_map, List.length_append, List.length_cons, List.length_nil, List.length_zip, List.length_zipIdx, List.length_range, List.length_reverse]; omega) | (simp; omega) | decide)
local macro_rules | `(tactic| wtm_at "evc") => `(tactic| ((with_reducible show _ = _); assumption))
local macro_rules | `(tactic| wtm_at "ev1") => `(tactic| first
  | with_reducible exact ev_k
  | ((with_reducible apply  ev_w); exact rfl)
  | ((with_reducible apply  ev_v); exact rfl)
  | ((with_reducible apply  ev_vo); exact rfl)
  | with_reducible exact es_nil
  | with_reducible exact ev_no
  | with_reducible exact ev_skip
  | with_reducible exact seqK_rt
  | with_reducible apply  es_cons
  | with_reducible apply  f_eq
  | with_reducible apply  o_eq
  | with_reducible apply  ev_lst
  | with_reducible apply  tup_eq
  | with_reducible apply  ev_and
  | with_reducible apply  ev_or
  | with_reducible apply  ev_ife
  | with_reducible apply  call_eq
  | with_reducible apply  ev_callK
  | with_reducible apply  ev_callD
  | with_reducible apply  ev_callDK
  | with_reducible apply  hI_eq
  | with_reducible apply  hU_eq
  | with_reducible apply  ev_cutN
  | with_reducible apply  ev_at
  | with_reducible apply  ev_lcA
  | with_reducible apply  ev_lc
  | with_reducible apply  sx_l
  | with_reducible apply  sx_vw
  | with_reducible apply  sx_enum
  | with_reducible apply  sx_zip
  | with_reducible apply  sx_zipS
  | with_reducible apply  sx_r
  | with_reducible apply  sx_r2
  | with_reducible apply  ev_seq
  | with_reducible apply  seqK_nx
  | with_reducible apply  ev_if
  | with_reducible apply  ev_ret
  | with_reducible apply  ev_do
  | with_reducible apply  ev_asg
  | with_reducible apply  ev_par
  | with_reducible apply  ev_thr
  | with_reducible apply  ev_dox_thr
  | ((with_reducible apply  ifK_t); (wtm_at "evt"))
  | ((with_reducible apply  ifK_f); (wtm_at "evt"))
  | exact eqB_int _ _ | exact neB_int _ _ | exact eqB_bl _ _ | exact neB_bl _ _ | exact eqB_str _ _ | exact neB_str _ _
  | exact lt_ev _ _ | exact le_ev _ _ | exact gt_ev _ _ | exact ge_ev _ _ | exact not_ev _ | exact addI_ev _ _ | exact subI_ev _ _
  | ((with_reducible show Row _ _ _); first | exact row_code _ | exact row_codes _ | exact row_map _ _ | exact row_bcode _ | exact row_bcodes _ | exact row_id _)
  | ((with_reducible show _ = List.map _ _); first | exact map_mapR _ _ | exact map_idR _)
  | ((with_reducible show dIsI _ _ = _); exact rfl) | ((with_reducible show dIsI2 _ _ _ = _); exact rfl) | ((with_reducible show dIsN _ = _); exact rfl) | ((with_reducible show dNotN _ = _); exact rfl)
  | ((with_reducible show dUw _ = _); first | exact uw_bcodes _ | exact uw_bcode _ | exact rfl)
  | exact hU_len _
  | ((with_reducible show D.imm _ = _); exact rfl)
  | exact allB_ev _ _ | exact anyB_ev _ _ | exact sumI_ev _ _ | exact sumC_ev _
  | exact len_ev _ | exact lenT_ev _ | exact cut_ev _ _ _ | exact list_ev _ | exact tuple_ev _ | exact rev_ev _
  | apply  addL_ev
  | wtm_at "evc"
  | ((with_reducible show _ = some _); exact rfl)
  | ((with_reducible show _ ≤ _); wtm_at "evb")
  | ((with_reducible show _ < _); wtm_at "evb")
  | ((with_reducible show (_ : Nat) = _); wtm_at "evb")
  | ((with_reducible show ∀ _, _ ∈ _ → _); intro _ _)
  | ((with_reducible show (_ : Bool) = _ → _); intro _))
local macro_rules | `(tactic| wtm_at "ev") => `(tactic| repeat' (wtm_at "ev1"))
theorem right_in_eq {a b : List Int} (h : a.length = b.length) (hl : a.length ≤ 1000) : f_right_in [codeD a, codeD b] = pure (.int ((a.zip b).filter fun p => decide (p.1 = p.2)).length) := by
  unfold f_right_in
  apply ev_to
  · wtm_at "ev"
  · rfl
  · simp
theorem zip_idx (b : List Int) : ∀ (a : List Int) (k : Nat), a.length + k = b.length → ((a.zipIdx k).filter fun p => decide (p.1 = b.getD p.2 0)).length = ((a.zip (b.drop k)).filter fun p => decide (p.1 = p.2)).length
  | [], _, _ => by simp
  | x :: a, k, h => by
    have hk : k < b.length := by simp at h; omega
    have ih := zip_idx b a (k + 1) (by simp at h ⊢; omega)
    rw [List.drop_eq_getElem_cons hk, List.zipIdx_cons, List.zip_cons_cons]
    have e : b.getD k 0 = b[k] := by rw [List.getD_eq_getElem?_getD, List.getElem?_eq_getElem hk]; rfl
    by_cases hx : x = b[k]
    · rw [List.filter_cons_of_pos (by show decide (x = b.getD k 0) = true; rw [e]; simpa using hx), List.filter_cons_of_pos (by simpa using hx), List.length_cons, List.length_cons, ih]
    · rw [List.filter_cons_of_neg (by show ¬ decide (x = b.getD k 0) = true; rw [e]; simpa using hx), List.filter_cons_of_neg (by simpa using hx), ih]
theorem alike_eq {a b : List Int} (h : a.length = b.length) (hl : a.length ≤ 1000) : f_law_alike [codeD a, codeD b] = pure (.int ((a.zip b).filter fun p => decide (p.1 = p.2)).length) := by
  have ix : ∀ p ∈ a.zipIdx, dIx (codeD b) (.int p.2) = pure (.int (b.getD p.2 0)) := fun p hp => by
    have := List.snd_lt_of_mem_zipIdx hp
    rw [ix_code (by omega), List.getD_eq_getElem?_getD, List.getElem?_eq_getElem (by omega)]
    rfl
  unfold f_law_alike
  apply ev_to
  · wtm_at "ev"
    · exact ix _ (by assumption)
    · wtm_at "ev"
  · rfl
  · rw [List.length_map, zip_idx b a 0 (by omega), List.drop_zero]
/-! ### the same -/
theorem same_int (k : Nat) (i : Int) : f_law_same (k + 1) [.int i, .int i] = pure (.bl true) := by
  unfold f_law_same
  apply ev_to
  · wtm_at "ev"
  · rfl
  · simp [isTy]
theorem same_bl (k : Nat) (i : Bool) : f_law_same (k + 1) [.bl i, .bl i] = pure (.bl true) := by cases i <;> rfl
theorem same_non (k : Nat) : f_law_same (k + 1) [.non, .non] = pure (.bl true) := rfl
theorem same_lst {k : Nat} {xs : List D} (h : ∀ d ∈ xs, f_law_same k [d, d] = pure (.bl true)) (hl : xs.length ≤ 1000000) : f_law_same (k + 1) [.lst xs, .lst xs] = pure (.bl true) := by
  have h' : ∀ p ∈ xs.zip xs, f_law_same k [p.1, p.2] = pure (.bl true) := fun p hp => by
    have e : p.1 = p.2 := by
      obtain ⟨i, hi, rfl⟩ := List.getElem_of_mem hp
      simp
    rw [← e]
    exact h _ (List.of_mem_zip hp).1
  unfold f_law_same
  apply ev_to
  · wtm_at "ev"
    · exact h' _ (by assumption)
    · wtm_at "ev"
  · rfl
  · simp
theorem same_code (k : Nat) {c : List Int} (hl : c.length ≤ 1000) : f_law_same (k + 2) [codeD c, codeD c] = pure (.bl true) := by
  refine same_lst (fun d hd => ?_) (by rw [List.length_map]; omega)
  rw [List.mem_map] at hd
  obtain ⟨i, _, rfl⟩ := hd
  exact same_int k i
end K78

/-! ## MHK78 -/
set_option autoImplicit false
set_option linter.all false
set_option maxRecDepth 100000
set_option maxHeartbeats 2000000
namespace K78
open PySem DL
local macro_rules | `(tactic| wtm_at "evt") => `(tactic| first | rfl | assumption | (simp only [*]; done) | (simp [*, isTy]; done) | (simp; done) | decide | omega)
local macro_rules | `(tactic| wtm_at "evb") => `(tactic| first | omega | (simp only [List.length_map, List.length_append, List.length_cons, List.length_nil, List.length_zip, List.length_zipIdx, List.length_range, List.length_reverse]; omega) | (simp; omega) | decide)
local macro_rules | `(tactic| wtm_at "evc") => `(tactic| ((with_reducible show _ = _); assumption))
local macro_rules | `(tactic| wtm_at "ev1") => `(tactic| first
  | with_reducible exact ev_k
  | ((with_reducible apply  ev_w); exact rfl)
  | ((with_reducible apply  ev_v); exact rfl)
  | ((with_reducible apply  ev_vo); exact rfl)
  | with_reducible exact es_nil
  | with_reducible exact ev_no
  | with_reducible exact ev_skip
  | with_reducible exact seqK_rt
  | with_reducible apply  es_cons
  | with_reducible apply  f_eq
  | with_reducible apply  o_eq
  | with_reducible apply  ev_lst
  | with_reducible apply  tup_eq
  | with_reducible apply  ev_and
  | with_reducible apply  ev_or
  | with_reducible apply  ev_ife
  | with_reducible apply  call_eq
  | with_reducible apply  ev_callK
  | with_reducible apply  ev_callD
  | with_reducible apply  ev_callDK
  | with_reducible apply  hI_eq
  | with_reducible apply  hU_eq
  | with_reducible apply  ev_cutN
  | with_reducible apply  ev_at
  | with_reducible apply  ev_lcA
  | with_reducible apply  ev_lc
  | with_reducible apply  sx_l
  | with_reducible apply  sx_vw
  | with_reducible apply  sx_enum
  | with_reducible apply  sx_zip
  | with_reducible apply  sx_zipS
  | with_reducible apply  sx_r
  | with_reducible apply  sx_r2
  | with_reducible apply  ev_seq
  | with_reducible apply  seqK_nx
  | with_reducible apply  ev_if
  | with_reducible apply  ev_ret
  | with_reducible apply  ev_do
  | with_reducible apply  ev_asg
  | with_reducible apply  ev_par
  | with_reducible apply  ev_thr
  | with_reducible apply  ev_dox_thr
  | ((with_reducible apply  ifK_t); (wtm_at "evt"))
  | ((with_reducible apply  ifK_f); (wtm_at "evt"))
  | exact eqB_int _ _ | exact neB_int _ _ | exact eqB_bl _ _ | exact neB_bl _ _ | exact eqB_str _ _ | exact neB_str _ _
  | exact lt_ev _ _ | exact le_ev _ _ | exact gt_ev _ _ | exact ge_ev _ _ | exact not_ev _ | exact addI_ev _ _ | exact subI_ev _ _
  | ((with_reducible show Row _ _ _); first | exact row_code _ | exact row_codes _ | exact row_map _ _ | exact row_bcode _ | exact row_bcodes _ | exact row_id _)
  | ((with_reducible show _ = List.map _ _); first | exact map_mapR _ _ | exact map_idR _)
  | ((with_reducible show dIsI _ _ = _); exact rfl) | ((with_reducible show dIsI2 _ _ _ = _); exact rfl) | ((with_reducible show dIsN _ = _); exact rfl) | ((with_reducible show dNotN _ = _); exact rfl)
  | ((with_reducible show dUw _ = _); first | exact uw_bcodes _ | exact uw_bcode _ | exact rfl)
  | exact hU_len _
  | ((with_reducible show D.imm _ = _); exact rfl)
  | exact allB_ev _ _ | exact anyB_ev _ _ | exact sumI_ev _ _ | exact sumC_ev _
  | exact len_ev _ | exact lenT_ev _ | exact cut_ev _ _ _ | exact list_ev _ | exact tuple_ev _ | exact rev_ev _
  | apply  addL_ev
  | wtm_at "evc"
  | ((with_reducible show _ = some _); exact rfl)
  | ((with_reducible show _ ≤ _); wtm_at "evb")
  | ((with_reducible show _ < _); wtm_at "evb")
  | ((with_reducible show (_ : Nat) = _); wtm_at "evb")
  | ((with_reducible show ∀ _, _ ∈ _ → _); intro _ _)
  | ((with_reducible show (_ : Bool) = _ → _); intro _))
local macro_rules | `(tactic| wtm_at "ev") => `(tactic| repeat' (wtm_at "ev1"))
/-! ### which values are codes -/
def cntB : D → Bool
  | .int i => decide (0 ≤ i)
  | _ => false
def Ty (d : D) : Prop := ∃ t, d.ty = some t
theorem is_count_d {d : D} (h : Ty d) : f_is_count [d] = pure (.bl (cntB d)) := by
  obtain ⟨t, h⟩ := h
  cases d with
  | int i => exact is_count_int i
  | bl b => cases b <;> rfl
  | non => rfl
  | str x => rfl
  | lst x => rfl
  | tup x => rfl
  | dct x => rfl
  | _ => cases h
theorem law_count_d {d : D} (h : Ty d) : f_law_is_count [d] = pure (.bl (cntB d)) := by
  obtain ⟨t, h⟩ := h
  cases d with
  | int i => rfl
  | bl b => cases b <;> rfl
  | non => rfl
  | str x => rfl
  | lst x => rfl
  | tup x => rfl
  | dct x => rfl
  | _ => cases h
def inF (d : D) (fs : List Int) : Bool := match d with
  | .int i => decide (i ∈ fs)
  | _ => false
theorem in_d {d : D} {fs : List Int} (h : cntB d = true) : dIn d (codeD fs) = pure (.bl (inF d fs)) := by
  cases d with
  | int i => exact in_int
  | _ => cases h
theorem notIn_d' {d : D} {fs : List Int} (h : cntB d = true) : dNotIn d (codeD fs) = pure (.bl (!inF d fs)) := by
  cases d with
  | int i =>
    have q : liftB (inB (.int i) (fs.map D.int)) = pure (.bl (decide (i ∈ fs))) := in_int
    show liftB ((inB (.int i) (fs.map D.int)).map (!·)) = _
    cases e : inB (.int i) (fs.map D.int) with
    | none =>
      rw [e] at q
      exact absurd (show Ok (liftB none) [] (.bl (decide (i ∈ fs))) [] by rw [q]; exact ok_pure.mpr ⟨rfl, rfl⟩) not_ok_stuck
    | some b =>
      rw [e] at q
      have q2 : Ok (pure (D.bl b) : M D) [] (.bl (decide (i ∈ fs))) [] := by
        show Ok (liftB (some b)) [] _ []
        rw [q]
        exact ok_pure.mpr ⟨rfl, rfl⟩
      obtain ⟨q2, _⟩ := ok_pure.mp q2
      cases q2
      rfl
  | _ => cases h
def fitB (W : List (List Int)) (ds : List D) : Bool := decide (ds.length = W.length) && ds.all cntB && (ds.zip W).all fun p => inF p.1 p.2
theorem fits_gen {W : List (List Int)} (h : Wh W) {ds : List D} (ht : ∀ d ∈ ds, Ty d) (hl : ds.length ≤ 1000) : f_code_fits [codesD W, .lst ds] = pure (.bl (fitB W ds)) := by
  have ic : ∀ d ∈ ds, f_is_count [d] = pure (.bl (cntB d)) := fun d hd => is_count_d (ht d hd)
  have hf := h.few
  by_cases hlen : ds.length = W.length
  · cases hall : ds.all cntB with
    | false =>
      unfold f_code_fits
      apply ev_to
      · refine ev_seq (r := .rt (.bl false)) (ev_if (x := true) ?_ ?_) ?_
        · refine (show eOr _ _ _ = pure (.bl (false || (false || !ds.all cntB))) from ev_or ?_ fun _ => ev_or ?_ fun _ => ?_).trans (by rw [hall]; rfl)
          · exact f_eq (f_eq (ev_v rfl) rfl) rfl
          · refine (o_eq (f_eq (ev_v rfl) (len_ev _)) (f_eq (ev_v rfl) (len_ev _)) (neB_int _ _)).trans ?_
            rw [List.length_map, hlen]
            simp
          · refine f_eq (f_eq (x := .lst (ds.map fun x => .bl (cntB x))) ?_ (allB_ev _ _)) (not_ev _)
            wtm_at "ev"
            exact ic _ (by assumption)
        · rfl
        · rfl
      · rfl
      · unfold fitB
        rw [hall]
        simp
    | true =>
      have cz : ∀ p ∈ ds.zip W, cntB p.1 = true := fun p hp => List.all_eq_true.mp hall _ (List.of_mem_zip hp).1
      unfold f_code_fits
      apply ev_to
      · refine ev_seq (r := .nx (startD 4 [codesD W, .lst ds])) (ev_if (x := false) ?_ ?_) ?_
        · refine (show eOr _ _ _ = pure (.bl (false || (false || !ds.all cntB))) from ev_or ?_ fun _ => ev_or ?_ fun _ => ?_).trans (by rw [hall]; rfl)
          · exact f_eq (f_eq (ev_v rfl) rfl) rfl
          · refine (o_eq (f_eq (ev_v rfl) (len_ev _)) (f_eq (ev_v rfl) (len_ev _)) (neB_int _ _)).trans ?_
            rw [List.length_map, hlen]
            simp
          · refine f_eq (f_eq (x := .lst (ds.map fun x => .bl (cntB x))) ?_ (allB_ev _ _)) (not_ev _)
            wtm_at "ev"
            exact ic _ (by assumption)
        · rfl
        · apply seqK_nx
          wtm_at "ev"
          exact in_d (cz _ (by assumption))
          wtm_at "ev"
      · rfl
      · unfold fitB
        rw [hall, hlen]
        simp
  · rw [fits_len hlen]
    unfold fitB
    rw [decide_eq_false hlen]
    rfl
end K78

/-! ## MIK78 -/
set_option autoImplicit false
set_option linter.all false
set_option maxRecDepth 100000
set_option maxHeartbeats 2000000
namespace K78
open PySem DL
local macro_rules | `(tactic| wtm_at "evt") => `(tactic| first | rfl | assumption | (simp only [*]; done) | (simp [*, isTy]; done) | (simp; done) | decide | omega)
local macro_rules | `(tactic| wtm_at "evb") => `(tactic| first | omega | (simp only [List.length_map, List.length_append, List.length_cons, List.length_nil, List.length_zip, List.length_zipIdx, List.length_range, List.length_reverse]; omega) | (simp; omega) | decide)
local macro_rules | `(tactic| wtm_at "evc") => `(tactic| ((with_reducible show _ = _); assumption))
local macro_rules | `(tactic| wtm_at "ev1") => `(tactic| first
  | with_reducible exact ev_k
  | ((with_reducible apply  ev_w); exact rfl)
  | ((with_reducible apply  ev_v); exact rfl)
  | ((with_reducible apply  ev_vo); exact rfl)
  | with_reducible exact es_nil
  | with_reducible exact ev_no
  | with_reducible exact ev_skip
  | with_reducible exact seqK_rt
  | with_reducible apply  es_cons
  | with_reducible apply  f_eq
  | with_reducible apply  o_eq
  | with_reducible apply  ev_lst
  | with_reducible apply  tup_eq
  | with_reducible apply  ev_and
  | with_reducible apply  ev_or
  | with_reducible apply  ev_ife
  | with_reducible apply  call_eq
  | with_reducible apply  ev_callK
  | with_reducible apply  ev_callD
  | with_reducible apply  ev_callDK
  | with_reducible apply  hI_eq
  | with_reducible apply  hU_eq
  | with_reducible apply  ev_cutN
  | with_reducible apply  ev_at
  | with_reducible apply  ev_lcA
  | with_reducible apply  ev_lc
  | with_reducible apply  sx_l
  | with_reducible apply  sx_vw
  | with_reducible apply  sx_enum
  | with_reducible apply  sx_zip
  | with_reducible apply  sx_zipS
  | with_reducible apply  sx_r
  | with_reducible apply  sx_r2
  | with_reducible apply  ev_seq
  | with_reducible apply  seqK_nx
  | with_reducible apply  ev_if
  | with_reducible apply  ev_ret
  | with_reducible apply  ev_do
  | with_reducible apply  ev_asg
  | with_reducible apply  ev_par
  | with_reducible apply  ev_thr
  | with_reducible apply  ev_dox_thr
  | ((with_reducible apply  ifK_t); (wtm_at "evt"))
  | ((with_reducible apply  ifK_f); (wtm_at "evt"))
  | exact eqB_int _ _ | exact neB_int _ _ | exact eqB_bl _ _ | exact neB_bl _ _ | exact eqB_str _ _ | exact neB_str _ _
  | exact lt_ev _ _ | exact le_ev _ _ | exact gt_ev _ _ | exact ge_ev _ _ | exact not_ev _ | exact addI_ev _ _ | exact subI_ev _ _
  | ((with_reducible show Row _ _ _); first | exact row_code _ | exact row_codes _ | exact row_map _ _ | exact row_bcode _ | exact row_bcodes _ | exact row_id _)
  | ((with_reducible show _ = List.map _ _); first | exact map_mapR _ _ | exact map_idR _)
  | ((with_reducible show dIsI _ _ = _); exact rfl) | ((with_reducible show dIsI2 _ _ _ = _); exact rfl) | ((with_reducible show dIsN _ = _); exact rfl) | ((with_reducible show dNotN _ = _); exact rfl)
  | ((with_reducible show dUw _ = _); first | exact uw_bcodes _ | exact uw_bcode _ | exact rfl)
  | exact hU_len _
  | ((with_reducible show D.imm _ = _); exact rfl)
  | exact allB_ev _ _ | exact anyB_ev _ _ | exact sumI_ev _ _ | exact sumC_ev _
  | exact len_ev _ | exact lenT_ev _ | exact cut_ev _ _ _ | exact list_ev _ | exact tuple_ev _ | exact rev_ev _
  | apply  addL_ev
  | wtm_at "evc"
  | ((with_reducible show _ = some _); exact rfl)
  | ((with_reducible show _ ≤ _); wtm_at "evb")
  | ((with_reducible show _ < _); wtm_at "evb")
  | ((with_reducible show (_ : Nat) = _); wtm_at "evb")
  | ((with_reducible show ∀ _, _ ∈ _ → _); intro _ _)
  | ((with_reducible show (_ : Bool) = _ → _); intro _))
local macro_rules | `(tactic| wtm_at "ev") => `(tactic| repeat' (wtm_at "ev1"))
theorem zip_all (W : List (List Int)) : ∀ (ds : List D) (k : Nat), ds.length + k = W.length → decide (((ds.zipIdx k).filter fun p => !inF p.1 (W.getD p.2 [])) = []) = (ds.zip (W.drop k)).all fun p => inF p.1 p.2
  | [], _, _ => by simp
  | x :: ds, k, h => by
    have hk : k < W.length := by simp at h; omega
    have ih := zip_all W ds (k + 1) (by simp at h ⊢; omega)
    rw [List.drop_eq_getElem_cons hk, List.zipIdx_cons, List.zip_cons_cons, List.all_cons, ← ih]
    have e : W.getD k [] = W[k] := by rw [List.getD_eq_getElem?_getD, List.getElem?_eq_getElem hk]; rfl
    cases hx : inF x W[k] with
    | true => rw [List.filter_cons_of_neg (by show ¬ (!inF x (W.getD k [])) = true; rw [e, hx]; simp), Bool.true_and]
    | false =>
      rw [List.filter_cons_of_pos (by show (!inF x (W.getD k [])) = true; rw [e, hx]; rfl), Bool.false_and]
      simp
theorem law_code_gen {W : List (List Int)} (h : Wh W) {ds : List D} (ht : ∀ d ∈ ds, Ty d) (hcl : ∀ d ∈ ds, d.cl 59 = true) (hl : ds.length ≤ 1000) : f_law_is_code [codesD W, .lst ds] = pure (.bl (fitB W ds)) := by
  have ic : ∀ d ∈ ds, f_law_is_count [d] = pure (.bl (cntB d)) := fun d hd => law_count_d (ht d hd)
  have hf := h.few
  have t1 : eF dNot (eF (fun d => dIsI d "list") (eV 1)) (startD 4 [codesD W, .lst ds]) = pure (.bl false) := f_eq (f_eq (ev_v rfl) rfl) rfl
  have t2 : eO dNe (eF dLen (eV 1)) (eF dLen (eV 0)) (startD 4 [codesD W, .lst ds]) = pure (.bl (!decide (ds.length = W.length))) := by
    refine (o_eq (f_eq (ev_v rfl) (len_ev _)) (f_eq (ev_v rfl) (len_ev _)) (neB_int _ _)).trans ?_
    rw [List.length_map]
    congr 3
    exact decide_eq_decide.mpr (by omega)
  by_cases hlen : ds.length = W.length
  · have t3 : eO dNe (eLc [2] (gN 2) (xL (eW 1)) (eF dNot (eCall f_law_is_count (esC (eW 2) (esN)))) (eW 2)) (eLst (esN)) (startD 4 [codesD W, .lst ds]) = pure (.bl (!ds.all cntB)) := by
      refine (o_eq (x := .lst ((ds.filter fun d => !cntB d).map fun d => d)) (y := .lst []) ?_ (ev_lst es_nil (by simp)) (neNil_ev ?_)).trans ?_
      · wtm_at "ev"
        exact ic _ (by assumption)
        wtm_at "ev"
      · rw [List.map_id']
        exact List.all_eq_true.mpr fun d hd => hcl d (List.mem_filter.mp hd).1
      · rw [List.map_id']
        congr 3
        rw [Bool.eq_iff_iff]
        simp [List.filter_eq_nil_iff]
    cases hall : ds.all cntB with
    | false =>
      rw [hall] at t3
      unfold f_law_is_code
      refine ev_to (d := .bl false) ?_ rfl ?_
      · refine seq_rt ?_
        rw [if_t]
        · rfl
        · rw [or_f t1, or_f (by rw [t2, hlen]; simp)]
          exact t3
      · unfold fitB
        rw [hall]
        simp
    | true =>
      rw [hall] at t3
      have cz : ∀ p ∈ ds.zipIdx, cntB p.1 = true := fun p hp => by
        obtain ⟨h1, h2, h3⟩ := List.mem_zipIdx hp
        rw [h3]
        exact List.all_eq_true.mp hall _ (List.getElem_mem _)
      have ix : ∀ p ∈ ds.zipIdx, dIx (codesD W) (.int p.2) = pure (codeD (W.getD p.2 [])) := fun p hp => by
        have := List.snd_lt_of_mem_zipIdx hp
        rw [ix_codes (by omega), List.getD_eq_getElem?_getD, List.getElem?_eq_getElem (by omega)]
        rfl
      unfold f_law_is_code
      refine ev_to (d := .bl (decide (((ds.zipIdx.filter fun p => !inF p.1 (W.getD p.2 [])).map fun p => D.int p.2) = []))) ?_ rfl ?_
      · rw [seq_nx (δ' := startD 4 [codesD W, .lst ds])]
        · refine ev_ret (o_eq (y := .lst []) ?_ (ev_lst es_nil (by simp)) (eqNil_ev ?_))
          · wtm_at "ev"
            exact ix _ (by assumption)
            exact notIn_d' (cz _ (by assumption))
            wtm_at "ev"
          · rw [List.all_map]
            exact List.all_eq_true.mpr fun p hp => by
              have := List.snd_lt_of_mem_zipIdx (List.mem_filter.mp hp).1
              show decide ((p.2 : Int).natAbs.log2 < 1920) = true
              exact decide_eq_true (small_of (by omega))
        · rw [if_f]
          · rfl
          · rw [or_f t1, or_f (by rw [t2, hlen]; simp)]
            exact t3
      · unfold fitB
        have z := zip_all W ds 0 (by omega)
        rw [List.drop_zero] at z
        rw [hall, hlen, ← z]
        simp [List.map_eq_nil_iff]
  · unfold f_law_is_code
    refine ev_to (d := .bl false) ?_ rfl ?_
    · refine seq_rt ?_
      rw [if_t]
      · rfl
      · rw [or_f t1]
        exact or_t (by rw [t2, decide_eq_false hlen]; rfl)
    · unfold fitB
      rw [decide_eq_false hlen]
      rfl
theorem law_code_no {W : List (List Int)} {v : D} {t : String} (ht : v.ty = some t) (hi : isTy v "list" = false) : f_law_is_code [codesD W, v] = pure (.bl false) := by
  unfold f_law_is_code
  refine ev_to (d := .bl false) ?_ rfl rfl
  refine seq_rt ?_
  rw [if_t]
  · rfl
  · refine or_t (f_eq (f_eq (ev_v rfl) (?_ : dIsI v "list" = pure (D.bl false))) rfl)
    show (match v.ty with | some _ => (pure (D.bl (isTy v "list")) : M D) | none => stuck) = _
    rw [ht, hi]
end K78

/-! ## MJK78 -/
set_option autoImplicit false
set_option linter.all false
set_option maxRecDepth 100000
set_option maxHeartbeats 2000000
namespace K78
open PySem DL
local macro_rules | `(tactic| wtm_at "evt") => `(tactic| first | rfl | assumption | (simp only [*]; done) | (simp [*, isTy]; done) | (simp; done) | decide | omega)
local macro_rules | `(tactic| wtm_at "evb") => `(tactic| first | omega | (simp only [List.length_map, List.length_append, List.length_cons, List.length_nil, List.length_zip, List.length_zipIdx, List.length_range, List.length_reverse]; omega) | (simp; omega) | decide)
local macro_rules | `(tactic| wtm_at "evc") => `(tactic| ((with_reducible show _ = _); assumption))
local macro_rules | `(tactic| wtm_at "ev1") => `(tactic| first
  | with_reducible exact ev_k
  | ((with_reducible apply  ev_w); exact rfl)
  | ((with_reducible apply  ev_v); exact rfl)
  | ((with_reducible apply  ev_vo); exact rfl)
  | with_reducible exact es_nil
  | with_reducible exact ev_no
  | with_reducible exact ev_skip
  | with_reducible exact seqK_rt
  | with_reducible apply  es_cons
  | with_reducible apply  f_eq
  | with_reducible apply  o_eq
  | with_reducible apply  ev_lst
  | with_reducible apply  tup_eq
  | with_reducible apply  ev_and
  | with_reducible apply  ev_or
  | with_reducible apply  ev_ife
  | with_reducible apply  call_eq
  | with_reducible apply  ev_callK
  | with_reducible apply  ev_callD
  | with_reducible apply  ev_callDK
  | with_reducible apply  hI_eq
  | with_reducible apply  hU_eq
  | with_reducible apply  ev_cutN
  | with_reducible apply  ev_at
  | with_reducible apply  ev_lcA
  | with_reducible apply  ev_lc
  | with_reducible apply  sx_l
  | with_reducible apply  sx_vw
  | with_reducible apply  sx_enum
  | with_reducible apply  sx_zip
  | with_reducible apply  sx_zipS
  | with_reducible apply  sx_r
  | with_reducible apply  sx_r2
  | with_reducible apply  ev_seq
  | with_reducible apply  seqK_nx
  | with_reducible apply  ev_if
  | with_reducible apply  ev_ret
  | with_reducible apply  ev_do
  | with_reducible apply  ev_asg
  | with_reducible apply  ev_par
  | with_reducible apply  ev_thr
  | with_reducible apply  ev_dox_thr
  | ((with_reducible apply  ifK_t); (wtm_at "evt"))
  | ((with_reducible apply  ifK_f); (wtm_at "evt"))
  | exact eqB_int _ _ | exact neB_int _ _ | exact eqB_bl _ _ | exact neB_bl _ _ | exact eqB_str _ _ | exact neB_str _ _
  | exact lt_ev _ _ | exact le_ev _ _ | exact gt_ev _ _ | exact ge_ev _ _ | exact not_ev _ | exact addI_ev _ _ | exact subI_ev _ _
  | ((with_reducible show Row _ _ _); first | exact row_code _ | exact row_codes _ | exact row_map _ _ | exact row_bcode _ | exact row_bcodes _ | exact row_id _)
  | ((with_reducible show _ = List.map _ _); first | exact map_mapR _ _ | exact map_idR _)
  | ((with_reducible show dIsI _ _ = _); exact rfl) | ((with_reducible show dIsI2 _ _ _ = _); exact rfl) | ((with_reducible show dIsN _ = _); exact rfl) | ((with_reducible show dNotN _ = _); exact rfl)
  | ((with_reducible show dUw _ = _); first | exact uw_bcodes _ | exact uw_bcode _ | exact rfl)
  | exact hU_len _
  | ((with_reducible show D.imm _ = _); exact rfl)
  | exact allB_ev _ _ | exact anyB_ev _ _ | exact sumI_ev _ _ | exact sumC_ev _
  | exact len_ev _ | exact lenT_ev _ | exact cut_ev _ _ _ | exact list_ev _ | exact tuple_ev _ | exact rev_ev _
  | apply  addL_ev
  | wtm_at "evc"
  | ((with_reducible show _ = some _); exact rfl)
  | ((with_reducible show _ ≤ _); wtm_at "evb")
  | ((with_reducible show _ < _); wtm_at "evb")
  | ((with_reducible show (_ : Nat) = _); wtm_at "evb")
  | ((with_reducible show ∀ _, _ ∈ _ → _); intro _ _)
  | ((with_reducible show (_ : Bool) = _ → _); intro _))
local macro_rules | `(tactic| wtm_at "ev") => `(tactic| repeat' (wtm_at "ev1"))
/-! ### refusals -/
theorem are_gen {es : List (D × Bool)} (he : ∀ e ∈ es, f_are_figures [e.1] = pure (.bl e.2) ∧ e.1.cl 59 = true) (hl : es.length ≤ 1000) : f_are_wheels [.lst (es.map (·.1))] = pure (.bl (!decide (es = []) && es.all (·.2))) := by
  have h1 : ∀ e ∈ es, f_are_figures [e.1] = pure (.bl e.2) := fun e h => (he e h).1
  have h2 : dNe (.lst (es.map (·.1))) (.lst []) = pure (.bl (!decide (es = []))) := by
    rw [neNil_ev]
    · simp
    · rw [List.all_map]
      exact List.all_eq_true.mpr fun e h => (he e h).2
  unfold f_are_wheels
  apply ev_to
  · wtm_at "ev"
    exact h1 _ (by assumption)
    wtm_at "ev"
  · rfl
  · rfl
theorem are_good {W : List (List Int)} (h : Wh W) : f_are_wheels [codesD W] = pure (.bl true) := by
  have hf := h.few
  have := are_gen (es := W.map fun c => (codeD c, true)) (fun e he => by
    rw [List.mem_map] at he
    obtain ⟨c, hc, rfl⟩ := he
    exact ⟨are_figures_eq (h.fs c hc).1 (h.fs c hc).2.1 (h.fs c hc).2.2 (Nat.le_trans (h.len hc) (by decide)), cl_code (n := 58) (h.small c hc)⟩) (by simp; omega)
  rw [List.map_map] at this
  have e : W.map ((·.1) ∘ fun c => (codeD c, true)) = W.map codeD := rfl
  rw [e] at this
  have ne := h.ne
  refine this.trans ?_
  have q : (W.map fun c => (codeD c, true)).all (·.2) = true := by
    rw [List.all_map]
    exact List.all_eq_true.mpr fun _ _ => rfl
  rw [q]
  simp [ne]
theorem xcheck_good {W : List (List Int)} (h : Wh W) : fx_check_wheels [codesD W] = pure .non := by
  have h1 := are_good h
  unfold fx_check_wheels
  apply ev_fnn
  · rfl
  · wtm_at "ev"
theorem xcheck_bad {d : D} (h1 : f_are_wheels [d] = pure (.bl false)) : fx_check_wheels [d] = pure (.thr "InvalidClues" d) := by
  unfold fx_check_wheels
  apply ev_to
  · wtm_at "ev"
  · rfl
  · rfl
def sTail : S := sSeq (sPar 5 6 (eLst (esC (eK (.str "InvalidClues")) (esN))) (eLst (esC (eF (dIsEx errs "InvalidClues") (eW 2)) (esN)))) (sRet (eIf (eF dIsN (eV 2)) (eK .non) (eLst (esC (eLc [7, 8] (gT [gN 7, gN 8]) (xZ (eW 5) (eW 6)) (eV 8) (eW 7)) (esC (eF dReprN (eF (dValx errs) (eW 2))) (esN))))))
/-- what _law_caught tells where x(e) is raised -/
theorem caught_eq {z x : Str} {Fs : List D → M D} {args : List D} {e : D} {n m : Nat} (hz : tab z = some Fs) (ha : args.length = 1 ∨ args.length = 2 ∨ args.length = 3) (hf : Fs args = pure (.thr x e)) (hx : x = "InvalidClues")
    (hp : Txt 60 n (.lst args)) (hn : n ≤ 16777216) (he : Txt 60 m e) (hm : m ≤ 16777216) : f_law_caught [.fn z, .lst args] = pure (.lst [.lst [.str x], .str e.py.shown]) := by
  have rp := reprN_ev hp hn
  have re := reprN_ev he hm
  generalize hs : (D.lst args).py.shown = s at rp
  have hxe : errs.contains x = true := by subst hx; decide +kernel
  have s1 : sPar 2 3 (eK .non) (eF dReprN (eV 1)) (startD 9 [.fn z, .lst args]) = pure (.nx [.val (.fn z), .val (.lst args), .val .non, .val (.str s), .no, .no, .no, .no, .no]) := ev_par ev_k (f_eq (ev_v rfl) rp)
  have hc : ∀ fs : Es, fs [.val (.fn z), .val (.lst args), .val .non, .val (.str s), .no, .no, .no, .no, .no] = pure args → sCallX tab 0 fs [.val (.fn z), .val (.lst args), .val .non, .val (.str s), .no, .no, .no, .no, .no] = pure (.rt (.thr x e)) := fun fs h => by
    unfold sCallX
    rw [h, pure_bind]
    show (match tab z with | some Fs => Fs args >>= fun d => if d.isThr then pure (Fl.rt d) else pure (.nx _) | none => stuck) = _
    rw [hz]
    show (Fs args >>= fun d => if d.isThr then pure (Fl.rt d) else pure (.nx _)) = _
    rw [hf, pure_bind]
    rfl
  have len : ∀ k : Nat, eO dEq (eF dLen (eV 1)) (eK (.int k)) [.val (.fn z), .val (.lst args), .val .non, .val (.str s), .no, .no, .no, .no, .no] = pure (.bl (decide (args.length = k))) := fun k => by
    refine (o_eq (f_eq (ev_v rfl) (len_ev _)) ev_k (eqB_int _ _)).trans ?_
    congr 2
    exact decide_eq_decide.mpr (by omega)
  have len1 : eO dEq (eF dLen (eV 1)) (eK (.int 1)) [.val (.fn z), .val (.lst args), .val .non, .val (.str s), .no, .no, .no, .no, .no] = pure (.bl (decide (args.length = 1))) := len 1
  have len2 : eO dEq (eF dLen (eV 1)) (eK (.int 2)) [.val (.fn z), .val (.lst args), .val .non, .val (.str s), .no, .no, .no, .no, .no] = pure (.bl (decide (args.length = 2))) := len 2
  have len3 : eO dEq (eF dLen (eV 1)) (eK (.int 3)) [.val (.fn z), .val (.lst args), .val .non, .val (.str s), .no, .no, .no, .no, .no] = pure (.bl (decide (args.length = 3))) := len 3
  have tail : sSeq (sIf (eO dNe (eF dReprN (eV 1)) (eV 3)) (sRet (eLst (esC (eK (.str "changed")) (esN)))) (sSkip)) sTail
      [.val (.fn z), .val (.lst args), .val (.exc x e), .val (.str s), .no, .no, .no, .no, .no] = pure (.rt (.lst [.lst [.str x], .str e.py.shown])) := by
    rw [seq_nx (δ' := [.val (.fn z), .val (.lst args), .val (.exc x e), .val (.str s), .no, .no, .no, .no, .no])]
    · have ev : ∀ t1 : Bool, dIsEx errs "InvalidClues" (.exc x e) = pure (.bl t1) → eLc [7, 8] (gT [gN 7, gN 8]) (xZ (eW 5) (eW 6)) (eV 8) (eW 7) [.val (.fn z), .val (.lst args), .val (.exc x e), .val (.str s), .no, .val (.lst [.str "InvalidClues"]), .val (.lst [.bl t1]), .no, .no] = pure (.lst [.str x]) → sTail [.val (.fn z), .val (.lst args), .val (.exc x e), .val (.str s), .no, .no, .no, .no, .no] = pure (.rt (.lst [.lst [.str x], .str e.py.shown])) := fun t1 q1 q0 => by
        unfold sTail
        rw [seq_nx (δ' := [.val (.fn z), .val (.lst args), .val (.exc x e), .val (.str s), .no, .val (.lst [.str "InvalidClues"]), .val (.lst [.bl t1]), .no, .no])]
        · refine ev_ret ?_
          rw [ife_f (f_eq (x := .exc x e) (ev_v rfl) (show dIsN (.exc x e) = pure (.bl false) from rfl))]
          refine ev_lst (es_cons q0 (es_cons (f_eq (f_eq (ev_w rfl) ?_) re) es_nil)) (by simp)
          show (if errs.contains x then pure e else stuck) = _
          rw [if_pos hxe]
        · exact ev_par (ev_lst (es_cons ev_k es_nil) (by simp)) (ev_lst (es_cons (f_eq (ev_w rfl) q1) es_nil) (by simp))
      subst hx
      exact ev true rfl rfl
    · rw [if_f]
      · rfl
      · refine (o_eq (f_eq (ev_v rfl) rp) (ev_v rfl) (neB_str _ _)).trans ?_
        rw [decide_eq_true rfl]
        rfl
  unfold f_law_caught
  refine ev_to (d := .lst [.lst [.str x], .str e.py.shown]) ?_ rfl rfl
  rw [seq_nx s1, seq_nx (δ' := [.val (.fn z), .val (.lst args), .val (.exc x e), .val (.str s), .no, .no, .no, .no, .no])]
  · exact tail
  · have fin : ∀ b : S, b [.val (.fn z), .val (.lst args), .val .non, .val (.str s), .no, .no, .no, .no, .no] = pure (.rt (.thr x e)) → sTry errs 4 2 b [.val (.fn z), .val (.lst args), .val .non, .val (.str s), .no, .no, .no, .no, .no] = pure (.nx [.val (.fn z), .val (.lst args), .val (.exc x e), .val (.str s), .no, .no, .no, .no, .no]) := fun b h => by
      unfold sTry
      rw [h, pure_bind]
      show (if errs.contains x then _ else _) = _
      rw [if_pos hxe]
      rfl
    refine fin _ ?_
    match args, ha with
    | [a], _ =>
      rw [if_t len1]
      exact hc _ rfl
    | [a, b], _ =>
      rw [if_f len1, if_t len2]
      exact hc _ rfl
    | [a, b, c], _ =>
      rw [if_f len1, if_f len2, if_t len3]
      exact hc _ rfl
    | [], h => simp at h
    | _ :: _ :: _ :: _ :: _, h => simp at h
end K78

/-! ## MNK78 -/
set_option autoImplicit false
set_option linter.all false
set_option maxRecDepth 100000
set_option maxHeartbeats 2000000
namespace K78
open PySem DL
local macro_rules | `(tactic| wtm_at "evt") => `(tactic| first | rfl | assumption | (simp only [*]; done) | (simp [*, isTy]; done) | (simp; done) | decide | omega)
local macro_rules | `(tactic| wtm_at "evb") => `(tactic| first | omega | (simp only [List.length_map, List.length_append, List.length_cons, List.length_nil, List.length_zip, List.length_zipIdx, List.length_range, List.length_reverse]; omega) | (simp; omega) | decide)
local macro_rules | `(tactic| wtm_at "evc") => `(tactic| ((with_reducible show _ = _); assumption))
local macro_rules | `(tactic| wtm_at "ev1") => `(tactic| first
  | with_reducible exact ev_k
  | ((with_reducible apply  ev_w); exact rfl)
  | ((with_reducible apply  ev_v); exact rfl)
  | ((with_reducible apply  ev_vo); exact rfl)
  | with_reducible exact es_nil
  | with_reducible exact ev_no
  | with_reducible exact ev_skip
  | with_reducible exact seqK_rt
  | with_reducible apply  es_cons
  | with_reducible apply  f_eq
  | with_reducible apply  o_eq
  | with_reducible apply  ev_lst
  | with_reducible apply  tup_eq
  | with_reducible apply  ev_and
  | with_reducible apply  ev_or
  | with_reducible apply  ev_ife
  | with_reducible apply  call_eq
  | with_reducible apply  ev_callK
  | with_reducible apply  ev_callD
  | with_reducible apply  ev_callDK
  | with_reducible apply  hI_eq
  | with_reducible apply  hU_eq
  | with_reducible apply  ev_cutN
  | with_reducible apply  ev_at
  | with_reducible apply  ev_lcA
  | with_reducible apply  ev_lc
  | with_reducible apply  sx_l
  | with_reducible apply  sx_vw
  | with_reducible apply  sx_enum
  | with_reducible apply  sx_zip
  | with_reducible apply  sx_zipS
  | with_reducible apply  sx_r
  | with_reducible apply  sx_r2
  | with_reducible apply  ev_seq
  | with_reducible apply  seqK_nx
  | with_reducible apply  ev_if
  | with_reducible apply  ev_ret
  | with_reducible apply  ev_do
  | with_reducible apply  ev_asg
  | with_reducible apply  ev_par
  | with_reducible apply  ev_thr
  | with_reducible apply  ev_dox_thr
  | ((with_reducible apply  ifK_t); (wtm_at "evt"))
  | ((with_reducible apply  ifK_f); (wtm_at "evt"))
  | exact eqB_int _ _ | exact neB_int _ _ | exact eqB_bl _ _ | exact neB_bl _ _ | exact eqB_str _ _ | exact neB_str _ _
  | exact lt_ev _ _ | exact le_ev _ _ | exact gt_ev _ _ | exact ge_ev _ _ | exact not_ev _ | exact neg_ev _ | exact addI_ev _ _ | exact subI_ev _ _
  | ((with_reducible show Row _ _ _); first | exact row_code _ | exact row_codes _ | exact row_map _ _ | exact row_bcode _ | exact row_bcodes _ | exact row_id _)
  | ((with_reducible show _ = List.map _ _); first | exact map_mapR _ _ | exact map_idR _)
  | ((with_reducible show dIsI _ _ = _); exact rfl) | ((with_reducible show dIsI2 _ _ _ = _); exact rfl) | ((with_reducible show dIsN _ = _); exact rfl) | ((with_reducible show dNotN _ = _); exact rfl)
  | ((with_reducible show dUw _ = _); first | exact uw_bcodes _ | exact uw_bcode _ | exact rfl)
  | exact hU_len _
  | ((with_reducible show D.imm _ = _); exact rfl)
  | exact allB_ev _ _ | exact anyB_ev _ _ | exact sumI_ev _ _ | exact sumC_ev _
  | exact len_ev _ | exact lenT_ev _ | exact cut_ev _ _ _ | exact list_ev _ | exact tuple_ev _ | exact rev_ev _
  | apply  addL_ev
  | wtm_at "evc"
  | ((with_reducible show _ = some _); exact rfl)
  | ((with_reducible show _ ≤ _); wtm_at "evb")
  | ((with_reducible show _ < _); wtm_at "evb")
  | ((with_reducible show (_ : Nat) = _); wtm_at "evb")
  | ((with_reducible show ∀ _, _ ∈ _ → _); intro _ _)
  | ((with_reducible show (_ : Bool) = _ → _); intro _))
local macro_rules | `(tactic| wtm_at "ev") => `(tactic| repeat' (wtm_at "ev1"))
theorem all_codes_gen {W : List (List Int)} (h : Wh W) {w : D} {em : List Int → D} (hrow : rowOf w = pure (W.map em)) (hem : ∀ c : List Int, rowOf (em c) = pure (c.map .int)) : f_all_codes [w] = pure (codesD (allC W)) := by
  have loop := forGo_pre (g := gN 2) (s := sAsg (gN 1) (eLc2 [3, 4] [4] (gN 3) (xL (eW 1)) (eK (.bl true)) (gN 4) (xL (eW 2)) (eK (.bl true)) (eO dAdd (eV 3) (eLst (esC (eW 4) (esN)))))) (emb := em)
    (I := fun p δ => ∃ a2 a3 a4, δ = [.val w, .val (codesD (allC p)), a2, a3, a4]) (xs := W) (pre := []) (δ := [.val w, .val (codesD [[]]), .no, .no, .no]) ⟨.no, .no, .no, rfl⟩ (fun p x q δ e hI => by
      obtain ⟨a2, a3, a4, rfl⟩ := hI
      have hp : szC (p ++ [x]) ≤ 300 := h.pre (q := q) (by rw [List.nil_append] at e; simp [e])
      refine ⟨[.val w, .val (codesD (allC p)), .val (em x), a3, a4], [.val w, .val (codesD (allC (p ++ [x]))), .val (em x), a3, a4], rfl, ?_, _, _, _, rfl⟩
      have l1 := allC_len (p ++ [x])
      have inn : ∀ c ∈ allC p, lcGo (gN 4) (eK (.bl true)) (eO dAdd (eV 3) (eLst (esC (eW 4) esN))) [.val w, .val (codesD (allC p)), .val (em x), .val (codeD c), .no] (x.map .int) = pure (x.map fun f => codeD (c ++ [f])) := fun c hc => by
        have q := lcGo_map (g := gN 4) (tt := eK (.bl true)) (te := eO dAdd (eV 3) (eLst (esC (eW 4) esN))) (δ := [.val w, .val (codesD (allC p)), .val (em x), .val (codeD c), .no]) (emb := D.int) (γ := fun f => [.val w, .val (codesD (allC p)), .val (em x), .val (codeD c), .val (.int f)])
          (p := fun _ => true) (f := fun f => codeD (c ++ [f])) (xs := x) (fun f _ => rfl) (fun f _ => rfl) (fun f _ _ => by
            have hl : (c.map D.int).length ≤ 999999 := by
              rw [List.length_map, (allC_in p c hc).1]
              have := h.few
              rw [List.nil_append] at e
              rw [e] at this
              simp at this
              omega
            simp only [fn, startD, sSeq, sAsg, sRet, sIf, sDo, sFor, sSkip, sPar, eK, eV, eW, eF, eO, esN, esC, eLst, eTup, eCall, eCallI, eAnd, eOr, eIf, eNo, eAt, eCut, gN, liftG, xL, xT, xR, xR2, xE, xZ, xZs, xZ3, pure_bind, List.length_cons, List.length_nil, List.replicate, List.map_cons, List.map_nil, List.cons_append, List.nil_append, List.getElem?_cons_zero, List.getElem?_cons_succ, List.set_cons_zero, List.set_cons_succ, Nat.reduceAdd, Nat.reduceSub, ↓reduceIte, wipeD]
            unfold codeD
            simp only [dAdd, lim_ok (show 1 ≤ 1000000 by decide), ↓reduceIte, pure_bind]
            rw [if_pos (lim_ok (by simp only [List.length_cons, List.length_nil]; omega))]
            simp)
        rw [List.filter_eq_self.mpr (fun _ _ => rfl)] at q
        exact q
      have outer := lc2_map (g := gN 3) (tt := eK (.bl true)) (δ := wipeD [.val w, .val (codesD (allC p)), .val (em x), a3, a4] [3, 4]) (in1 := fun δ' => xL (eW 2) δ' >>= fun zs => lcGo (gN 4) (eK (.bl true)) (eO dAdd (eV 3) (eLst (esC (eW 4) esN))) (wipeD δ' [4]) zs) (emb := codeD)
        (γ := fun c => [.val w, .val (codesD (allC p)), .val (em x), .val (codeD c), .no]) (f := fun c => x.map fun f => codeD (c ++ [f])) (β := D) (xs := allC p) (fun c _ => rfl) (fun c _ => rfl) (fun c hc => by
          show (xL (eW 2) _ >>= _) = _
          rw [show xL (eW 2) [.val w, .val (codesD (allC p)), .val (em x), .val (codeD c), .no] = pure (x.map .int) from hem x, pure_bind]
          exact inn c hc)
      have ee : (allC p).flatMap (fun c => x.map fun f => codeD (c ++ [f])) = (allC (p ++ [x])).map codeD := by
        rw [allC_snoc, List.map_flatMap]
        congr 1
        funext c
        rw [List.map_map]
        rfl
      show (eLc2 _ _ _ _ _ _ _ _ _ _ >>= _) = _
      unfold eLc2
      rw [eLc_in (allC p) codeD (i := 1) rfl, pure_bind, outer, pure_bind, ee, if_pos (lim_ok (by rw [List.length_map, l1]; omega)), pure_bind]
      rfl)
  obtain ⟨δ', h1, a2, a3, a4, h2⟩ := loop
  refine fn_rt rfl ?_
  have s0 : sAsg (gN 1) (eLst (esC (eLst esN) esN)) (startD 5 [w]) = pure (.nx [.val w, .val (codesD [[]]), .no, .no, .no]) :=
    asg_nx (lst_eq (es_cons (lst_eq es_nil (by simp)) es_nil) (by simp)) rfl
  rw [seq_nx s0, seq_nx (for_nx (show xL (eW 0) [.val w, .val (codesD [[]]), .no, .no, .no] = pure (W.map em) from hrow) h1), h2]
  rfl
/-! ### clues -/
inductive Cl where
  | right (c : List Int) (n : Nat)
  | sum (n : Nat)
  | among (w : Nat) (fs : List Int)
  | less (a b : Nat)
def clD : Cl → D
  | .right c n => .tup [.str "right", codeD c, .int n]
  | .sum n => .tup [.str "sum", .int n]
  | .among w fs => .tup [.str "among", .int w, codeD fs]
  | .less a b => .tup [.str "less", .int a, .int b]
def eqs (c d : List Int) : Nat := ((c.zip d).filter fun p => decide (p.1 = p.2)).length
def fitC (c : List Int) : Cl → Bool
  | .right d n => decide (eqs c d = n)
  | .sum n => decide (c.sum = n)
  | .among w fs => decide (c.getD w 0 ∈ fs)
  | .less a b => decide (c.getD a 0 < c.getD b 0)
/-- a clue that the law draws -/
def GdC (W : List (List Int)) : Cl → Prop
  | .right d n => d ∈ allC W ∧ n ≤ 100
  | .sum n => n ≤ 100
  | .among w fs => w < W.length ∧ Gd fs ∧ fs.length ≤ 10
  | .less a b => a < W.length ∧ b < W.length ∧ a ≠ b
theorem nb_cl (k : Cl) : (clD k).nb = true := by
  cases k <;> simp [clD, D.nb, nbs, nb_code]
theorem un_cl (k : Cl) : (clD k).un = clD k := un_nb _ (nb_cl k)
theorem getD_lt {c : List Int} {i : Nat} (h : i < c.length) : c.getD i 0 = c[i] := by rw [List.getD_eq_getElem?_getD, List.getElem?_eq_getElem h]; rfl
theorem ixD {c : List Int} {i : Nat} (h : i < c.length) : dIx (codeD c) (.int i) = pure (.int (c.getD i 0)) := by rw [ix_code h, getD_lt h]
theorem ixT0 {x : D} {r : List D} : dIx (.tup (x :: r)) (.int 0) = pure x := by
  show (match (place (x :: r).length 0).bind fun j => (x :: r)[j]? with | some v => (pure v : M D) | none => stuck) = _
  have h : place (x :: r).length 0 = some 0 := by
    unfold place
    rw [if_pos (by omega), if_pos (by simp <;> omega)]
    rfl
  rw [h]
  rfl
theorem ixT1 {x y : D} {r : List D} : dIx (.tup (x :: y :: r)) (.int 1) = pure y := by
  have h : place (x :: y :: r).length 1 = some 1 := by
    unfold place
    rw [if_pos (by omega), if_pos (by simp <;> omega)]
    rfl
  show (match (place (x :: y :: r).length 1).bind fun j => (x :: y :: r)[j]? with | some v => (pure v : M D) | none => stuck) = _
  rw [h]
  rfl
theorem ixT2 {x y z : D} {r : List D} : dIx (.tup (x :: y :: z :: r)) (.int 2) = pure z := by
  have h : place (x :: y :: z :: r).length 2 = some 2 := by
    unfold place
    rw [if_pos (by omega), if_pos (by simp <;> omega)]
    rfl
  show (match (place (x :: y :: z :: r).length 2).bind fun j => (x :: y :: z :: r)[j]? with | some v => (pure v : M D) | none => stuck) = _
  rw [h]
  rfl
theorem s_rr : (Str.ofString "right" = Str.ofString "right") = True := by simp
theorem s_sr : decide (Str.ofString "sum" = Str.ofString "right") = false := by decide +kernel
theorem s_ar : decide (Str.ofString "among" = Str.ofString "right") = false := by decide +kernel
theorem s_lr : decide (Str.ofString "less" = Str.ofString "right") = false := by decide +kernel
theorem s_as : decide (Str.ofString "among" = Str.ofString "sum") = false := by decide +kernel
theorem s_ls : decide (Str.ofString "less" = Str.ofString "sum") = false := by decide +kernel
theorem s_la : decide (Str.ofString "less" = Str.ofString "among") = false := by decide +kernel
theorem s_rs : decide (Str.ofString "right" = Str.ofString "sum") = false := by decide +kernel
/-- the first word of a clue, compared -/
theorem w0 {s t : Str} {r : List D} {δ : Dlt} {b : Bool} (h : δ[1]? = some (.val (.tup (.str s :: r)))) (hb : decide (s = t) = b) : eO dEq (eO dIx (eV 1) (eK (.int 0))) (eK (.str t)) δ = pure (.bl b) := by
  rw [← hb]
  exact o_eq (o_eq (ev_v h) ev_k ixT0) ev_k (eqB_str _ _)
theorem does_fit_eq {W : List (List Int)} (h : Wh W) {c : List Int} (hc : c ∈ allC W) {k : Cl} (hk : GdC W k) : f_does_fit_clue [codeD c, clD k] = pure (.bl (fitC c k)) := by
  have hl := (allC_in W c hc).1
  have hf := h.few
  unfold f_does_fit_clue
  cases k with
  | right d n =>
    have hd := (allC_in W d hk.1).1
    have r := right_in_eq (a := c) (b := d) (by omega) (by omega)
    refine ev_to (d := .bl (fitC c (.right d n))) (seq_rt ?_) rfl rfl
    rw [if_t (w0 rfl (decide_eq_true rfl))]
    refine ev_ret ((o_eq (call_eq (es_cons (ev_w rfl) (es_cons (o_eq (ev_v rfl) ev_k ixT1) es_nil)) r) (o_eq (ev_v rfl) ev_k ixT2) (eqB_int _ _)).trans ?_)
    unfold fitC eqs
    congr 2
    exact decide_eq_decide.mpr (by omega)
  | sum n =>
    refine ev_to (d := .bl (fitC c (.sum n))) ?_ rfl rfl
    rw [seq_nx (δ' := startD 2 [codeD c, clD (.sum n)]) (by rw [if_f (w0 rfl s_sr)]; rfl)]
    refine seq_rt ?_
    rw [if_t (w0 rfl (decide_eq_true rfl))]
    exact ev_ret (o_eq (f_eq (ev_v rfl) (sumC_ev c)) (o_eq (ev_v rfl) ev_k ixT1) (eqB_int _ _))
  | among w fs =>
    refine ev_to (d := .bl (fitC c (.among w fs))) ?_ rfl rfl
    rw [seq_nx (δ' := startD 2 [codeD c, clD (.among w fs)]) (by rw [if_f (w0 rfl s_ar)]; rfl), seq_nx (δ' := startD 2 [codeD c, clD (.among w fs)]) (by rw [if_f (w0 rfl s_as)]; rfl)]
    refine seq_rt ?_
    rw [if_t (w0 rfl (decide_eq_true rfl))]
    exact ev_ret (o_eq (o_eq (ev_v rfl) (o_eq (ev_v rfl) ev_k ixT1) (ixD (by have := hk.1; omega))) (o_eq (ev_v rfl) ev_k ixT2) in_int)
  | less a b =>
    refine ev_to (d := .bl (fitC c (.less a b))) ?_ rfl rfl
    rw [seq_nx (δ' := startD 2 [codeD c, clD (.less a b)]) (by rw [if_f (w0 rfl s_lr)]; rfl), seq_nx (δ' := startD 2 [codeD c, clD (.less a b)]) (by rw [if_f (w0 rfl s_ls)]; rfl), seq_nx (δ' := startD 2 [codeD c, clD (.less a b)]) (by rw [if_f (w0 rfl s_la)]; rfl)]
    exact ev_ret (o_eq (o_eq (ev_v rfl) (o_eq (ev_v rfl) ev_k ixT1) (ixD (by have := hk.1; omega))) (o_eq (ev_v rfl) (o_eq (ev_v rfl) ev_k ixT2) (ixD (by have := hk.2.1; omega))) (lt_ev _ _))
theorem law_has_eq {W : List (List Int)} (h : Wh W) {c : List Int} (hc : c ∈ allC W) {k : Cl} (hk : GdC W k) : f_law_has [codeD c, clD k] = pure (.bl (fitC c k)) := by
  have hl := (allC_in W c hc).1
  have hf := h.few
  unfold f_law_has
  cases k with
  | right d n =>
    have hd := (allC_in W d hk.1).1
    have r := alike_eq (a := c) (b := d) (by omega) (by omega)
    refine ev_to (d := .bl (fitC c (.right d n))) (seq_rt ?_) rfl rfl
    rw [if_t (w0 rfl (decide_eq_true rfl))]
    refine ev_ret ((o_eq (call_eq (es_cons (ev_w rfl) (es_cons (o_eq (ev_v rfl) ev_k ixT1) es_nil)) r) (o_eq (ev_v rfl) ev_k ixT2) (eqB_int _ _)).trans ?_)
    unfold fitC eqs
    congr 2
    exact decide_eq_decide.mpr (by omega)
  | sum n =>
    refine ev_to (d := .bl (fitC c (.sum n))) ?_ rfl rfl
    rw [seq_nx (δ' := startD 2 [codeD c, clD (.sum n)]) (by rw [if_f (w0 rfl s_sr)]; rfl)]
    refine seq_rt ?_
    rw [if_t (w0 rfl (decide_eq_true rfl))]
    exact ev_ret (o_eq (f_eq (ev_v rfl) (sumC_ev c)) (o_eq (ev_v rfl) ev_k ixT1) (eqB_int _ _))
  | among w fs =>
    refine ev_to (d := .bl (fitC c (.among w fs))) ?_ rfl rfl
    rw [seq_nx (δ' := startD 2 [codeD c, clD (.among w fs)]) (by rw [if_f (w0 rfl s_ar)]; rfl), seq_nx (δ' := startD 2 [codeD c, clD (.among w fs)]) (by rw [if_f (w0 rfl s_as)]; rfl)]
    refine ev_ret ?_
    rw [ife_t (w0 rfl (decide_eq_true rfl))]
    exact o_eq (o_eq (ev_v rfl) (o_eq (ev_v rfl) ev_k ixT1) (ixD (by have := hk.1; omega))) (o_eq (ev_v rfl) ev_k ixT2) in_int
  | less a b =>
    refine ev_to (d := .bl (fitC c (.less a b))) ?_ rfl rfl
    rw [seq_nx (δ' := startD 2 [codeD c, clD (.less a b)]) (by rw [if_f (w0 rfl s_lr)]; rfl), seq_nx (δ' := startD 2 [codeD c, clD (.less a b)]) (by rw [if_f (w0 rfl s_ls)]; rfl)]
    refine ev_ret ?_
    rw [ife_f (w0 rfl s_la)]
    exact o_eq (o_eq (ev_v rfl) (o_eq (ev_v rfl) ev_k ixT1) (ixD (by have := hk.1; omega))) (o_eq (ev_v rfl) (o_eq (ev_v rfl) ev_k ixT2) (ixD (by have := hk.2.1; omega))) (lt_ev _ _)
end K78

/-! ## MOK78 -/
set_option autoImplicit false
set_option linter.all false
set_option maxRecDepth 100000
set_option maxHeartbeats 2000000
namespace K78
open PySem DL
local macro_rules | `(tactic| wtm_at "evt") => `(tactic| first | rfl | assumption | (simp only [*]; done) | (simp [*, isTy]; done) | (simp; done) | decide | omega)
local macro_rules | `(tactic| wtm_at "evb") => `(tactic| first | omega | (simp only [List.length_map, List.length_append, List.length_cons, List.length_nil, List.length_zip, List.length_zipIdx, List.length_range, List.length_reverse]; omega) | (simp; omega) | decide)
local macro_rules | `(tactic| wtm_at "evc") => `(tactic| ((with_reducible show _ = _); assumption))
local macro_rules | `(tactic| wtm_at "ev1") => `(tactic| first
  | with_reducible exact ev_k
  | ((with_reducible apply  ev_w); exact rfl)
  | ((with_reducible apply  ev_v); exact rfl)
  | ((with_reducible apply  ev_vo); exact rfl)
  | with_reducible exact es_nil
  | with_reducible exact ev_no
  | with_reducible exact ev_skip
  | with_reducible exact seqK_rt
  | with_reducible apply  es_cons
  | with_reducible apply  f_eq
  | with_reducible apply  o_eq
  | with_reducible apply  ev_lst
  | with_reducible apply  tup_eq
  | with_reducible apply  ev_and
  | with_reducible apply  ev_or
  | with_reducible apply  ev_ife
  | with_reducible apply  call_eq
  | with_reducible apply  ev_callK
  | with_reducible apply  ev_callD
  | with_reducible apply  ev_callDK
  | with_reducible apply  hI_eq
  | with_reducible apply  hU_eq
  | with_reducible apply  ev_cutN
  | with_reducible apply  ev_at
  | with_reducible apply  ev_lcA
  | with_reducible apply  ev_lc
  | with_reducible apply  sx_l
  | with_reducible apply  sx_vw
  | with_reducible apply  sx_enum
  | with_reducible apply  sx_zip
  | with_reducible apply  sx_zipS
  | with_reducible apply  sx_r
  | with_reducible apply  sx_r2
  | with_reducible apply  ev_seq
  | with_reducible apply  seqK_nx
  | with_reducible apply  ev_if
  | with_reducible apply  ev_ret
  | with_reducible apply  ev_do
  | with_reducible apply  ev_asg
  | with_reducible apply  ev_par
  | with_reducible apply  ev_thr
  | with_reducible apply  ev_dox_thr
  | ((with_reducible apply  ifK_t); (wtm_at "evt"))
  | ((with_reducible apply  ifK_f); (wtm_at "evt"))
  | exact eqB_int _ _ | exact neB_int _ _ | exact eqB_bl _ _ | exact neB_bl _ _ | exact eqB_str _ _ | exact neB_str _ _
  | exact lt_ev _ _ | exact le_ev _ _ | exact gt_ev _ _ | exact ge_ev _ _ | exact not_ev _ | exact neg_ev _ | exact addI_ev _ _ | exact subI_ev _ _
  | ((with_reducible show Row _ _ _); first | exact row_code _ | exact row_codes _ | exact row_map _ _ | exact row_bcode _ | exact row_bcodes _ | exact row_id _)
  | ((with_reducible show _ = List.map _ _); first | exact map_mapR _ _ | exact map_idR _)
  | ((with_reducible show dIsI _ _ = _); exact rfl) | ((with_reducible show dIsI2 _ _ _ = _); exact rfl) | ((with_reducible show dIsN _ = _); exact rfl) | ((with_reducible show dNotN _ = _); exact rfl)
  | ((with_reducible show dUw _ = _); first | exact uw_bcodes _ | exact uw_bcode _ | exact rfl)
  | exact hU_len _
  | ((with_reducible show D.imm _ = _); exact rfl)
  | exact allB_ev _ _ | exact anyB_ev _ _ | exact sumI_ev _ _ | exact sumC_ev _
  | exact len_ev _ | exact lenT_ev _ | exact cut_ev _ _ _ | exact list_ev _ | exact tuple_ev _ | exact rev_ev _
  | apply  addL_ev
  | wtm_at "evc"
  | ((with_reducible show _ = some _); exact rfl)
  | ((with_reducible show _ ≤ _); wtm_at "evb")
  | ((with_reducible show _ < _); wtm_at "evb")
  | ((with_reducible show (_ : Nat) = _); wtm_at "evb")
  | ((with_reducible show ∀ _, _ ∈ _ → _); intro _ _)
  | ((with_reducible show (_ : Bool) = _ → _); intro _))
local macro_rules | `(tactic| wtm_at "ev") => `(tactic| repeat' (wtm_at "ev1"))
/-! ### what the clues leave -/
theorem hU_all {α : Type} (xs : List α) (p : α → Bool) : hU dAll (.lst (xs.map fun x => D.bl (p x))) = pure (.bl (xs.all p)) := by
  refine hU_eq (d := .bl (xs.all p)) ?_ rfl
  rw [un_nb _ (show (D.lst (xs.map fun x => D.bl (p x))).nb = true by
    have := nbs_map (f := fun x => D.bl (p x)) (fun _ => rfl) xs
    simpa [D.nb] using this)]
  exact allB_ev xs p
def left (W : List (List Int)) (ks : List Cl) : List (List Int) := (allC W).filter fun c => ks.all (fitC c)
theorem left_in {W : List (List Int)} {ks : List Cl} {c : List Int} (h : c ∈ left W ks) : c ∈ allC W := (List.mem_filter.mp h).1
theorem left_len {W : List (List Int)} (h : Wh W) (ks : List Cl) : (left W ks).length ≤ 300 := Nat.le_trans (List.length_filter_le _ _) (by rw [allC_len]; exact h.sz)
theorem left_by_gen {W : List (List Int)} (h : Wh W) {ks : List Cl} (hk : ∀ k ∈ ks, GdC W k) (hl : ks.length ≤ 1000) {w d : D} {em : List Int → D} {ek : Cl → D} (hrow : rowOf w = pure (W.map em)) (hem : ∀ c : List Int, rowOf (em c) = pure (c.map .int)) (hd : Row d ek ks) (hu : ∀ k, (ek k).un = clD k) :
    f_left_by_clues [w, d] = pure (codesD (left W ks)) := by
  have ac := all_codes_gen h hrow hem
  have sz : (allC W).length ≤ 1000000 := by rw [allC_len]; have := h.sz; omega
  have fits : ∀ c ∈ allC W, ∀ k ∈ ks, f_does_fit_clue (uns [codeD c, ek k]) = pure (.bl (fitC c k)) := fun c hc k hk' => by
    rw [show uns [codeD c, ek k] = [codeD c, clD k] by rw [uns, uns, un_code, hu]; rfl]
    exact does_fit_eq h hc (hk k hk')
  unfold f_left_by_clues
  refine ev_to (d := codesD (left W ks)) (ev_ret ?_) rfl rfl
  refine (ev_lc (emb := codeD) (xs := allC W) (γ := fun c => [.val w, .val d, .val (codeD c), .no]) (p := fun c => ks.all (fitC c)) (f := codeD) (sx_l (call_eq (es_cons (ev_w rfl) es_nil) ac) (row_codes _)) (fun c _ => rfl) (fun c hc => ?_) (fun c hc _ => ev_w rfl) sz).trans rfl
  refine f_eq (x := .bl (ks.all (fitC c))) (f_eq (x := .lst (ks.map fun k => .bl (fitC c k))) (ev_lcA (emb := ek) (xs := ks) (γ := fun k => [.val w, .val d, .val (codeD c), .val (ek k)]) (f := fun k => .bl (fitC c k)) (sx_l (ev_w rfl) hd) (fun k _ => rfl) (fun k hk' => ev_callD (es_cons (ev_w rfl) (es_cons (ev_w rfl) es_nil)) (fits c hc k hk') rfl) (by omega)) (hU_all _ _)) rfl
def cluesD (ks : List Cl) : D := .lst (ks.map clD)
theorem nb_clues (ks : List Cl) : (cluesD ks).nb = true := by
  have := nbs_map (f := clD) nb_cl ks
  simpa [cluesD, D.nb] using this
theorem un_clues (ks : List Cl) : (cluesD ks).un = cluesD ks := un_nb _ (nb_clues ks)
theorem un_bclues (ks : List Cl) : (D.bor (cluesD ks)).un = cluesD ks := un_clues ks
theorem left_by {W : List (List Int)} (h : Wh W) {ks : List Cl} (hk : ∀ k ∈ ks, GdC W k) (hl : ks.length ≤ 1000) : f_left_by_clues [codesD W, cluesD ks] = pure (codesD (left W ks)) :=
  left_by_gen h hk hl (em := codeD) (ek := clD) rfl (fun _ => rfl) (row_map _ _) un_cl
theorem row_bclues (ks : List Cl) : Row (.bor (cluesD ks)) (fun k => .bor (clD k)) ks := by
  show pure ((ks.map clD).map wrapB) = _
  rw [List.map_map]
  congr 2
  funext k
  cases k <;> rfl
theorem left_byB {W : List (List Int)} (h : Wh W) {ks : List Cl} (hk : ∀ k ∈ ks, GdC W k) (hl : ks.length ≤ 1000) : f_left_by_clues [.bor (codesD W), .bor (cluesD ks)] = pure (codesD (left W ks)) :=
  left_by_gen h hk hl (em := fun c => .bor (codeD c)) (ek := fun k => .bor (clD k)) (row_bcodes W) (fun c => row_bcode c) (row_bclues ks) (fun k => un_cl k)
theorem law_left_eq {W : List (List Int)} (h : Wh W) {ks : List Cl} (hk : ∀ k ∈ ks, GdC W k) (hl : ks.length ≤ 1000) (hcl : ∀ k ∈ ks, (clD k).cl 59 = true) : f_law_left [codesD W, cluesD ks] = pure (codesD (left W ks)) := by
  have ac := law_codes_eq h
  have sz : (allC W).length ≤ 1000000 := by rw [allC_len]; have := h.sz; omega
  unfold f_law_left
  refine ev_to (d := codesD (left W ks)) (ev_ret ?_) rfl rfl
  refine (ev_lc (emb := codeD) (xs := allC W) (γ := fun c => [.val (codesD W), .val (cluesD ks), .val (codeD c), .no]) (p := fun c => ks.all (fitC c)) (f := codeD) (sx_l (call_eq (es_cons (ev_w rfl) es_nil) ac) (row_codes _)) (fun c _ => rfl) (fun c hc => ?_) (fun c hc _ => ev_w rfl) sz).trans rfl
  refine (o_eq (x := .lst ((ks.filter fun k => !fitC c k).map clD)) (y := .lst []) (ev_lc (emb := clD) (xs := ks) (γ := fun k => [.val (codesD W), .val (cluesD ks), .val (codeD c), .val (clD k)]) (p := fun k => !fitC c k) (f := clD) (sx_l (ev_w rfl) (row_map _ _)) (fun k _ => rfl) (fun k hk' => f_eq (call_eq (es_cons (ev_w rfl) (es_cons (ev_w rfl) es_nil)) (law_has_eq h hc (hk k hk'))) (not_ev _)) (fun k _ _ => ev_w rfl) (by omega)) (ev_lst es_nil (by simp)) (eqNil_ev ?_)).trans ?_
  · rw [List.all_map]
    exact List.all_eq_true.mpr fun k hk' => hcl k (List.mem_filter.mp hk').1
  · congr 2
    rw [Bool.eq_iff_iff]
    simp [List.filter_eq_nil_iff]
theorem wheel_of_eq (W : List (List Int)) (n : Nat) : f_is_wheel_of [codesD W, .int n] = pure (.bl (decide (n < W.length))) := by
  have c1 := is_count_int (n : Int)
  unfold f_is_wheel_of
  refine ev_to (d := .bl (decide (0 ≤ (n : Int)) && decide ((n : Int) < (W.length : Nat)))) (ev_ret (ev_and (call_eq (es_cons (ev_w rfl) es_nil) c1) fun _ => ?_)) rfl ?_
  · refine (o_eq (ev_v rfl) (f_eq (ev_v rfl) (len_ev _)) (lt_ev _ _)).trans ?_
    rw [List.length_map]
  · congr 1
    rw [decide_eq_true (by omega), Bool.true_and]
    exact decide_eq_decide.mpr (by omega)
theorem cl_cl {W : List (List Int)} (h : Wh W) {k : Cl} (hk : GdC W k) : (clD k).cl 59 = true := by
  have sm : ∀ n : Nat, n ≤ 1000 → (D.int n).cl 58 = true := fun n hn => by
    have q := small_of (i := (n : Int)) (by omega)
    unfold smallI at q
    simpa [D.cl] using q
  have st : ∀ s : String, (D.str s).cl 58 = true := fun s => ok_str s
  have all : ∀ xs : List D, (xs.all (D.cl 58)) = true → (D.tup xs).cl 59 = true := fun xs hx => hx
  have hf := h.few
  cases k with
  | right d n =>
    refine all _ ?_
    have := cl_code (n := 57) (c := d) fun i hi => digit_small (h.digits hk.1 i hi)
    simp only [List.all_cons, List.all_nil, Bool.and_true]
    rw [st, this, sm n (by have := hk.2; omega)]
    rfl
  | sum n =>
    refine all _ ?_
    simp only [List.all_cons, List.all_nil, Bool.and_true]
    rw [st, sm n (by have : n ≤ 100 := hk; omega)]
    rfl
  | among w fs =>
    refine all _ ?_
    have := cl_code (n := 57) (c := fs) fun i hi => digit_small (hk.2.1.2.1 i hi)
    simp only [List.all_cons, List.all_nil, Bool.and_true]
    rw [st, this, sm w (by have := hk.1; omega)]
    rfl
  | less a b =>
    refine all _ ?_
    simp only [List.all_cons, List.all_nil, Bool.and_true]
    rw [st, sm a (by have := hk.1; omega), sm b (by have := hk.2.1; omega)]
    rfl
end K78

/-! ## MPK78 -/
set_option autoImplicit false
set_option linter.all false
set_option maxRecDepth 100000
set_option maxHeartbeats 2000000
namespace K78
open PySem DL
local macro_rules | `(tactic| wtm_at "evt") => `(tactic| first | rfl | assumption | (simp only [*]; done) | (simp [*, isTy]; done) | (simp; done) | decide | omega)
local macro_rules | `(tactic| wtm_at "evb") => `(tactic| first | omega | (simp only [List.length_map, List.length_append, List.length_cons, List.length_nil, List.length_zip, List.length_zipIdx, List.length_range, List.length_reverse]; omega) | (simp; omega) | decide)
local macro_rules | `(tactic| wtm_at "evc") => `(tactic| ((with_reducible show _ = _); assumption))
local macro_rules | `(tactic| wtm_at "ev1") => `(tactic| first
  | with_reducible exact ev_k
  | ((with_reducible apply  ev_w); exact rfl)
  | ((with_reducible apply  ev_v); exact rfl)
  | ((with_reducible apply  ev_vo); exact rfl)
  | with_reducible exact es_nil
  | with_reducible exact ev_no
  | with_reducible exact ev_skip
  | with_reducible exact seqK_rt
  | with_reducible apply  es_cons
  | with_reducible apply  f_eq
  | with_reducible apply  o_eq
  | with_reducible apply  ev_lst
  | with_reducible apply  tup_eq
  | with_reducible apply  ev_and
  | with_reducible apply  ev_or
  | with_reducible apply  ev_ife
  | with_reducible apply  call_eq
  | with_reducible apply  ev_callK
  | with_reducible apply  ev_callD
  | with_reducible apply  ev_callDK
  | with_reducible apply  hI_eq
  | with_reducible apply  hU_eq
  | with_reducible apply  ev_cutN
  | with_reducible apply  ev_at
  | with_reducible apply  ev_lcA
  | with_reducible apply  ev_lc
  | with_reducible apply  sx_l
  | with_reducible apply  sx_vw
  | with_reducible apply  sx_enum
  | with_reducible apply  sx_zip
  | with_reducible apply  sx_zipS
  | with_reducible apply  sx_r
  | with_reducible apply  sx_r2
  | with_reducible apply  ev_seq
  | with_reducible apply  seqK_nx
  | with_reducible apply  ev_if
  | with_reducible apply  ev_ret
  | with_reducible apply  ev_do
  | with_reducible apply  ev_asg
  | with_reducible apply  ev_par
  | with_reducible apply  ev_thr
  | with_reducible apply  ev_dox_thr
  | ((with_reducible apply  ifK_t); (wtm_at "evt"))
  | ((with_reducible apply  ifK_f); (wtm_at "evt"))
  | exact eqB_int _ _ | exact neB_int _ _ | exact eqB_bl _ _ | exact neB_bl _ _ | exact eqB_str _ _ | exact neB_str _ _
  | exact lt_ev _ _ | exact le_ev _ _ | exact gt_ev _ _ | exact ge_ev _ _ | exact not_ev _ | exact neg_ev _ | exact addI_ev _ _ | exact subI_ev _ _
  | ((with_reducible show Row _ _ _); first | exact row_code _ | exact row_codes _ | exact row_map _ _ | exact row_bcode _ | exact row_bcodes _ | exact row_id _)
  | ((with_reducible show _ = List.map _ _); first | exact map_mapR _ _ | exact map_idR _)
  | ((with_reducible show dIsI _ _ = _); exact rfl) | ((with_reducible show dIsI2 _ _ _ = _); exact rfl) | ((with_reducible show dIsN _ = _); exact rfl) | ((with_reducible show dNotN _ = _); exact rfl)
  | ((with_reducible show dUw _ = _); first | exact uw_bcodes _ | exact uw_bcode _ | exact rfl)
  | exact hU_len _
  | ((with_reducible show D.imm _ = _); exact rfl)
  | exact allB_ev _ _ | exact anyB_ev _ _ | exact sumI_ev _ _ | exact sumC_ev _
  | exact len_ev _ | exact lenT_ev _ | exact cut_ev _ _ _ | exact list_ev _ | exact tuple_ev _ | exact rev_ev _
  | apply  addL_ev
  | wtm_at "evc"
  | ((with_reducible show _ = some _); exact rfl)
  | ((with_reducible show _ ≤ _); wtm_at "evb")
  | ((with_reducible show _ < _); wtm_at "evb")
  | ((with_reducible show (_ : Nat) = _); wtm_at "evb")
  | ((with_reducible show ∀ _, _ ∈ _ → _); intro _ _)
  | ((with_reducible show (_ : Bool) = _ → _); intro _))
local macro_rules | `(tactic| wtm_at "ev") => `(tactic| repeat' (wtm_at "ev1"))
/-! ### which values are clues -/
/-- plain values, as the law tries them -/
structure Nice (d : D) : Prop where
  ty : Ty d
  cl : d.cl 59 = true
  it : ∀ xs, d = .lst xs → (∀ e ∈ xs, Ty e ∧ e.cl 59 = true) ∧ xs.length ≤ 50
theorem not_lst {d : D} (h : Ty d) : (∃ xs, d = .lst xs) ∨ isTy d "list" = false := by
  cases d with
  | lst xs => exact .inl ⟨xs, rfl⟩
  | _ => exact .inr rfl
theorem fit_ok {W : List (List Int)} (h : Wh W) {d : D} (hn : Nice d) : ∃ b, f_code_fits [codesD W, d] = pure (.bl b) ∧ f_law_is_code [codesD W, d] = pure (.bl b) := by
  rcases not_lst hn.ty with ⟨xs, rfl⟩ | hi
  · obtain ⟨h1, h2⟩ := hn.it xs rfl
    exact ⟨_, fits_gen h (fun e he => (h1 e he).1) (by omega), law_code_gen h (fun e he => (h1 e he).1) (fun e he => (h1 e he).2) (by omega)⟩
  · obtain ⟨t, ht⟩ := hn.ty
    exact ⟨false, fits_no ht hi, law_code_no ht hi⟩
theorem adj_pair : ∀ (c : List Int), (∀ k (h : k + 1 < c.length), c[k]'(by omega) < c[k + 1]) → c.Pairwise (· < ·)
  | [], _ => List.Pairwise.nil
  | [x], _ => by simp
  | x :: y :: r, h => by
    have ih := adj_pair (y :: r) fun k hk => h (k + 1) (by simpa using hk)
    have xy : x < y := h 0 (by simp)
    refine List.pairwise_cons.mpr ⟨fun z hz => ?_, ih⟩
    rcases List.mem_cons.mp hz with rfl | hz
    · exact xy
    · exact Int.lt_trans xy ((List.pairwise_cons.mp ih).1 z hz)
theorem ascends_no {c : List Int} (h : ¬ c.Pairwise (· < ·)) (hl : c.length ≤ 1000) : f_ascends [codeD c] = pure (.bl false) := by
  have ln : eF dLen (eV 0) (startD 2 [codeD c]) = pure (.int (c.length : Nat)) := f_eq (ev_v rfl) ((len_ev _).trans (by rw [List.length_map]))
  have src := range1 (n := c.length) (by omega) ln
  have k1 : ∀ k ∈ List.range (c.length - 1), dIx (codeD c) (.int (((1 + k : Nat) : Int) - 1)) = pure (.int (c.getD k 0)) := fun k hk => by
    rw [List.mem_range] at hk
    rw [show (((1 + k : Nat) : Int) - 1) = (k : Nat) by omega]
    exact ixD (by omega)
  have k2 : ∀ k ∈ List.range (c.length - 1), dIx (codeD c) (.int ((1 + k : Nat) : Int)) = pure (.int (c.getD (1 + k) 0)) := fun k hk => by
    rw [List.mem_range] at hk
    exact ixD (by omega)
  unfold f_ascends
  refine ev_to (d := .bl (decide (((List.range (c.length - 1)).filter fun k => decide (c.getD (1 + k) 0 ≤ c.getD k 0)).map (fun k => D.int ((1 + k : Nat) : Int)) = []))) (ev_ret (o_eq (y := .lst []) (ev_lc (emb := fun k => D.int ((1 + k : Nat) : Int)) (xs := List.range (c.length - 1)) (γ := fun k => [.val (codeD c), .val (.int ((1 + k : Nat) : Int))]) (p := fun k => decide (c.getD (1 + k) 0 ≤ c.getD k 0)) (f := fun k => .int ((1 + k : Nat) : Int)) src (fun k _ => rfl)
    (fun k hk => o_eq (o_eq (ev_v rfl) (o_eq (ev_v rfl) ev_k (subI_ev _ _)) (k1 k hk)) (o_eq (ev_v rfl) (ev_v rfl) (k2 k hk)) (ge_ev _ _)) (fun k hk _ => ev_w rfl) (by simp; omega)) (ev_lst es_nil (by simp)) (eqNil_ev ?_))) rfl ?_
  · rw [List.all_map]
    refine List.all_eq_true.mpr fun k hk => ?_
    have := List.mem_range.mp (List.mem_filter.mp hk).1
    have q := small_of (i := ((1 + k : Nat) : Int)) (by omega)
    unfold smallI at q
    show decide _ = true
    exact decide_eq_true q
  · congr 1
    rw [decide_eq_false_iff_not, List.map_eq_nil_iff, List.filter_eq_nil_iff]
    intro z
    refine h (adj_pair c fun k hk => ?_)
    have := z k (by rw [List.mem_range]; omega)
    simp only [decide_eq_true_eq, Int.not_le] at this
    rw [getD_lt (by omega), getD_lt (by omega)] at this
    simpa [Nat.add_comm] using this
def digB (d : D) : Bool := match d with
  | .int i => decide (0 ≤ i) && decide (i < 10)
  | _ => false
theorem dig_all : ∀ {xs : List D}, (xs.all digB) = true → ∃ c : List Int, xs = c.map .int ∧ ∀ i ∈ c, 0 ≤ i ∧ i < 10
  | [], _ => ⟨[], rfl, fun _ z => by cases z⟩
  | x :: xs, h => by
    rw [List.all_cons, Bool.and_eq_true] at h
    obtain ⟨c, rfl, hc⟩ := dig_all h.2
    cases x with
    | int i =>
      have q : 0 ≤ i ∧ i < 10 := by
        have := h.1
        simpa [digB] using this
      exact ⟨i :: c, rfl, fun j hj => by rcases List.mem_cons.mp hj with rfl | hj; exact q; exact hc j hj⟩
    | _ => exact absurd h.1 (by simp [digB])
end K78

/-! ## MQK78 -/
set_option autoImplicit false
set_option linter.all false
set_option maxRecDepth 100000
set_option maxHeartbeats 2000000
namespace K78
open PySem DL
local macro_rules | `(tactic| wtm_at "evt") => `(tactic| first | rfl | assumption | (simp only [*]; done) | (simp [*, isTy]; done) | (simp; done) | decide | omega)
local macro_rules | `(tactic| wtm_at "evb") => `(tactic| first | omega | (simp only [List.length_map, List.length_append, List.length_cons, List.length_nil, List.length_zip, List.length_zipIdx, List.length_range, List.length_reverse]; omega) | (simp; omega) | decide)
local macro_rules | `(tactic| wtm_at "evc") => `(tactic| ((with_reducible show _ = _); assumption))
local macro_rules | `(tactic| wtm_at "ev1") => `(tactic| first
  | with_reducible exact ev_k
  | ((with_reducible apply  ev_w); exact rfl)
  | ((with_reducible apply  ev_v); exact rfl)
  | ((with_reducible apply  ev_vo); exact rfl)
  | with_reducible exact es_nil
  | with_reducible exact ev_no
  | with_reducible exact ev_skip
  | with_reducible exact seqK_rt
  | with_reducible apply  es_cons
  | with_reducible apply  f_eq
  | with_reducible apply  o_eq
  | with_reducible apply  ev_lst
  | with_reducible apply  tup_eq
  | with_reducible apply  ev_and
  | with_reducible apply  ev_or
  | with_reducible apply  ev_ife
  | with_reducible apply  call_eq
  | with_reducible apply  ev_callK
  | with_reducible apply  ev_callD
  | with_reducible apply  ev_callDK
  | with_reducible apply  hI_eq
  | with_reducible apply  hU_eq
  | with_reducible apply  ev_cutN
  | with_reducible apply  ev_at
  | with_reducible apply  ev_lcA
  | with_reducible apply  ev_lc
  | with_reducible apply  sx_l
  | with_reducible apply  sx_vw
  | with_reducible apply  sx_enum
  | with_reducible apply  sx_zip
  | with_reducible apply  sx_zipS
  | with_reducible apply  sx_r
  | with_reducible apply  sx_r2
  | with_reducible apply  ev_seq
  | with_reducible apply  seqK_nx
  | with_reducible apply  ev_if
  | with_reducible apply  ev_ret
  | with_reducible apply  ev_do
  | with_reducible apply  ev_asg
  | with_reducible apply  ev_par
  | with_reducible apply  ev_thr
  | with_reducible apply  ev_dox_thr
  | ((with_reducible apply  ifK_t); (wtm_at "evt"))
  | ((with_reducible apply  ifK_f); (wtm_at "evt"))
  | exact eqB_int _ _ | exact neB_int _ _ | exact eqB_bl _ _ | exact neB_bl _ _ | exact eqB_str _ _ | exact neB_str _ _
  | exact lt_ev _ _ | exact le_ev _ _ | exact gt_ev _ _ | exact ge_ev _ _ | exact not_ev _ | exact neg_ev _ | exact addI_ev _ _ | exact subI_ev _ _
  | ((with_reducible show Row _ _ _); first | exact row_code _ | exact row_codes _ | exact row_map _ _ | exact row_bcode _ | exact row_bcodes _ | exact row_id _)
  | ((with_reducible show _ = List.map _ _); first | exact map_mapR _ _ | exact map_idR _)
  | ((with_reducible show dIsI _ _ = _); exact rfl) | ((with_reducible show dIsI2 _ _ _ = _); exact rfl) | ((with_reducible show dIsN _ = _); exact rfl) | ((with_reducible show dNotN _ = _); exact rfl)
  | ((with_reducible show dUw _ = _); first | exact uw_bcodes _ | exact uw_bcode _ | exact rfl)
  | exact hU_len _
  | ((with_reducible show D.imm _ = _); exact rfl)
  | exact allB_ev _ _ | exact anyB_ev _ _ | exact sumI_ev _ _ | exact sumC_ev _
  | exact len_ev _ | exact lenT_ev _ | exact cut_ev _ _ _ | exact list_ev _ | exact tuple_ev _ | exact rev_ev _
  | apply  addL_ev
  | wtm_at "evc"
  | ((with_reducible show _ = some _); exact rfl)
  | ((with_reducible show _ ≤ _); wtm_at "evb")
  | ((with_reducible show _ < _); wtm_at "evb")
  | ((with_reducible show (_ : Nat) = _); wtm_at "evb")
  | ((with_reducible show ∀ _, _ ∈ _ → _); intro _ _)
  | ((with_reducible show (_ : Bool) = _ → _); intro _))
local macro_rules | `(tactic| wtm_at "ev") => `(tactic| repeat' (wtm_at "ev1"))
theorem eqNilT_ev {xs : List D} (h : (D.tup xs).cl 59 = true) : dEq (.tup xs) (.tup []) = pure (.bl (decide (xs = []))) := by
  have h60 : (D.tup xs).cl 60 = true := by
    have up : ∀ d : D, d.cl 58 = true → d.cl 59 = true := fun d hd => cl_up 58 d hd
    have q : xs.all (D.cl 58) = true := h
    show xs.all (D.cl 59) = true
    exact List.all_eq_true.mpr fun d hd => up d (List.all_eq_true.mp q d hd)
  show liftB (if (D.tup xs).cl 60 && (D.tup []).cl 60 then some (PyData.eqv (D.tup xs).py (D.tup []).py) else none) = _
  rw [h60]
  cases xs with
  | nil => rfl
  | cons x xs => rfl
def wheelB (W : List (List Int)) (d : D) : Bool := match d with
  | .int i => decide (0 ≤ i) && decide (i < (W.length : Nat))
  | _ => false
theorem wheel_of_d {W : List (List Int)} {d : D} (ht : Ty d) : f_is_wheel_of [codesD W, d] = pure (.bl (wheelB W d)) := by
  have ic := is_count_d ht
  unfold f_is_wheel_of
  refine fn_rt rfl (ev_ret ?_)
  cases hb : cntB d with
  | false =>
    rw [hb] at ic
    rw [and_f (call_eq (es_cons (ev_w rfl) es_nil) ic)]
    cases d with
    | int i =>
      have q : decide (0 ≤ i) = false := hb
      rw [show wheelB W (.int i) = false by show (decide (0 ≤ i) && _) = false; rw [q]; rfl]
    | _ => rfl
  | true =>
    rw [hb] at ic
    rw [and_t (call_eq (es_cons (ev_w rfl) es_nil) ic)]
    cases d with
    | int i =>
      have q : decide (0 ≤ i) = true := hb
      refine (o_eq (ev_v rfl) (f_eq (ev_v rfl) (len_ev _)) (lt_ev _ _)).trans ?_
      rw [show wheelB W (.int i) = decide (i < (W.length : Nat)) by show (decide (0 ≤ i) && _) = _; rw [q]; rfl, List.length_map]
    | _ => cases hb
end K78

/-! ## MRK78 -/
set_option autoImplicit false
set_option linter.all false
set_option maxRecDepth 100000
set_option maxHeartbeats 2000000
namespace K78
open PySem DL
local macro_rules | `(tactic| wtm_at "evt") => `(tactic| first | rfl | assumption | (simp only [*]; done) | (simp [*, isTy]; done) | (simp; done) | decide | omega)
local macro_rules | `(tactic| wtm_at "evb") => `(tactic| first | omega | (simp only [List.length_map, List.length_append, List.length_cons, List.length_nil, List.length_zip, List.length_zipIdx, List.length_range, List.length_reverse]; omega) | (simp; omega) | decide)
local macro_rules | `(tactic| wtm_at "evc") => `(tactic| ((with_reducible show _ = _); assumption))
local macro_rules | `(tactic| wtm_at "ev1") => `(tactic| first
  | with_reducible exact ev_k
  | ((with_reducible apply  ev_w); exact rfl)
  | ((with_reducible apply  ev_v); exact rfl)
  | ((with_reducible apply  ev_vo); exact rfl)
  | with_reducible exact es_nil
  | with_reducible exact ev_no
  | with_reducible exact ev_skip
  | with_reducible exact seqK_rt
  | with_reducible apply  es_cons
  | with_reducible apply  f_eq
  | with_reducible apply  o_eq
  | with_reducible apply  ev_lst
  | with_reducible apply  tup_eq
  | with_reducible apply  ev_and
  | with_reducible apply  ev_or
  | with_reducible apply  ev_ife
  | with_reducible apply  call_eq
  | with_reducible apply  ev_callK
  | with_reducible apply  ev_callD
  | with_reducible apply  ev_callDK
  | with_reducible apply  hI_eq
  | with_reducible apply  hU_eq
  | with_reducible apply  ev_cutN
  | with_reducible apply  ev_at
  | with_reducible apply  ev_lcA
  | with_reducible apply  ev_lc
  | with_reducible apply  sx_l
  | with_reducible apply  sx_vw
  | with_reducible apply  sx_enum
  | with_reducible apply  sx_zip
  | with_reducible apply  sx_zipS
  | with_reducible apply  sx_r
  | with_reducible apply  sx_r2
  | with_reducible apply  ev_seq
  | with_reducible apply  seqK_nx
  | with_reducible apply  ev_if
  | with_reducible apply  ev_ret
  | with_reducible apply  ev_do
  | with_reducible apply  ev_asg
  | with_reducible apply  ev_par
  | with_reducible apply  ev_thr
  | with_reducible apply  ev_dox_thr
  | ((with_reducible apply  ifK_t); (wtm_at "evt"))
  | ((with_reducible apply  ifK_f); (wtm_at "evt"))
  | exact eqB_int _ _ | exact neB_int _ _ | exact eqB_bl _ _ | exact neB_bl _ _ | exact eqB_str _ _ | exact neB_str _ _
  | exact lt_ev _ _ | exact le_ev _ _ | exact gt_ev _ _ | exact ge_ev _ _ | exact not_ev _ | exact neg_ev _ | exact addI_ev _ _ | exact subI_ev _ _
  | ((with_reducible show Row _ _ _); first | exact row_code _ | exact row_codes _ | exact row_map _ _ | exact row_bcode _ | exact row_bcodes _ | exact row_id _)
  | ((with_reducible show _ = List.map _ _); first | exact map_mapR _ _ | exact map_idR _)
  | ((with_reducible show dIsI _ _ = _); exact rfl) | ((with_reducible show dIsI2 _ _ _ = _); exact rfl) | ((with_reducible show dIsN _ = _); exact rfl) | ((with_reducible show dNotN _ = _); exact rfl)
  | ((with_reducible show dUw _ = _); first | exact uw_bcodes _ | exact uw_bcode _ | exact rfl)
  | exact hU_len _
  | ((with_reducible show D.imm _ = _); exact rfl)
  | exact allB_ev _ _ | exact anyB_ev _ _ | exact sumI_ev _ _ | exact sumC_ev _
  | exact len_ev _ | exact lenT_ev _ | exact cut_ev _ _ _ | exact list_ev _ | exact tuple_ev _ | exact rev_ev _
  | apply  addL_ev
  | wtm_at "evc"
  | ((with_reducible show _ = some _); exact rfl)
  | ((with_reducible show _ ≤ _); wtm_at "evb")
  | ((with_reducible show _ < _); wtm_at "evb")
  | ((with_reducible show (_ : Nat) = _); wtm_at "evb")
  | ((with_reducible show ∀ _, _ ∈ _ → _); intro _ _)
  | ((with_reducible show (_ : Bool) = _ → _); intro _))
local macro_rules | `(tactic| wtm_at "ev") => `(tactic| repeat' (wtm_at "ev1"))
/-! ### checks -/
theorem clue_good {W : List (List Int)} (h : Wh W) {k : Cl} (hk : GdC W k) : f_clue_fits [codesD W, clD k] = pure (.bl true) := by
  have hcl := cl_cl h hk
  have hf := h.few
  have t : ∀ (s : Str) (r : List D), (D.tup (.str s :: r)).cl 59 = true → eOr (eF dNot (eF (fun d => dIsI d "tuple") (eV 1))) (eOr (eO dEq (eV 1) (eTup (esN))) (eF dNot (eF (fun d => dIsI d "str") (eO dIx (eV 1) (eK (.int 0)))))) (startD 2 [codesD W, .tup (.str s :: r)]) = pure (.bl false) := fun s r hc => by
    have t1 : eF dNot (eF (fun d => dIsI d "tuple") (eV 1)) (startD 2 [codesD W, .tup (.str s :: r)]) = pure (.bl false) := f_eq (f_eq (ev_v rfl) rfl) rfl
    rw [or_f t1, or_f (o_eq (ev_v rfl) (tup_eq (xs := []) es_nil (by simp)) ((eqNilT_ev hc).trans (by simp)))]
    exact f_eq (x := .bl true) (f_eq (x := .str s) (o_eq (ev_v rfl) ev_k ixT0) rfl) rfl
  unfold f_clue_fits
  cases k with
  | right d n =>
    simp only [clD] at hcl ⊢
    refine fn_rt rfl ?_
    rw [seq_nx (δ' := startD 2 [codesD W, .tup [.str "right", codeD d, .int n]]) (by rw [if_f (t _ _ hcl)]; rfl), seq_nx (δ' := startD 2 [codesD W, .tup [.str "right", codeD d, .int n]]) (by rw [if_f (w0 rfl s_rs)]; rfl), seq_nx (δ' := startD 2 [codesD W, .tup [.str "right", codeD d, .int n]]) (by rw [if_f (o_eq (f_eq (ev_v rfl) (lenT_ev _)) ev_k rfl)]; rfl)]
    refine seq_rt ?_
    rw [if_t (w0 rfl (decide_eq_true rfl))]
    refine ev_ret ?_
    rw [and_t (call_eq (es_cons (ev_w rfl) (es_cons (o_eq (ev_v rfl) ev_k ixT1) es_nil)) (fits_code h hk.1))]
    refine (call_eq (es_cons (o_eq (ev_v rfl) ev_k ixT2) es_nil) (is_count_int (n : Int))).trans ?_
    rw [decide_eq_true (by omega)]
  | sum n =>
    simp only [clD] at hcl ⊢
    refine fn_rt rfl ?_
    rw [seq_nx (δ' := startD 2 [codesD W, .tup [.str "sum", .int n]]) (by rw [if_f (t _ _ hcl)]; rfl)]
    refine seq_rt ?_
    rw [if_t (w0 rfl (decide_eq_true rfl))]
    refine ev_ret ?_
    rw [and_t (o_eq (f_eq (ev_v rfl) (lenT_ev _)) ev_k rfl)]
    refine (call_eq (es_cons (o_eq (ev_v rfl) ev_k ixT1) es_nil) (is_count_int (n : Int))).trans ?_
    rw [decide_eq_true (by omega)]
  | among w fs =>
    simp only [clD] at hcl ⊢
    refine fn_rt rfl ?_
    rw [seq_nx (δ' := startD 2 [codesD W, .tup [.str "among", .int w, codeD fs]]) (by rw [if_f (t _ _ hcl)]; rfl), seq_nx (δ' := startD 2 [codesD W, .tup [.str "among", .int w, codeD fs]]) (by rw [if_f (w0 rfl s_as)]; rfl), seq_nx (δ' := startD 2 [codesD W, .tup [.str "among", .int w, codeD fs]]) (by rw [if_f (o_eq (f_eq (ev_v rfl) (lenT_ev _)) ev_k rfl)]; rfl), seq_nx (δ' := startD 2 [codesD W, .tup [.str "among", .int w, codeD fs]]) (by rw [if_f (w0 rfl s_ar)]; rfl)]
    refine seq_rt ?_
    rw [if_t (w0 rfl (decide_eq_true rfl))]
    refine ev_ret ?_
    rw [and_t (call_eq (es_cons (ev_w rfl) (es_cons (o_eq (ev_v rfl) ev_k ixT1) es_nil)) ((wheel_of_eq W w).trans (by rw [decide_eq_true hk.1])))]
    exact call_eq (es_cons (o_eq (ev_v rfl) ev_k ixT2) es_nil) (are_figures_eq hk.2.1.1 hk.2.1.2.1 hk.2.1.2.2 (by have := hk.2.2; omega))
  | less a b =>
    simp only [clD] at hcl ⊢
    refine fn_rt rfl ?_
    rw [seq_nx (δ' := startD 2 [codesD W, .tup [.str "less", .int a, .int b]]) (by rw [if_f (t _ _ hcl)]; rfl), seq_nx (δ' := startD 2 [codesD W, .tup [.str "less", .int a, .int b]]) (by rw [if_f (w0 rfl s_ls)]; rfl), seq_nx (δ' := startD 2 [codesD W, .tup [.str "less", .int a, .int b]]) (by rw [if_f (o_eq (f_eq (ev_v rfl) (lenT_ev _)) ev_k rfl)]; rfl), seq_nx (δ' := startD 2 [codesD W, .tup [.str "less", .int a, .int b]]) (by rw [if_f (w0 rfl s_lr)]; rfl), seq_nx (δ' := startD 2 [codesD W, .tup [.str "less", .int a, .int b]]) (by rw [if_f (w0 rfl s_la)]; rfl)]
    refine seq_rt ?_
    rw [if_t (w0 rfl (decide_eq_true rfl))]
    refine ev_ret ?_
    rw [and_t (call_eq (es_cons (ev_w rfl) (es_cons (o_eq (ev_v rfl) ev_k ixT1) es_nil)) ((wheel_of_eq W a).trans (by rw [decide_eq_true hk.1]))), and_t (call_eq (es_cons (ev_w rfl) (es_cons (o_eq (ev_v rfl) ev_k ixT2) es_nil)) ((wheel_of_eq W b).trans (by rw [decide_eq_true hk.2.1])))]
    refine (o_eq (o_eq (ev_v rfl) ev_k ixT1) (o_eq (ev_v rfl) ev_k ixT2) (neB_int _ _)).trans ?_
    rw [decide_eq_false (by have := hk.2.2; omega)]
    rfl
/-- all of a list's clues -/
theorem fits_list {W : List (List Int)} {es : List (D × Bool)} (he : ∀ e ∈ es, f_clue_fits [codesD W, e.1] = pure (.bl e.2)) (hl : es.length ≤ 1000) : eOr (eF dNot (eF (fun d => dIsI d "list") (eV 1))) (eF dNot (eF dAll (eLc [2] (gN 2) (xL (eW 1)) (eK (.bl true)) (eCall f_clue_fits (esC (eW 0) (esC (eW 2) (esN))))))) (startD 3 [codesD W, .lst (es.map (·.1))]) = pure (.bl (!es.all (·.2))) := by
  have t1 : eF dNot (eF (fun d => dIsI d "list") (eV 1)) (startD 3 [codesD W, .lst (es.map (·.1))]) = pure (.bl false) := f_eq (f_eq (ev_v rfl) rfl) rfl
  rw [or_f t1]
  exact f_eq (f_eq (ev_lcA (emb := fun e : D × Bool => e.1) (xs := es) (γ := fun e => [.val (codesD W), .val (.lst (es.map (·.1))), .val e.1]) (f := fun e => .bl e.2) (sx_l (ev_w rfl) (row_map _ _)) (fun e _ => rfl) (fun e h => call_eq (es_cons (ev_w rfl) (es_cons (ev_w rfl) es_nil)) (he e h)) (by omega)) (allB_ev _ _)) (not_ev _)
theorem good_list {W : List (List Int)} (h : Wh W) {ks : List Cl} (hk : ∀ k ∈ ks, GdC W k) (hl : ks.length ≤ 1000) : eOr (eF dNot (eF (fun d => dIsI d "list") (eV 1))) (eF dNot (eF dAll (eLc [2] (gN 2) (xL (eW 1)) (eK (.bl true)) (eCall f_clue_fits (esC (eW 0) (esC (eW 2) (esN))))))) (startD 3 [codesD W, cluesD ks]) = pure (.bl false) := by
  have q := fits_list (W := W) (es := ks.map fun k => (clD k, true)) (fun e he => by
    rw [List.mem_map] at he
    obtain ⟨k, hk', rfl⟩ := he
    exact clue_good h (hk k hk')) (by simpa using hl)
  rw [List.map_map] at q
  have a : (ks.map fun k => (clD k, true)).all (·.2) = true := by
    rw [List.all_map]
    exact List.all_eq_true.mpr fun _ _ => rfl
  rw [a] at q
  exact q
theorem check_clues_eq {W : List (List Int)} (h : Wh W) {ks : List Cl} (hk : ∀ k ∈ ks, GdC W k) (hl : ks.length ≤ 1000) : f_check_clues [codesD W, cluesD ks] = pure .non := by
  unfold f_check_clues
  refine fn_nx (δ := startD 3 [codesD W, cluesD ks]) rfl ?_
  rw [seq_nx (do_nx (call_eq (es_cons (ev_w rfl) es_nil) (check_eq h))), if_f (good_list h hk hl)]
  rfl
theorem xclues_good {W : List (List Int)} (h : Wh W) {ks : List Cl} (hk : ∀ k ∈ ks, GdC W k) (hl : ks.length ≤ 1000) : fx_check_clues [codesD W, cluesD ks] = pure .non := by
  unfold fx_check_clues
  refine fn_nx (δ := startD 3 [codesD W, cluesD ks]) rfl ?_
  rw [seq_nx (ev_dox (es_cons (ev_w rfl) es_nil) (xcheck_good h) rfl), if_f (good_list h hk hl)]
  rfl
theorem xclues_bad {W : List (List Int)} (h : Wh W) {es : List (D × Bool)} (he : ∀ e ∈ es, f_clue_fits [codesD W, e.1] = pure (.bl e.2)) (hl : es.length ≤ 1000) (hb : es.all (·.2) = false) : fx_check_clues [codesD W, .lst (es.map (·.1))] = pure (.thr "InvalidClues" (.lst (es.map (·.1)))) := by
  unfold fx_check_clues
  refine fn_rt rfl ?_
  rw [seq_nx (ev_dox (es_cons (ev_w rfl) es_nil) (xcheck_good h) rfl), if_t ((fits_list he hl).trans (by rw [hb]; rfl))]
  exact ev_thr (ev_w rfl)
theorem xclues_no {W : List (List Int)} (h : Wh W) {d : D} {t : String} (ht : d.ty = some t) (hi : isTy d "list" = false) : fx_check_clues [codesD W, d] = pure (.thr "InvalidClues" d) := by
  have l1 : dIsI d "list" = pure (D.bl false) := by
    show (match d.ty with | some _ => (pure (D.bl (isTy d "list")) : M D) | none => stuck) = _
    rw [ht, hi]
  have t1 : eF dNot (eF (fun d => dIsI d "list") (eV 1)) (startD 3 [codesD W, d]) = pure (.bl true) := f_eq (f_eq (ev_v rfl) l1) rfl
  unfold fx_check_clues
  refine fn_rt rfl ?_
  rw [seq_nx (ev_dox (es_cons (ev_w rfl) es_nil) (xcheck_good h) rfl), if_t (or_t t1)]
  exact ev_thr (ev_w rfl)
theorem thr_first {Fs : List D → M D} {fs : Es} {b : S} {δ : Dlt} {ds : List D} {x : Str} {d : D} (h : fs δ = pure ds) (h2 : Fs ds = pure (.thr x d)) : sSeq (sDoX Fs fs) b δ = pure (.rt (.thr x d)) := seq_rt (ev_dox_thr h h2)
theorem xclues_wheels {d e : D} (h : f_are_wheels [d] = pure (.bl false)) : fx_check_clues [d, e] = pure (.thr "InvalidClues" d) := fn_rt rfl (thr_first (es_cons (ev_w rfl) es_nil) (xcheck_bad h))
theorem codes_left_eq {W : List (List Int)} (h : Wh W) {ks : List Cl} (hk : ∀ k ∈ ks, GdC W k) (hl : ks.length ≤ 1000) : f_codes_left [codesD W, cluesD ks] = pure (.int (left W ks).length) := by
  unfold f_codes_left
  refine fn_rt rfl ?_
  rw [seq_nx (do_nx (call_eq (es_cons (ev_w rfl) (es_cons (ev_w rfl) es_nil)) (check_clues_eq h hk hl)))]
  refine ev_ret (f_eq (call_eq (es_cons (ev_w rfl) (es_cons (ev_w rfl) es_nil)) (left_by h hk hl)) ((len_ev _).trans (by rw [List.length_map])))
end K78

/-! ## MVK78 -/
set_option autoImplicit false
set_option linter.all false
set_option maxRecDepth 100000
set_option maxHeartbeats 2000000
namespace K78
open PySem DL
local macro_rules | `(tactic| wtm_at "evt") => `(tactic| first | rfl | assumption | (simp only [*]; done) | (simp [*, isTy]; done) | (simp; done) | decide | omega)
local macro_rules | `(tactic| wtm_at "evb") => `(tactic| first | omega | (simp only [List.length_map, List.length_append, List.length_cons, List.length_nil, List.length_zip, List.length_zipIdx, List.length_range, List.length_reverse]; omega) | (simp; omega) | decide)
local macro_rules | `(tactic| wtm_at "evc") => `(tactic| ((with_reducible show _ = _); assumption))
local macro_rules | `(tactic| wtm_at "ev1") => `(tactic| first
  | with_reducible exact ev_k
  | ((with_reducible apply  ev_w); exact rfl)
  | ((with_reducible apply  ev_v); exact rfl)
  | ((with_reducible apply  ev_vo); exact rfl)
  | with_reducible exact es_nil
  | with_reducible exact ev_no
  | with_reducible exact ev_skip
  | with_reducible exact seqK_rt
  | with_reducible apply  es_cons
  | with_reducible apply  f_eq
  | with_reducible apply  o_eq
  | with_reducible apply  ev_lst
  | with_reducible apply  tup_eq
  | with_reducible apply  ev_and
  | with_reducible apply  ev_or
  | with_reducible apply  ev_ife
  | with_reducible apply  call_eq
  | with_reducible apply  ev_callK
  | with_reducible apply  ev_callD
  | with_reducible apply  ev_callDK
  | with_reducible apply  hI_eq
  | with_reducible apply  hU_eq
  | with_reducible apply  ev_cutN
  | with_reducible apply  ev_at
  | with_reducible apply  ev_lcA
  | with_reducible apply  ev_lc
  | with_reducible apply  sx_l
  | with_reducible apply  sx_vw
  | with_reducible apply  sx_enum
  | with_reducible apply  sx_zip
  | with_reducible apply  sx_zipS
  | with_reducible apply  sx_r
  | with_reducible apply  sx_r2
  | with_reducible apply  ev_seq
  | with_reducible apply  seqK_nx
  | with_reducible apply  ev_if
  | with_reducible apply  ev_ret
  | with_reducible apply  ev_do
  | with_reducible apply  ev_asg
  | with_reducible apply  ev_par
  | with_reducible apply  ev_thr
  | with_reducible apply  ev_dox_thr
  | ((with_reducible apply  ifK_t); (wtm_at "evt"))
  | ((with_reducible apply  ifK_f); (wtm_at "evt"))
  | exact eqB_int _ _ | exact neB_int _ _ | exact eqB_bl _ _ | exact neB_bl _ _ | exact eqB_str _ _ | exact neB_str _ _
  | exact lt_ev _ _ | exact le_ev _ _ | exact gt_ev _ _ | exact ge_ev _ _ | exact not_ev _ | exact neg_ev _ | exact addI_ev _ _ | exact subI_ev _ _
  | ((with_reducible show Row _ _ _); first | exact row_code _ | exact row_codes _ | exact row_map _ _ | exact row_bcode _ | exact row_bcodes _ | exact row_id _)
  | ((with_reducible show _ = List.map _ _); first | exact map_mapR _ _ | exact map_idR _)
  | ((with_reducible show dIsI _ _ = _); exact rfl) | ((with_reducible show dIsI2 _ _ _ = _); exact rfl) | ((with_reducible show dIsN _ = _); exact rfl) | ((with_reducible show dNotN _ = _); exact rfl)
  | ((with_reducible show dUw _ = _); first | exact uw_bcodes _ | exact uw_bcode _ | exact rfl)
  | exact hU_len _
  | ((with_reducible show D.imm _ = _); exact rfl)
  | exact allB_ev _ _ | exact anyB_ev _ _ | exact sumI_ev _ _ | exact sumC_ev _
  | exact len_ev _ | exact lenT_ev _ | exact cut_ev _ _ _ | exact list_ev _ | exact tuple_ev _ | exact rev_ev _
  | apply  addL_ev
  | wtm_at "evc"
  | ((with_reducible show _ = some _); exact rfl)
  | ((with_reducible show _ ≤ _); wtm_at "evb")
  | ((with_reducible show _ < _); wtm_at "evb")
  | ((with_reducible show (_ : Nat) = _); wtm_at "evb")
  | ((with_reducible show ∀ _, _ ∈ _ → _); intro _ _)
  | ((with_reducible show (_ : Bool) = _ → _); intro _))
local macro_rules | `(tactic| wtm_at "ev") => `(tactic| repeat' (wtm_at "ev1"))
theorem pick_yl {d : D} {ys : List D} (hd : dUw d = pure (.lst ys)) (h0 : ys ≠ []) (hl : ys.length ≤ 1000) : Yl 1 (f_law_pick [.gen, d]) fun r => r ∈ ys := by
  have pos : 1 ≤ ys.length := by cases ys with | nil => exact absurd rfl h0 | cons _ _ => simp
  have e1 : eF dUw (eW 1) (startD 2 [.gen, d]) = pure (.lst ys) := f_eq (ev_w rfl) hd
  refine yl_fn rfl (yl_ret ?_)
  have rn : Yl 1 (eCall f_law_random (esC (eW 0) (esC (eF (hU dLen) (eF dUw (eW 1))) (esN))) (startD 2 [.gen, d])) fun d => ∃ r : Nat, d = .int r ∧ r < ys.length := (yl_call (n := 0) (j := 1) (P := fun ds => ds = [.gen, .int (ys.length : Nat)]) (yl_eq (es_cons (ev_w rfl) (es_cons (f_eq e1 (hU_len _)) es_nil)) rfl) (fun ds e => by
    subst e
    exact (random_yl (by omega) (by omega)).mono (Nat.le_refl _) fun d ⟨r, e, hr⟩ => ⟨r, e, by omega⟩)).mono (by omega) fun _ z => z
  refine (yl_o (n := 0) (j := 1) (P := fun x => x = .lst ys) (Q := fun d => ∃ r : Nat, d = .int r ∧ r < ys.length) (yl_eq e1 rfl) ((yl_bind (j := 0) rn fun d ⟨r, e, hr⟩ => by
    subst e
    exact yl_eq (a := .int r) rfl ⟨r, rfl, hr⟩).mono (by omega) fun _ z => z) fun x y ex ⟨r, e, hr⟩ => ?_).mono (by omega) fun _ z => z
  subst ex
  subst e
  exact ⟨ys[r], ix_of (List.getElem?_eq_getElem hr), List.getElem_mem hr⟩
/-! ### draws in comprehensions -/
inductive F2 {α β : Type} (P : α → β → Prop) : List α → List β → Prop
  | nil : F2 P [] []
  | cons {x : α} {y : β} {xs : List α} {ys : List β} : P x y → F2 P xs ys → F2 P (x :: xs) (y :: ys)
theorem F2.len {α β : Type} {P : α → β → Prop} : ∀ {xs : List α} {ys : List β}, F2 P xs ys → ys.length = xs.length
  | _, _, .nil => rfl
  | _, _, .cons _ t => by rw [List.length_cons, List.length_cons, t.len]
theorem yl_lcGo {α : Type} {g : G} {te : E} {δ : Dlt} {emb : α → D} {γ : α → Dlt} {P : α → D → Prop} {n : Nat} : ∀ {xs : List α}, (∀ x ∈ xs, g (emb x) δ = some (γ x)) → (∀ x ∈ xs, Yl n (te (γ x)) (P x)) → Yl (n * xs.length) (lcGo g (eK (.bl true)) te δ (xs.map emb)) fun ds => F2 P xs ds
  | [], _, _ => yl_pure .nil
  | x :: xs, h1, h2 => by
    have ih := yl_lcGo (fun y hy => h1 y (List.mem_cons_of_mem _ hy)) (fun y hy => h2 y (List.mem_cons_of_mem _ hy))
    show Yl _ (liftG (g (emb x) δ) >>= _) _
    rw [h1 x List.mem_cons_self]
    have q : Yl (n + (n * xs.length + 0)) (te (γ x) >>= fun y => lcGo g (eK (.bl true)) te δ (xs.map emb) >>= fun ys => (pure (y :: ys) : M (List D))) fun ds => F2 P (x :: xs) ds := yl_bind (h2 x List.mem_cons_self) fun y py => yl_bind ih fun ys pys => yl_pure (.cons py pys)
    refine q.mono ?_ fun _ z => z
    rw [List.length_cons, Nat.mul_add]
    omega
theorem yl_lcA {α : Type} {vs : List Nat} {g : G} {src : Es} {te : E} {δ : Dlt} {emb : α → D} {γ : α → Dlt} {P : α → D → Prop} {n : Nat} {xs : List α} (hs : src δ = pure (xs.map emb)) (h1 : ∀ x ∈ xs, g (emb x) (wipeD δ vs) = some (γ x)) (h2 : ∀ x ∈ xs, Yl n (te (γ x)) (P x)) (hl : xs.length ≤ 1000000) :
    Yl (n * xs.length) (eLc vs g src (eK (.bl true)) te δ) fun d => ∃ ds, d = .lst ds ∧ F2 P xs ds := by
  unfold eLc
  rw [hs, pure_bind]
  refine (yl_bind (j := 0) (yl_lcGo h1 h2) fun ds p => ?_).mono (by omega) fun _ z => z
  rw [if_pos (lim_ok (by rw [p.len]; exact hl))]
  exact yl_pure ⟨ds, rfl, p⟩
theorem yl_esC {n j : Nat} {a : E} {r : Es} {δ : Dlt} {P : D → Prop} {Q : List D → Prop} (h : Yl n (a δ) P) (h2 : Yl j (r δ) Q) : Yl (n + j) (esC a r δ) fun ds => ∃ x xs, ds = x :: xs ∧ P x ∧ Q xs :=
  (yl_bind (j := j + 0) h fun x p => yl_bind h2 fun xs q => yl_pure ⟨x, xs, rfl, p, q⟩).mono (by omega) fun _ z => z
theorem yl_tup {n : Nat} {es : Es} {δ : Dlt} {P : List D → Prop} (h : Yl n (es δ) P) (hl : ∀ ds, P ds → ds.length ≤ 1000000) : Yl n (eTup es δ) fun d => ∃ ds, d = .tup ds ∧ P ds :=
  (yl_bind (j := 0) h fun ds p => by
    rw [if_pos (lim_ok (hl ds p))]
    exact yl_pure ⟨ds, rfl, p⟩).mono (by omega) fun _ z => z
theorem yl_f {n : Nat} {f : D → M D} {a : E} {δ : Dlt} {P Q : D → Prop} (h : Yl n (a δ) P) (h2 : ∀ x, P x → ∃ d, f x = pure d ∧ Q d) : Yl n (eF f a δ) Q :=
  (yl_bind (j := 0) h fun x p => by
    obtain ⟨d, e, q⟩ := h2 x p
    exact yl_eq e q).mono (by omega) fun _ z => z
theorem yl_ife {n j : Nat} {c a b : E} {δ : Dlt} {Q : Bool → Prop} {R : D → Prop} (h : Yl n (c δ) fun d => ∃ x, d = .bl x ∧ Q x) (h1 : Q true → Yl j (a δ) R) (h2 : Q false → Yl j (b δ) R) : Yl (n + j) (eIf c a b δ) R :=
  yl_bind h fun d ⟨x, e, q⟩ => by
    subst e
    cases x with
    | true => exact h1 q
    | false => exact h2 q
theorem yl_or {n j : Nat} {a b : E} {δ : Dlt} {Q R : Bool → Prop} (h : Yl n (a δ) fun d => ∃ x, d = .bl x ∧ Q x) (h1 : Q true → R true) (h2 : Q false → Yl j (b δ) fun d => ∃ x, d = .bl x ∧ R x) : Yl (n + j) (eOr a b δ) fun d => ∃ x, d = .bl x ∧ R x :=
  yl_bind h fun d ⟨x, e, q⟩ => by
    subst e
    cases x with
    | true => exact (yl_pure ⟨true, rfl, h1 q⟩).mono (by omega) fun _ z => z
    | false => exact h2 q
/-! ### a figure of each wheel -/
theorem f2_snoc {W : List (List Int)} {fs : List Int} : ∀ {c : List Int}, F2 (fun fs x => x ∈ fs) (W ++ [fs]) c → ∃ c' x, c = c' ++ [x] ∧ F2 (fun fs x => x ∈ fs) W c' ∧ x ∈ fs := by
  induction W with
  | nil =>
    intro c h
    cases h with
    | cons p t =>
      cases t
      exact ⟨[], _, rfl, .nil, p⟩
  | cons g W ih =>
    intro c h
    cases h with
    | cons p t =>
      obtain ⟨c', x, rfl, q, hx⟩ := ih t
      exact ⟨_ :: c', x, rfl, .cons p q, hx⟩
theorem f2_allC (W : List (List Int)) : ∀ c, F2 (fun fs x => x ∈ fs) W c → c ∈ allC W := by
  induction W using snoc_ind with
  | h0 =>
    intro c h
    cases h
    exact List.mem_cons_self
  | h1 W fs ih =>
    intro c h
    obtain ⟨c', x, rfl, q, hx⟩ := f2_snoc h
    rw [allC_snoc, List.mem_flatMap]
    exact ⟨c', ih c' q, List.mem_map.mpr ⟨x, hx, rfl⟩⟩
theorem f2_ints : ∀ {W : List (List Int)} {ds : List D}, F2 (fun (fs : List Int) d => ∃ x ∈ fs, d = D.int x) W ds → ∃ c : List Int, ds = c.map D.int ∧ F2 (fun fs x => x ∈ fs) W c
  | _, _, .nil => ⟨[], rfl, .nil⟩
  | _, _, .cons ⟨x, hx, e⟩ t => by
    obtain ⟨c, rfl, q⟩ := f2_ints t
    subst e
    exact ⟨x :: c, rfl, .cons hx q⟩
theorem picks_yl {W : List (List Int)} (h : Wh W) {k : Nat} {δ : Dlt} (h0 : ∀ d, (wipeD δ [k]).set k d = (wipeD δ [k]).set k d) (hs : xL (eW 1) δ = pure (W.map codeD)) (hp : ∀ fs : List Int, eW 0 ((wipeD δ [k]).set k (.val (codeD fs))) = pure .gen ∧ eW k ((wipeD δ [k]).set k (.val (codeD fs))) = pure (codeD fs)) :
    Yl (1 * W.length) (eLc [k] (gN k) (xL (eW 1)) (eK (.bl true)) (eCall f_law_pick (esC (eW 0) (esC (eW k) (esN)))) δ) fun d => ∃ c ∈ allC W, d = codeD c := by
  have hf := h.few
  refine (yl_lcA (emb := codeD) (γ := fun fs => (wipeD δ [k]).set k (.val (codeD fs))) (P := fun fs d => ∃ x ∈ fs, d = D.int x) (n := 1) hs (fun fs _ => rfl) (fun fs hfs => ?_) (by omega)).mono (Nat.le_refl _) fun d ⟨ds, e, q⟩ => ?_
  · have ne := (h.fs fs hfs).1
    refine (yl_call (n := 0) (j := 1) (P := fun ds => ds = [.gen, codeD fs]) (yl_eq (es_cons (hp fs).1 (es_cons (hp fs).2 es_nil)) rfl) fun ds e => ?_).mono (by omega) fun _ z => z
    subst e
    refine (pick_yl (d := codeD fs) rfl (by simpa using ne) (by rw [List.length_map]; have := h.len hfs; omega)).mono (Nat.le_refl _) fun r hr => ?_
    rw [List.mem_map] at hr
    obtain ⟨x, hx, rfl⟩ := hr
    exact ⟨x, hx, rfl⟩
  · obtain ⟨c, rfl, q2⟩ := f2_ints q
    exact ⟨c, f2_allC W c q2, e⟩
theorem sum_le {c : List Int} (h : ∀ x ∈ c, 0 ≤ x ∧ x < 10) : 0 ≤ c.sum ∧ c.sum ≤ 9 * c.length := by
  induction c with
  | nil => simp
  | cons x c ih =>
    have h1 := h x List.mem_cons_self
    have h2 := ih fun y hy => h y (List.mem_cons_of_mem _ hy)
    simp only [List.sum_cons, List.length_cons]
    omega
end K78

/-! ## MWK78 -/
set_option autoImplicit false
set_option linter.all false
set_option maxRecDepth 100000
set_option maxHeartbeats 2000000
namespace K78
open PySem DL
local macro_rules | `(tactic| wtm_at "evt") => `(tactic| first | rfl | assumption | (simp only [*]; done) | (simp [*, isTy]; done) | (simp; done) | decide | omega)
local macro_rules | `(tactic| wtm_at "evb") => `(tactic| first | omega | (simp only [List.length_map, List.length_append, List.length_cons, List.length_nil, List.length_zip, List.length_zipIdx, List.length_range, List.length_reverse]; omega) | (simp; omega) | decide)
local macro_rules | `(tactic| wtm_at "evc") => `(tactic| ((with_reducible show _ = _); assumption))
local macro_rules | `(tactic| wtm_at "ev1") => `(tactic| first
  | with_reducible exact ev_k
  | ((with_reducible apply  ev_w); exact rfl)
  | ((with_reducible apply  ev_v); exact rfl)
  | ((with_reducible apply  ev_vo); exact rfl)
  | with_reducible exact es_nil
  | with_reducible exact ev_no
  | with_reducible exact ev_skip
  | with_reducible exact seqK_rt
  | with_reducible apply  es_cons
  | with_reducible apply  f_eq
  | with_reducible apply  o_eq
  | with_reducible apply  ev_lst
  | with_reducible apply  tup_eq
  | with_reducible apply  ev_and
  | with_reducible apply  ev_or
  | with_reducible apply  ev_ife
  | with_reducible apply  call_eq
  | with_reducible apply  ev_callK
  | with_reducible apply  ev_callD
  | with_reducible apply  ev_callDK
  | with_reducible apply  hI_eq
  | with_reducible apply  hU_eq
  | with_reducible apply  ev_cutN
  | with_reducible apply  ev_at
  | with_reducible apply  ev_lcA
  | with_reducible apply  ev_lc
  | with_reducible apply  sx_l
  | with_reducible apply  sx_vw
  | with_reducible apply  sx_enum
  | with_reducible apply  sx_zip
  | with_reducible apply  sx_zipS
  | with_reducible apply  sx_r
  | with_reducible apply  sx_r2
  | with_reducible apply  ev_seq
  | with_reducible apply  seqK_nx
  | with_reducible apply  ev_if
  | with_reducible apply  ev_ret
  | with_reducible apply  ev_do
  | with_reducible apply  ev_asg
  | with_reducible apply  ev_par
  | with_reducible apply  ev_thr
  | with_reducible apply  ev_dox_thr
  | ((with_reducible apply  ifK_t); (wtm_at "evt"))
  | ((with_reducible apply  ifK_f); (wtm_at "evt"))
  | exact eqB_int _ _ | exact neB_int _ _ | exact eqB_bl _ _ | exact neB_bl _ _ | exact eqB_str _ _ | exact neB_str _ _
  | exact lt_ev _ _ | exact le_ev _ _ | exact gt_ev _ _ | exact ge_ev _ _ | exact not_ev _ | exact neg_ev _ | exact addI_ev _ _ | exact subI_ev _ _
  | ((with_reducible show Row _ _ _); first | exact row_code _ | exact row_codes _ | exact row_map _ _ | exact row_bcode _ | exact row_bcodes _ | exact row_id _)
  | ((with_reducible show _ = List.map _ _); first | exact map_mapR _ _ | exact map_idR _)
  | ((with_reducible show dIsI _ _ = _); exact rfl) | ((with_reducible show dIsI2 _ _ _ = _); exact rfl) | ((with_reducible show dIsN _ = _); exact rfl) | ((with_reducible show dNotN _ = _); exact rfl)
  | ((with_reducible show dUw _ = _); first | exact uw_bcodes _ | exact uw_bcode _ | exact rfl)
  | exact hU_len _
  | ((with_reducible show D.imm _ = _); exact rfl)
  | exact allB_ev _ _ | exact anyB_ev _ _ | exact sumI_ev _ _ | exact sumC_ev _
  | exact len_ev _ | exact lenT_ev _ | exact cut_ev _ _ _ | exact list_ev _ | exact tuple_ev _ | exact rev_ev _
  | apply  addL_ev
  | wtm_at "evc"
  | ((with_reducible show _ = some _); exact rfl)
  | ((with_reducible show _ ≤ _); wtm_at "evb")
  | ((with_reducible show _ < _); wtm_at "evb")
  | ((with_reducible show (_ : Nat) = _); wtm_at "evb")
  | ((with_reducible show ∀ _, _ ∈ _ → _); intro _ _)
  | ((with_reducible show (_ : Bool) = _ → _); intro _))
local macro_rules | `(tactic| wtm_at "ev") => `(tactic| repeat' (wtm_at "ev1"))
/-! ### a clue is drawn -/
theorem rand_yl {b : Nat} {δ : Dlt} {e : E} (h0 : eW 0 δ = pure .gen) (he : e δ = pure (.int (b : Nat))) (h1 : 1 ≤ b) (h2 : b ≤ 1000) : Yl 1 (eCall f_law_random (esC (eW 0) (esC e (esN))) δ) fun d => ∃ r : Nat, d = .int r ∧ r < b :=
  (yl_call (n := 0) (j := 1) (P := fun ds => ds = [.gen, .int (b : Nat)]) (yl_eq (es_cons h0 (es_cons he es_nil)) rfl) fun ds e => by
    subst e
    exact (random_yl (by omega) (by omega)).mono (Nat.le_refl _) fun d ⟨r, e, hr⟩ => ⟨r, e, by omega⟩).mono (by omega) fun _ z => z
theorem insS_len (x : Int) : ∀ l : List Int, (insS x l).length ≤ l.length + 1
  | [] => by simp [insS]
  | y :: r => by
    have ih := insS_len x r
    unfold insS
    split
    · simp
    · split
      · simp
      · simp; omega
theorem sset_len : ∀ l : List Int, (sset l).length ≤ l.length
  | [] => by simp [sset]
  | x :: r => by
    have ih := sset_len r
    have := insS_len x (sset r)
    show (insS x (sset r)).length ≤ _
    simp
    omega
theorem mul_one_list (x : D) {r : Nat} (h : r ≤ 1000) : dMul (.lst [x]) (.int (r : Nat)) = pure (.lst (List.replicate r x)) := by
  have fl : ∀ n : Nat, (List.replicate n [x]).flatten = List.replicate n x := fun n => by
    induction n with
    | zero => rfl
    | succ n ih => rw [List.replicate_succ, List.flatten_cons, ih, List.replicate_succ]; rfl
  show (if 0 ≤ (r : Int) ∧ (r : Int) < 1000000 ∧ lim ([x].length * (r : Int).toNat) = true then pure (D.lst (List.replicate (r : Int).toNat [x]).flatten) else stuck) = _
  rw [if_pos ⟨by omega, by omega, lim_ok (by simp; omega)⟩, Int.toNat_natCast, fl]
theorem yl_if_t {n : Nat} {c : E} {a b0 b : S} {δ : Dlt} {Q : D → Prop} (hc : c δ = pure (.bl true)) (h : Yl n (a δ) fun r => ∃ d, r = Fl.rt d ∧ Q d) : Yl n (sSeq (sIf c a b0) b δ) fun r => ∃ d, r = Fl.rt d ∧ Q d :=
  (yl_bind (n := n) (j := 0) (P := fun r => ∃ d, r = Fl.rt d ∧ Q d) (by rw [if_t hc]; exact h) fun r ⟨d, e, q⟩ => by
    subst e
    exact yl_pure ⟨d, rfl, q⟩).mono (by omega) fun _ z => z
abbrev clS (W : List (List Int)) (hd : List Int) (way wheel : Nat) (c : Sl) (x6 x7 x8 : Sl) : Dlt := [.val .gen, .val (codesD W), .val (codeD hd), .val (.int way), .val (.int wheel), c, x6, x7, x8]
theorem len1 {W : List (List Int)} {hd : List Int} {way wheel : Nat} {c x6 x7 x8 : Sl} : eF dLen (eV 1) (clS W hd way wheel c x6 x7 x8) = pure (.int (W.length : Nat)) := f_eq (ev_v rfl) ((len_ev _).trans (by rw [List.length_map]))
theorem eqN {i : Nat} {n k : Nat} {δ : Dlt} (h : δ[i]? = some (.val (.int (n : Nat)))) : eO dEq (eV i) (eK (.int (k : Nat))) δ = pure (.bl (decide (n = k))) := by
  refine (o_eq (ev_v h) ev_k (eqB_int _ _)).trans ?_
  congr 2
  exact decide_eq_decide.mpr (by omega)
theorem clue_yl {W : List (List Int)} (h : Wh W) {hd : List Int} (hh : hd ∈ allC W) : Yl 40 (f_law_clue [.gen, codesD W, codeD hd]) fun d => ∃ k, GdC W k ∧ d = clD k := by
  have hf := h.few
  have hl := (allC_in W hd hh).1
  have hp : 1 ≤ W.length := by
    have := h.ne
    cases W with | nil => exact absurd rfl this | cons _ _ => simp
  have dg := h.digits hh
  unfold f_law_clue
  refine yl_fn rfl ?_
  have ln0 : eF dLen (eV 1) (startD 9 [.gen, codesD W, codeD hd]) = pure (.int (W.length : Nat)) := f_eq (ev_v rfl) ((len_ev _).trans (by rw [List.length_map]))
  refine (yl_seq (n := 2) (j := 30) (P := fun δ => ∃ way wheel : Nat, way < 4 ∧ wheel < W.length ∧ δ = clS W hd way wheel .no .no .no .no) (yl_asg (yl_tup (P := fun ds => ∃ way wheel : Nat, way < 4 ∧ wheel < W.length ∧ ds = [.int way, .int wheel]) ((yl_esC (n := 1) (j := 1) (rand_yl (b := 4) (ev_w rfl) ev_k (by decide) (by decide)) ((yl_esC (n := 1) (j := 0) (rand_yl (b := W.length) (ev_w rfl) ln0 hp (by omega)) (yl_eq (P := fun ds => ds = []) es_nil rfl)).mono (by omega) fun _ z => z)).mono (by omega) fun ds ⟨x, xs, e, ⟨r, ex, hr⟩, y, ys, exs, ⟨r2, ey, hr2⟩, ez⟩ => ⟨r, r2, hr, hr2, by rw [e, exs, ex, ey, ez]⟩) fun ds ⟨_, _, _, _, e⟩ => by rw [e]; simp) fun d ⟨ds, ed, way, wheel, h1, h2, e⟩ => ⟨_, by rw [ed, e]; rfl, way, wheel, h1, h2, rfl⟩) fun δ ⟨way, wheel, hway, hwheel, e⟩ => ?_).mono (by omega) fun _ z => z
  subst e
  refine (yl_seq (n := 4) (j := 24) (P := fun δ => ∃ c ∈ allC W, δ = clS W hd way wheel (.val (codeD c)) .no .no .no) (yl_asg ((picks_yl h (k := 7) (fun _ => rfl) rfl (fun fs => ⟨rfl, rfl⟩)).mono (by omega) fun _ z => z) fun d ⟨c, hc, e⟩ => ⟨_, by subst e; rfl, c, hc, rfl⟩) fun δ ⟨c, hc, e⟩ => ?_).mono (by omega) fun _ z => z
  subst e
  have hcl := (allC_in W c hc).1
  have w0 : eO dEq (eV 3) (eK (.int 0)) (clS W hd way wheel (.val (codeD c)) .no .no .no) = pure (.bl (decide (way = 0))) := eqN rfl
  have w3 : eO dEq (eV 3) (eK (.int 3)) (clS W hd way wheel (.val (codeD c)) .no .no .no) = pure (.bl (decide (way = 3))) := eqN rfl
  have w1 : eO dEq (eV 3) (eK (.int 1)) (clS W hd way wheel (.val (codeD c)) .no .no .no) = pure (.bl (decide (way = 1))) := eqN rfl
  have w2 : eO dEq (eV 3) (eK (.int 2)) (clS W hd way wheel (.val (codeD c)) .no .no .no) = pure (.bl (decide (way = 2))) := eqN rfl
  have wl : eO dLt (eF dLen (eV 1)) (eK (.int 2)) (clS W hd way wheel (.val (codeD c)) .no .no .no) = pure (.bl (decide (W.length < 2))) := by
    refine (o_eq len1 ev_k (lt_ev _ _)).trans ?_
    congr 2
    exact decide_eq_decide.mpr (by omega)
  have t1 : eOr (eO dEq (eV 3) (eK (.int 0))) (eAnd (eO dLt (eF dLen (eV 1)) (eK (.int 2))) (eO dEq (eV 3) (eK (.int 3)))) (clS W hd way wheel (.val (codeD c)) .no .no .no) = pure (.bl (decide (way = 0) || (decide (W.length < 2) && decide (way = 3)))) := ev_or w0 fun _ => ev_and wl fun _ => w3
  cases hb1 : decide (way = 0) || (decide (W.length < 2) && decide (way = 3)) with
  | true =>
    rw [hb1] at t1
    -- right
    have al := alike_eq (a := c) (b := hd) (by omega) (by omega)
    have third : Yl 2 (eIf (eO dGt (eCall f_law_random (esC (eW 0) (esC (eK (.int 4)) (esN)))) (eK (.int 0))) (eCall f_law_alike (esC (eW 5) (esC (eW 2) (esN)))) (eCall f_law_random (esC (eW 0) (esC (eO dAdd (eF dLen (eV 1)) (eK (.int 2))) (esN)))) (clS W hd way wheel (.val (codeD c)) .no .no .no)) fun d => ∃ n : Nat, n ≤ 100 ∧ d = .int n := by
      refine yl_ife (n := 1) (j := 1) (Q := fun _ => True) ((yl_o (n := 1) (j := 0) (P := fun d => ∃ r : Nat, d = .int r ∧ r < 4) (Q := fun d => d = .int 0) (R := fun d => ∃ x, d = .bl x ∧ True) (rand_yl (b := 4) (ev_w rfl) ev_k (by decide) (by decide)) (yl_eq ev_k rfl) fun x y ⟨r, ex, _⟩ ey => by
        subst ex
        subst ey
        exact ⟨_, gt_ev _ _, _, rfl, trivial⟩).mono (by omega) fun _ z => z) (fun _ => ?_) (fun _ => ?_)
      · refine Yl.mono (n := 0) (yl_eq (call_eq (es_cons (ev_w rfl) (es_cons (ev_w rfl) es_nil)) al) ⟨_, ?_, rfl⟩) (by omega) fun _ z => z
        exact Nat.le_trans (List.length_filter_le _ _) (by simp; omega)
      · exact (rand_yl (b := W.length + 2) (ev_w rfl) ((o_eq len1 ev_k (addI_ev _ _)).trans (by simp)) (by omega) (by omega)).mono (Nat.le_refl _) fun d ⟨r, e, hr⟩ => ⟨r, by omega, e⟩
    have ret : Yl 2 (sRet (eTup (esC (eK (.str "right")) (esC (eW 5) (esC (eIf (eO dGt (eCall f_law_random (esC (eW 0) (esC (eK (.int 4)) (esN)))) (eK (.int 0))) (eCall f_law_alike (esC (eW 5) (esC (eW 2) (esN)))) (eCall f_law_random (esC (eW 0) (esC (eO dAdd (eF dLen (eV 1)) (eK (.int 2))) (esN))))) (esN))))) (clS W hd way wheel (.val (codeD c)) .no .no .no)) fun r => ∃ d, r = .rt d ∧ ∃ k, GdC W k ∧ d = clD k := by
      refine yl_ret ((yl_tup (P := fun ds => ∃ n : Nat, n ≤ 100 ∧ ds = [.str "right", codeD c, .int n]) ((yl_esC (n := 0) (j := 2) (yl_eq (P := fun d => d = .str "right") ev_k rfl) ((yl_esC (n := 0) (j := 2) (yl_eq (P := fun d => d = codeD c) (ev_w rfl) rfl) ((yl_esC (n := 2) (j := 0) third (yl_eq (P := fun ds => ds = []) es_nil rfl)).mono (by omega) fun _ z => z)).mono (by omega) fun _ z => z)).mono (by omega) fun ds ⟨x, xs, e, ex, y, ys, exs, ey, z, zs, eys, ⟨n, hn, ez⟩, ezs⟩ => ⟨n, hn, by rw [e, exs, eys, ex, ey, ez, ezs]⟩) fun ds ⟨n, _, e⟩ => by rw [e]; simp).mono (Nat.le_refl _) fun d ⟨ds, ed, n, hn, e⟩ => ⟨.right c n, ⟨hc, hn⟩, by rw [ed, e]; rfl⟩)
    refine (yl_bind (n := 2) (j := 0) (P := fun r => ∃ d, r = Fl.rt d ∧ ∃ k, GdC W k ∧ d = clD k) ?_ fun r ⟨d, e, q⟩ => by
      subst e
      exact yl_pure ⟨d, rfl, q⟩).mono (by omega) fun _ z => z
    rw [if_t t1]
    exact ret
  | false =>
    rw [hb1] at t1
    rw [seq_nx (δ' := clS W hd way wheel (.val (codeD c)) .no .no .no) (by rw [if_f t1]; rfl)]
    cases hb2 : decide (way = 1) with
    | true =>
      rw [hb2] at w1
      have sm := sum_le dg
      have add : Yl 1 (eO dAdd (eF dSum (eV 2)) (eCall f_law_pick (esC (eW 0) (esC (eLst (esC (eK (.int 0)) (esC (eK (.int 0)) (esC (eK (.int 0)) (esC (eK (.int 1)) (esN)))))) (esN)))) (clS W hd way wheel (.val (codeD c)) .no .no .no)) fun d => ∃ n : Nat, n ≤ 100 ∧ d = .int n := by
        refine (yl_o (n := 0) (j := 1) (P := fun d => d = .int hd.sum) (Q := fun d => d ∈ [D.int 0, .int 0, .int 0, .int 1]) (yl_eq (f_eq (ev_v rfl) (sumC_ev hd)) rfl) ((yl_call (n := 0) (j := 1) (P := fun ds => ds = [.gen, .lst [.int 0, .int 0, .int 0, .int 1]]) (yl_eq (es_cons (ev_w rfl) (es_cons (lst_eq (es_cons ev_k (es_cons ev_k (es_cons ev_k (es_cons ev_k es_nil)))) (by simp)) es_nil)) rfl) fun ds e => by
          subst e
          exact pick_yl rfl (by simp) (by simp)).mono (by omega) fun _ z => z) fun x y ex hy => ?_).mono (by omega) fun _ z => z
        subst ex
        simp only [List.mem_cons, List.mem_nil_iff, or_false] at hy
        rcases hy with rfl | rfl | rfl | rfl
        · exact ⟨_, addI_ev _ _, hd.sum.toNat, by omega, by congr 1; omega⟩
        · exact ⟨_, addI_ev _ _, hd.sum.toNat, by omega, by congr 1; omega⟩
        · exact ⟨_, addI_ev _ _, hd.sum.toNat, by omega, by congr 1; omega⟩
        · exact ⟨_, addI_ev _ _, (hd.sum + 1).toNat, by omega, by congr 1; omega⟩
      refine (yl_if_t w1 (n := 1) (yl_ret ((yl_tup (P := fun ds => ∃ n : Nat, n ≤ 100 ∧ ds = [.str "sum", .int n]) ((yl_esC (n := 0) (j := 1) (yl_eq (P := fun d => d = .str "sum") ev_k rfl) ((yl_esC (n := 1) (j := 0) add (yl_eq (P := fun ds => ds = []) es_nil rfl)).mono (by omega) fun _ z => z)).mono (by omega) fun ds ⟨x, xs, e, ex, y, ys, exs, ⟨n, hn, ey⟩, eys⟩ => ⟨n, hn, by rw [e, exs, ex, ey, eys]⟩) fun ds ⟨n, _, e⟩ => by rw [e]; simp).mono (Nat.le_refl _) fun d ⟨ds, ed, n, hn, e⟩ => ⟨.sum n, hn, by rw [ed, e]; rfl⟩))).mono (by omega) fun _ z => z
    | false =>
      rw [hb2] at w1
      rw [seq_nx (δ' := clS W hd way wheel (.val (codeD c)) .no .no .no) (by rw [if_f w1]; rfl)]
      cases hb3 : decide (way = 2) with
      | true =>
        rw [hb3] at w2
        have ix : eO dIx (eV 2) (eV 4) (clS W hd way wheel (.val (codeD c)) .no .no .no) = pure (.int (hd.getD wheel 0)) := o_eq (ev_v rfl) (ev_v rfl) (ixD (by omega))
        have x0 : 0 ≤ hd.getD wheel 0 ∧ hd.getD wheel 0 < 10 := by
          rw [getD_lt (by omega)]
          exact dg _ (List.getElem_mem _)
        have left1 : Yl 1 (eO dMul (eLst (esC (eO dIx (eV 2) (eV 4)) (esN))) (eCall f_law_random (esC (eW 0) (esC (eK (.int 5)) (esN)))) (clS W hd way wheel (.val (codeD c)) .no .no .no)) fun d => ∃ r : Nat, r ≤ 5 ∧ d = codeD (List.replicate r (hd.getD wheel 0)) := by
          refine (yl_o (n := 0) (j := 1) (P := fun d => d = .lst [.int (hd.getD wheel 0)]) (Q := fun d => ∃ r : Nat, d = .int r ∧ r < 5) (yl_eq (lst_eq (es_cons ix es_nil) (by simp)) rfl) (rand_yl (b := 5) (ev_w rfl) ev_k (by decide) (by decide)) fun x y ex ⟨r, ey, hr⟩ => ?_).mono (by omega) fun _ z => z
          subst ex
          subst ey
          exact ⟨_, mul_one_list _ (by omega), r, by omega, by unfold codeD; rw [List.map_replicate]⟩
        have digs : eLst (esC (eK (.int 0)) (esC (eK (.int 1)) (esC (eK (.int 2)) (esC (eK (.int 3)) (esC (eK (.int 4)) (esC (eK (.int 5)) (esC (eK (.int 6)) (esC (eK (.int 7)) (esC (eK (.int 8)) (esC (eK (.int 9)) (esN))))))))))) (clS W hd way wheel (.val (codeD c)) .no .no .no) = pure (codeD [0, 1, 2, 3, 4, 5, 6, 7, 8, 9]) := rfl
        have right1 : Yl 11 (eCut (eCall f_law_shuffled (esC (eW 0) (esC (eLst (esC (eK (.int 0)) (esC (eK (.int 1)) (esC (eK (.int 2)) (esC (eK (.int 3)) (esC (eK (.int 4)) (esC (eK (.int 5)) (esC (eK (.int 6)) (esC (eK (.int 7)) (esC (eK (.int 8)) (esC (eK (.int 9)) (esN)))))))))))) (esN)))) (eNo) (eAt (eO dAdd (eK (.int 1)) (eCall f_law_random (esC (eW 0) (esC (eK (.int 5)) (esN)))))) (clS W hd way wheel (.val (codeD c)) .no .no .no)) fun d => ∃ e : List Int, e ≠ [] ∧ e.length ≤ 5 ∧ (∀ x ∈ e, 0 ≤ x ∧ x < 10) ∧ d = codeD e := by
          have sh := shuffled_yl (xs := [0, 1, 2, 3, 4, 5, 6, 7, 8, 9].map D.int) (by simp) (by
            intro d hd
            rw [List.mem_map] at hd
            obtain ⟨x, hx, rfl⟩ := hd
            have : 0 ≤ x ∧ x < 10 := by simp at hx; omega
            have q := digit_small this
            unfold smallI at q
            simpa [D.cl] using q)
          refine (yl_bind (n := 10) (j := 1) (P := fun d => ∃ zs : List Int, zs.Perm [0, 1, 2, 3, 4, 5, 6, 7, 8, 9] ∧ d = codeD zs) ((yl_call (n := 0) (j := 10) (P := fun ds => ds = [.gen, codeD [0, 1, 2, 3, 4, 5, 6, 7, 8, 9]]) (yl_eq (es_cons (ev_w rfl) (es_cons digs es_nil)) rfl) fun ds e => by
            subst e
            exact sh.mono (by simp) fun d ⟨ys, e, p⟩ => by
              obtain ⟨zs, pz, e2⟩ := perm_ints p
              exact ⟨zs, pz, by rw [e, e2]; rfl⟩).mono (by omega) fun _ z => z) fun d ⟨zs, pz, e⟩ => ?_).mono (by omega) fun _ z => z
          subst e
          refine (yl_bind (n := 0) (j := 1) (P := fun l => l = none) (yl_eq (a := none) rfl rfl) fun l e => ?_).mono (by omega) fun _ z => z
          subst e
          refine (yl_bind (n := 1) (j := 0) (P := fun l => ∃ k : Nat, 1 ≤ k ∧ k ≤ 5 ∧ l = some (k : Int)) ((yl_bind (n := 1) (j := 0) (P := fun d => ∃ k : Nat, 1 ≤ k ∧ k ≤ 5 ∧ d = D.int k) ((yl_o (n := 0) (j := 1) (P := fun d => d = .int 1) (Q := fun d => ∃ r : Nat, d = .int r ∧ r < 5) (yl_eq ev_k rfl) (rand_yl (b := 5) (ev_w rfl) ev_k (by decide) (by decide)) fun x y ex ⟨r, ey, hr⟩ => by
            subst ex
            subst ey
            exact ⟨_, addI_ev _ _, r + 1, by omega, by omega, by congr 1; omega⟩).mono (by omega) fun _ z => z) fun d ⟨k, h1, h2, e⟩ => by
              subst e
              exact yl_eq (a := some (k : Int)) rfl ⟨k, h1, h2, rfl⟩).mono (by omega) fun _ z => z) fun l ⟨k, h1, h2, e⟩ => ?_).mono (by omega) fun _ z => z
          subst e
          have zl : zs.length = 10 := pz.length_eq
          refine yl_eq (a := codeD (zs.take k)) ?_ ⟨zs.take k, ?_, by rw [List.length_take]; omega, fun x hx => ?_, rfl⟩
          · rw [cut_code, cut_take]
          · intro z
            have := congrArg List.length z
            rw [List.length_take, zl] at this
            simp at this
            omega
          · have := pz.mem_iff.mp (List.mem_of_mem_take hx)
            simp at this
            omega
        have am : Yl 12 (eF dSortSet (eO dAdd (eO dMul (eLst (esC (eO dIx (eV 2) (eV 4)) (esN))) (eCall f_law_random (esC (eW 0) (esC (eK (.int 5)) (esN))))) (eCut (eCall f_law_shuffled (esC (eW 0) (esC (eLst (esC (eK (.int 0)) (esC (eK (.int 1)) (esC (eK (.int 2)) (esC (eK (.int 3)) (esC (eK (.int 4)) (esC (eK (.int 5)) (esC (eK (.int 6)) (esC (eK (.int 7)) (esC (eK (.int 8)) (esC (eK (.int 9)) (esN)))))))))))) (esN)))) (eNo) (eAt (eO dAdd (eK (.int 1)) (eCall f_law_random (esC (eW 0) (esC (eK (.int 5)) (esN)))))))) (clS W hd way wheel (.val (codeD c)) .no .no .no)) fun d => ∃ fs : List Int, Gd fs ∧ fs.length ≤ 10 ∧ d = codeD fs := by
          refine yl_f (P := fun d => ∃ e : List Int, e ≠ [] ∧ e.length ≤ 10 ∧ (∀ x ∈ e, 0 ≤ x ∧ x < 10) ∧ d = codeD e) ((yl_o (n := 1) (j := 11) left1 right1 fun x y ⟨r, hr, ex⟩ ⟨e, h1, h2, h3, ey⟩ => ?_).mono (by omega) fun _ z => z) fun d ⟨e, h1, h2, h3, ed⟩ => ?_
          · subst ex
            subst ey
            refine ⟨codeD (List.replicate r (hd.getD wheel 0) ++ e), ?_, _, by simp [h1], by simp; omega, fun x hx => ?_, rfl⟩
            · unfold codeD
              rw [cat_eq (by simp; omega), List.map_append]
            · rw [List.mem_append] at hx
              rcases hx with z | z
              · rw [(List.mem_replicate.mp z).2]; exact x0
              · exact h3 x z
          · subst ed
            refine ⟨codeD (sset e), ?_, sset e, ⟨?_, fun x hx => h3 x ((sset_mem x e).mp hx), sset_up e⟩, Nat.le_trans (sset_len e) h2, rfl⟩
            · show (match ints? (e.map D.int) with | some ns => if ns.length < 64 then (pure (D.lst ((sset ns).map .int)) : M D) else stuck | none => stuck) = _
              rw [ints_of]
              exact if_pos (by omega)
            · intro z
              cases e with
              | nil => exact h1 rfl
              | cons x e =>
                have := (sset_mem x (x :: e)).mpr List.mem_cons_self
                rw [z] at this
                cases this
        refine (yl_if_t w2 (n := 12) (yl_ret ((yl_tup (P := fun ds => ∃ fs : List Int, Gd fs ∧ fs.length ≤ 10 ∧ ds = [.str "among", .int wheel, codeD fs]) ((yl_esC (n := 0) (j := 12) (yl_eq (P := fun d => d = .str "among") ev_k rfl) ((yl_esC (n := 0) (j := 12) (yl_eq (P := fun d => d = .int wheel) (ev_w rfl) rfl) ((yl_esC (n := 12) (j := 0) am (yl_eq (P := fun ds => ds = []) es_nil rfl)).mono (by omega) fun _ z => z)).mono (by omega) fun _ z => z)).mono (by omega) fun ds ⟨x, xs, e, ex, y, ys, exs, ey, z, zs, eys, ⟨fs, g1, g2, ez⟩, ezs⟩ => ⟨fs, g1, g2, by rw [e, exs, eys, ex, ey, ez, ezs]⟩) fun ds ⟨fs, _, _, e⟩ => by rw [e]; simp).mono (Nat.le_refl _) fun d ⟨ds, ed, fs, g1, g2, e⟩ => ⟨.among wheel fs, ⟨hwheel, g1, g2⟩, by rw [ed, e]; rfl⟩))).mono (by omega) fun _ z => z
      | false =>
        rw [hb3] at w2
        rw [seq_nx (δ' := clS W hd way wheel (.val (codeD c)) .no .no .no) (by rw [if_f w2]; rfl)]
        have n0 : way ≠ 0 := by
          intro z
          rw [z] at hb1
          simp at hb1
        have n1 : way ≠ 1 := of_decide_eq_false hb2
        have n2 : way ≠ 2 := of_decide_eq_false hb3
        have e3 : way = 3 := by omega
        have l2 : 2 ≤ W.length := by
          subst e3
          simp at hb1
          omega
        have others : eLc [8] (gN 8) (xR (eF dLen (eV 1))) (eO dNe (eV 8) (eV 4)) (eW 8) (clS W hd way wheel (.val (codeD c)) .no .no .no) = pure (.lst (((List.range W.length).filter fun k => !decide (k = wheel)).map fun k => .int (k : Nat))) :=
          ev_lc (emb := fun k : Nat => D.int (k : Nat)) (xs := List.range W.length) (γ := fun k => clS W hd way wheel (.val (codeD c)) .no .no (.val (.int (k : Nat)))) (p := fun k => !decide (k = wheel)) (f := fun k => .int (k : Nat)) (sx_r len1 (by omega)) (fun k _ => rfl) (fun k _ => (o_eq (ev_v rfl) (ev_v rfl) (neB_int _ _)).trans (by congr 3; exact decide_eq_decide.mpr (by omega))) (fun k _ _ => ev_w rfl) (by simp; omega)
        have ne : (((List.range W.length).filter fun k => !decide (k = wheel)).map fun k => D.int (k : Nat)) ≠ [] := by
          intro z
          rw [List.map_eq_nil_iff, List.filter_eq_nil_iff] at z
          have a0 := z 0 (by rw [List.mem_range]; omega)
          have a1 := z 1 (by rw [List.mem_range]; omega)
          simp at a0 a1
          omega
        refine (yl_seq (n := 1) (j := 1) (P := fun δ => ∃ other : Nat, other < W.length ∧ other ≠ wheel ∧ δ = clS W hd way wheel (.val (codeD c)) (.val (.int other)) .no .no) (yl_asg (yl_call (n := 0) (j := 1) (P := fun ds => ds = [.gen, .lst (((List.range W.length).filter fun k => !decide (k = wheel)).map fun k => .int (k : Nat))]) (yl_eq (es_cons (ev_w rfl) (es_cons others es_nil)) rfl) fun ds e => by
          subst e
          exact pick_yl rfl ne (by rw [List.length_map]; exact Nat.le_trans (List.length_filter_le _ _) (by simp; omega))) fun d hd' => ?_) fun δ ⟨other, h1, h2, e⟩ => ?_).mono (by omega) fun _ z => z
        · rw [List.mem_map] at hd'
          obtain ⟨k, hk, rfl⟩ := hd'
          rw [List.mem_filter, List.mem_range] at hk
          exact ⟨_, rfl, k, hk.1, by simpa using hk.2, rfl⟩
        · subst e
          refine yl_ret ((yl_ife (n := 1) (j := 0) (Q := fun _ => True) ((yl_or (n := 0) (j := 1) (Q := fun _ => True) (R := fun _ => True) (yl_eq (o_eq (o_eq (ev_v rfl) (ev_v rfl) (ixD (by omega))) (o_eq (ev_v rfl) (ev_v rfl) (ixD (by omega))) (lt_ev _ _)) ⟨_, rfl, trivial⟩) (fun _ => trivial) fun _ => ?_).mono (by omega) fun _ z => z) (fun _ => ?_) (fun _ => ?_)).mono (by omega) fun _ z => z)
          · refine (yl_o (n := 1) (j := 0) (P := fun d => ∃ r : Nat, d = .int r ∧ r < 4) (Q := fun d => d = .int 0) (rand_yl (b := 4) (ev_w rfl) ev_k (by decide) (by decide)) (yl_eq ev_k rfl) fun x y ⟨r, ex, _⟩ ey => ?_).mono (by omega) fun _ z => z
            subst ex
            subst ey
            exact ⟨_, eqB_int _ _, _, rfl, trivial⟩
          · exact yl_eq (tup_eq (es_cons ev_k (es_cons (ev_w rfl) (es_cons (ev_w rfl) es_nil))) (by simp)) ⟨.less wheel other, ⟨hwheel, h1, fun z => h2 z.symm⟩, rfl⟩
          · exact yl_eq (tup_eq (es_cons ev_k (es_cons (ev_w rfl) (es_cons (ev_w rfl) es_nil))) (by simp)) ⟨.less other wheel, ⟨h1, hwheel, h2⟩, rfl⟩
end K78

/-! ## MXK78 -/
set_option autoImplicit false
set_option linter.all false
set_option maxRecDepth 100000
set_option maxHeartbeats 2000000
namespace K78
open PySem DL
local macro_rules | `(tactic| wtm_at "evt") => `(tactic| first | rfl | assumption | (simp only [*]; done) | (simp [*, isTy]; done) | (simp; done) | decide | omega)
local macro_rules | `(tactic| wtm_at "evb") => `(tactic| first | omega | (simp only [List.length_map, List.length_append, List.length_cons, List.length_nil, List.length_zip, List.length_zipIdx, List.length_range, List.length_reverse]; omega) | (simp; omega) | decide)
local macro_rules | `(tactic| wtm_at "evc") => `(tactic| ((with_reducible show _ = _); assumption))
local macro_rules | `(tactic| wtm_at "ev1") => `(tactic| first
  | with_reducible exact ev_k
  | ((with_reducible apply  ev_w); exact rfl)
  | ((with_reducible apply  ev_v); exact rfl)
  | ((with_reducible apply  ev_vo); exact rfl)
  | with_reducible exact es_nil
  | with_reducible exact ev_no
  | with_reducible exact ev_skip
  | with_reducible exact seqK_rt
  | with_reducible apply  es_cons
  | with_reducible apply  f_eq
  | with_reducible apply  o_eq
  | with_reducible apply  ev_lst
  | with_reducible apply  tup_eq
  | with_reducible apply  ev_and
  | with_reducible apply  ev_or
  | with_reducible apply  ev_ife
  | with_reducible apply  call_eq
  | with_reducible apply  ev_callK
  | with_reducible apply  ev_callD
  | with_reducible apply  ev_callDK
  | with_reducible apply  hI_eq
  | with_reducible apply  hU_eq
  | with_reducible apply  ev_cutN
  | with_reducible apply  ev_at
  | with_reducible apply  ev_lcA
  | with_reducible apply  ev_lc
  | with_reducible apply  sx_l
  | with_reducible apply  sx_vw
  | with_reducible apply  sx_enum
  | with_reducible apply  sx_zip
  | with_reducible apply  sx_zipS
  | with_reducible apply  sx_r
  | with_reducible apply  sx_r2
  | with_reducible apply  ev_seq
  | with_reducible apply  seqK_nx
  | with_reducible apply  ev_if
  | with_reducible apply  ev_ret
  | with_reducible apply  ev_do
  | with_reducible apply  ev_asg
  | with_reducible apply  ev_par
  | with_reducible apply  ev_thr
  | with_reducible apply  ev_dox_thr
  | ((with_reducible apply  ifK_t); (wtm_at "evt"))
  | ((with_reducible apply  ifK_f); (wtm_at "evt"))
  | exact eqB_int _ _ | exact neB_int _ _ | exact eqB_bl _ _ | exact neB_bl _ _ | exact eqB_str _ _ | exact neB_str _ _
  | exact lt_ev _ _ | exact le_ev _ _ | exact gt_ev _ _ | exact ge_ev _ _ | exact not_ev _ | exact neg_ev _ | exact addI_ev _ _ | exact subI_ev _ _
  | ((with_reducible show Row _ _ _); first | exact row_code _ | exact row_codes _ | exact row_map _ _ | exact row_bcode _ | exact row_bcodes _ | exact row_id _)
  | ((with_reducible show _ = List.map _ _); first | exact map_mapR _ _ | exact map_idR _)
  | ((with_reducible show dIsI _ _ = _); exact rfl) | ((with_reducible show dIsI2 _ _ _ = _); exact rfl) | ((with_reducible show dIsN _ = _); exact rfl) | ((with_reducible show dNotN _ = _); exact rfl)
  | ((with_reducible show dUw _ = _); first | exact uw_bcodes _ | exact uw_bcode _ | exact rfl)
  | exact hU_len _
  | ((with_reducible show D.imm _ = _); exact rfl)
  | exact allB_ev _ _ | exact anyB_ev _ _ | exact sumI_ev _ _ | exact sumC_ev _
  | exact len_ev _ | exact lenT_ev _ | exact cut_ev _ _ _ | exact list_ev _ | exact tuple_ev _ | exact rev_ev _
  | apply  addL_ev
  | wtm_at "evc"
  | ((with_reducible show _ = some _); exact rfl)
  | ((with_reducible show _ ≤ _); wtm_at "evb")
  | ((with_reducible show _ < _); wtm_at "evb")
  | ((with_reducible show (_ : Nat) = _); wtm_at "evb")
  | ((with_reducible show ∀ _, _ ∈ _ → _); intro _ _)
  | ((with_reducible show (_ : Bool) = _ → _); intro _))
local macro_rules | `(tactic| wtm_at "ev") => `(tactic| repeat' (wtm_at "ev1"))
theorem f2_cls {W : List (List Int)} : ∀ {xs : List Nat} {ds : List D}, F2 (fun (_ : Nat) d => ∃ k, GdC W k ∧ d = clD k) xs ds → ∃ ks : List Cl, ds = ks.map clD ∧ (∀ k ∈ ks, GdC W k) ∧ ks.length = xs.length
  | _, _, .nil => ⟨[], rfl, fun _ z => (by cases z), rfl⟩
  | _, _, .cons ⟨k, hk, e⟩ t => by
    obtain ⟨ks, rfl, q, l⟩ := f2_cls t
    subst e
    exact ⟨k :: ks, rfl, fun j hj => by rcases List.mem_cons.mp hj with rfl | hj; exact hk; exact q j hj, by simp [l]⟩
theorem clues_yl {W : List (List Int)} (h : Wh W) : Yl 260 (f_law_clues [.gen, codesD W, .int 5]) fun d => ∃ ks, (∀ k ∈ ks, GdC W k) ∧ ks.length ≤ 5 ∧ d = cluesD ks := by
  have hf := h.few
  unfold f_law_clues
  refine yl_fn rfl ?_
  refine (yl_seq (n := 4) (j := 250) (P := fun δ => ∃ c ∈ allC W, δ = [.val .gen, .val (codesD W), .val (.int 5), .val (codeD c), .no, .no]) (yl_asg ((picks_yl h (k := 4) (fun _ => rfl) rfl (fun fs => ⟨rfl, rfl⟩)).mono (by omega) fun _ z => z) fun d ⟨c, hc, e⟩ => ⟨_, by subst e; rfl, c, hc, rfl⟩) fun δ ⟨c, hc, e⟩ => ?_).mono (by omega) fun _ z => z
  subst e
  refine yl_ret ?_
  have src : Yl 1 (xR (eCall f_law_random (esC (eW 0) (esC (eO dAdd (eV 2) (eK (.int 1))) (esN)))) [.val .gen, .val (codesD W), .val (.int 5), .val (codeD c), .no, .no]) fun ds => ∃ r : Nat, r < 6 ∧ ds = (List.range r).map fun k => .int (k : Nat) := by
    refine (yl_bind (n := 1) (j := 0) (rand_yl (b := 6) (ev_w rfl) ((o_eq (ev_v rfl) ev_k (addI_ev _ _)).trans rfl) (by decide) (by decide)) fun d ⟨r, e, hr⟩ => ?_).mono (by omega) fun _ z => z
    subst e
    refine yl_eq (a := (List.range r).map fun k => D.int (k : Nat)) ?_ ⟨r, hr, rfl⟩
    show (if -1000000 < (r : Int) ∧ (r : Int) < 1000000 then pure ((List.range (r : Int).toNat).map fun k => D.int (k : Nat)) else stuck) = _
    rw [if_pos (by omega), Int.toNat_natCast]
  refine (yl_bind (n := 1) (j := 200) src fun ds ⟨r, hr, e⟩ => ?_).mono (by omega) fun _ z => z
  subst e
  have go := yl_lcGo (g := gN 5) (te := eCall f_law_clue (esC (eW 0) (esC (eW 1) (esC (eW 3) (esN))))) (δ := wipeD [.val .gen, .val (codesD W), .val (.int 5), .val (codeD c), .no, .no] [5]) (emb := fun k : Nat => D.int (k : Nat)) (γ := fun k => [.val .gen, .val (codesD W), .val (.int 5), .val (codeD c), .no, .val (.int (k : Nat))]) (P := fun _ d => ∃ k, GdC W k ∧ d = clD k) (n := 40) (xs := List.range r) (fun k _ => rfl) (fun k _ => (yl_call (n := 0) (j := 40) (P := fun ds => ds = [.gen, codesD W, codeD c]) (yl_eq (es_cons (ev_w rfl) (es_cons (ev_w rfl) (es_cons (ev_w rfl) es_nil))) rfl) fun ds e => by
    subst e
    exact clue_yl h hc).mono (by omega) fun _ z => z)
  refine (yl_bind (n := 200) (j := 0) (go.mono (by simp; omega) fun _ z => z) fun ds q => ?_).mono (by omega) fun _ z => z
  obtain ⟨ks, rfl, hk, l⟩ := f2_cls q
  rw [List.length_range] at l
  rw [if_pos (lim_ok (by rw [List.length_map]; omega))]
  exact yl_pure ⟨ks, hk, by omega, rfl⟩
/-! ### the values that are tried -/
end K78

/-! ## MUK78 -/
set_option autoImplicit false
set_option linter.all false
set_option maxRecDepth 100000
set_option maxHeartbeats 2000000
namespace K78
open PySem DL
theorem txt_all : ∀ k : Fin 101, (PyData.strOk (D.int (k.val : Int)).py.shown && decide ((D.int (k.val : Int)).py.shown.length ≤ 10)) = true := by decide +kernel
theorem txt_nat (k : Nat) {n : Nat} (h : n ≤ 100) : Txt k 10 (.int (n : Int)) := by
  have q := txt_all ⟨n, by omega⟩
  simp only [Bool.and_eq_true, decide_eq_true_eq] at q
  refine ⟨rqI k ?_, q.1, q.2⟩
  have := small_of (i := (n : Int)) (by omega)
  exact this
theorem txt_strL (k : Nat) (s : Str) (h : (PyData.strOk s && PyData.strOk (reprText s) && decide ((reprText s).length ≤ 10)) = true) : Txt k 10 (.str s) := txt_str k h
theorem txt_cl {W : List (List Int)} (h : Wh W) {k : Cl} (hk : GdC W k) : Txt 40 2000 (clD k) := by
  have up : ∀ (xs : List D), xs.length ≤ 4 → (∀ d ∈ xs, Txt 35 200 d) → Txt 40 2000 (.tup xs) := fun xs hl hx => (txt_tup hx).deep (by omega) (by decide)
  have ts : ∀ s : Str, (PyData.strOk s && PyData.strOk (reprText s) && decide ((reprText s).length ≤ 10)) = true → Txt 35 200 (.str s) := fun s hs => (txt_str 35 hs).deep (by decide) (Nat.le_refl _)
  have tn : ∀ n : Nat, n ≤ 100 → Txt 35 200 (.int (n : Int)) := fun n hn => (txt_nat 35 hn).deep (by decide) (Nat.le_refl _)
  have tc : ∀ c : List Int, (∀ i ∈ c, 0 ≤ i ∧ i < 10) → c.length ≤ 10 → Txt 35 200 (codeD c) := fun c hc hl => (txt_code 30 fun i hi => (by have := hc i hi; omega)).deep (by omega) (by decide)
  have hf := h.few
  cases k with
  | right d n =>
    refine up _ (by simp) fun e he => ?_
    simp only [List.mem_cons, List.mem_nil_iff, or_false] at he
    rcases he with rfl | rfl | rfl
    · exact ts _ (by decide +kernel)
    · exact tc d (h.digits hk.1) (by have := (allC_in W d hk.1).1; omega)
    · exact tn n hk.2
  | sum n =>
    refine up _ (by simp) fun e he => ?_
    simp only [List.mem_cons, List.mem_nil_iff, or_false] at he
    rcases he with rfl | rfl
    · exact ts _ (by decide +kernel)
    · exact tn n hk
  | among w fs =>
    refine up _ (by simp) fun e he => ?_
    simp only [List.mem_cons, List.mem_nil_iff, or_false] at he
    rcases he with rfl | rfl | rfl
    · exact ts _ (by decide +kernel)
    · exact tn w (by have := hk.1; omega)
    · exact tc fs hk.2.1.2.1 hk.2.2
  | less a b =>
    refine up _ (by simp) fun e he => ?_
    simp only [List.mem_cons, List.mem_nil_iff, or_false] at he
    rcases he with rfl | rfl | rfl
    · exact ts _ (by decide +kernel)
    · exact tn a (by have := hk.1; omega)
    · exact tn b (by have := hk.2.1; omega)
theorem txt_clues {W : List (List Int)} (h : Wh W) {ks : List Cl} (hk : ∀ k ∈ ks, GdC W k) (hl : ks.length ≤ 20) : Txt 50 100000 (cluesD ks) := by
  have := txt_lst (k := 40) (n := 2000) (xs := ks.map clD) fun d hd => by
    rw [List.mem_map] at hd
    obtain ⟨k, hk', rfl⟩ := hd
    exact txt_cl h (hk k hk')
  rw [List.length_map] at this
  exact this.deep (by omega) (by decide)
theorem txt_wheels {W : List (List Int)} (h : Wh W) : Txt 50 100000 (codesD W) := by
  have hf := h.few
  have := txt_lst (k := 30) (n := 4000) (xs := W.map codeD) fun d hd => by
    rw [List.mem_map] at hd
    obtain ⟨c, hc, rfl⟩ := hd
    exact (txt_code 29 fun i hi => (by have := (h.fs c hc).2.1 i hi; omega)).deep (by have := h.len hc; omega) (by decide)
  rw [List.length_map] at this
  exact this.deep (by omega) (by decide)
theorem txt_args {ds : List D} (h : ∀ d ∈ ds, Txt 50 100000 d) (hl : ds.length ≤ 3) : Txt 60 1000000 (.lst ds) := (txt_lst h).deep (by omega) (by decide)
end K78

/-! ## MYK78 -/
set_option autoImplicit false
set_option linter.all false
set_option maxRecDepth 100000
set_option maxHeartbeats 2000000
namespace K78
open PySem DL
local macro_rules | `(tactic| wtm_at "evt") => `(tactic| first | rfl | assumption | (simp only [*]; done) | (simp [*, isTy]; done) | (simp; done) | decide | omega)
local macro_rules | `(tactic| wtm_at "evb") => `(tactic| first | omega | (simp only [List.length_map, List.length_append, List.length_cons, List.length_nil, List.length_zip, List.length_zipIdx, List.length_range, List.length_reverse]; omega) | (simp; omega) | decide)
local macro_rules | `(tactic| wtm_at "evc") => `(tactic| ((with_reducible show _ = _); assumption))
local macro_rules | `(tactic| wtm_at "ev1") => `(tactic| first
  | with_reducible exact ev_k
  | ((with_reducible apply  ev_w); exact rfl)
  | ((with_reducible apply  ev_v); exact rfl)
  | ((with_reducible apply  ev_vo); exact rfl)
  | with_reducible exact es_nil
  | with_reducible exact ev_no
  | with_reducible exact ev_skip
  | with_reducible exact seqK_rt
  | with_reducible apply  es_cons
  | with_reducible apply  f_eq
  | with_reducible apply  o_eq
  | with_reducible apply  ev_lst
  | with_reducible apply  tup_eq
  | with_reducible apply  ev_and
  | with_reducible apply  ev_or
  | with_reducible apply  ev_ife
  | with_reducible apply  call_eq
  | with_reducible apply  ev_callK
  | with_reducible apply  ev_callD
  | with_reducible apply  ev_callDK
  | with_reducible apply  hI_eq
  | with_reducible apply  hU_eq
  | with_reducible apply  ev_cutN
  | with_reducible apply  ev_at
  | with_reducible apply  ev_lcA
  | with_reducible apply  ev_lc
  | with_reducible apply  sx_l
  | with_reducible apply  sx_vw
  | with_reducible apply  sx_enum
  | with_reducible apply  sx_zip
  | with_reducible apply  sx_zipS
  | with_reducible apply  sx_r
  | with_reducible apply  sx_r2
  | with_reducible apply  ev_seq
  | with_reducible apply  seqK_nx
  | with_reducible apply  ev_if
  | with_reducible apply  ev_ret
  | with_reducible apply  ev_do
  | with_reducible apply  ev_asg
  | with_reducible apply  ev_par
  | with_reducible apply  ev_thr
  | with_reducible apply  ev_dox_thr
  | ((with_reducible apply  ifK_t); (wtm_at "evt"))
  | ((with_reducible apply  ifK_f); (wtm_at "evt"))
  | exact eqB_int _ _ | exact neB_int _ _ | exact eqB_bl _ _ | exact neB_bl _ _ | exact eqB_str _ _ | exact neB_str _ _
  | exact lt_ev _ _ | exact le_ev _ _ | exact gt_ev _ _ | exact ge_ev _ _ | exact not_ev _ | exact neg_ev _ | exact addI_ev _ _ | exact subI_ev _ _
  | ((with_reducible show Row _ _ _); first | exact row_code _ | exact row_codes _ | exact row_map _ _ | exact row_bcode _ | exact row_bcodes _ | exact row_id _)
  | ((with_reducible show _ = List.map _ _); first | exact map_mapR _ _ | exact map_idR _)
  | ((with_reducible show dIsI _ _ = _); exact rfl) | ((with_reducible show dIsI2 _ _ _ = _); exact rfl) | ((with_reducible show dIsN _ = _); exact rfl) | ((with_reducible show dNotN _ = _); exact rfl)
  | ((with_reducible show dUw _ = _); first | exact uw_bcodes _ | exact uw_bcode _ | exact rfl)
  | exact hU_len _
  | ((with_reducible show D.imm _ = _); exact rfl)
  | exact allB_ev _ _ | exact anyB_ev _ _ | exact sumI_ev _ _ | exact sumC_ev _
  | exact len_ev _ | exact lenT_ev _ | exact cut_ev _ _ _ | exact list_ev _ | exact tuple_ev _ | exact rev_ev _
  | apply  addL_ev
  | wtm_at "evc"
  | ((with_reducible show _ = some _); exact rfl)
  | ((with_reducible show _ ≤ _); wtm_at "evb")
  | ((with_reducible show _ < _); wtm_at "evb")
  | ((with_reducible show (_ : Nat) = _); wtm_at "evb")
  | ((with_reducible show ∀ _, _ ∈ _ → _); intro _ _)
  | ((with_reducible show (_ : Bool) = _ → _); intro _))
local macro_rules | `(tactic| wtm_at "ev") => `(tactic| repeat' (wtm_at "ev1"))
theorem eqv_told (x s : Str) : PyData.eqv (D.lst [.lst [.str x], .str s]).py (D.lst [.lst [.str x], .str s]).py = true := by
  simp [D.py, pys, PyData.eqv, PyData.eqvAll]
theorem ne_told {x s : Str} (hx : PyData.strOk x = true) (hs : PyData.strOk s = true) : dNe (.lst [.lst [.str x], .str s]) (.lst [.lst [.str x], .str s]) = pure (.bl false) := by
  have c : (D.lst [.lst [.str x], .str s]).cl 60 = true := by
    show ([D.lst [.str x], .str s].all (D.cl 59)) = true
    simp [D.cl, hx, hs]
  show liftB ((if (D.lst [.lst [.str x], .str s]).cl 60 && (D.lst [.lst [.str x], .str s]).cl 60 then some (PyData.eqv (D.lst [.lst [.str x], .str s]).py (D.lst [.lst [.str x], .str s]).py) else none).map (!·)) = _
  rw [c, eqv_told]
  rfl
/-- a call that is refused as it should be: not told as one that is not -/
theorem told_ok {z x : Str} {Fs : List D → M D} {args : List D} {e : D} {fa fb : E} {δ : Dlt} {f3 : E} (hz : tab z = some Fs) (ha : args.length = 1 ∨ args.length = 2 ∨ args.length = 3) (hf : Fs args = pure (.thr x e)) (hx : x = "InvalidClues")
    (hp : ∀ d ∈ args, Txt 50 100000 d) (he : Txt 50 100000 e) (h1 : fa δ = pure (.fn z)) (h2 : fb δ = pure (.lst args)) (h3 : f3 δ = pure (.str e.py.shown)) (w : E) (hw : w = eK (.str x)) :
    eO dNe (eCall f_law_caught (esC fa (esC fb (esN)))) (eLst (esC (eLst (esC w (esN))) (esC f3 (esN)))) δ = pure (.bl false) := by
  have hx' : PyData.strOk x = true := by subst hx; decide +kernel
  subst hw
  exact o_eq (call_eq (es_cons h1 (es_cons h2 es_nil)) (caught_eq hz ha hf hx (txt_args hp (by omega)) (by decide) (he.deep (Nat.le_refl _) (by decide)) (by decide))) (lst_eq (xs := [.lst [.str x], .str e.py.shown]) (es_cons (lst_eq (xs := [.str x]) (es_cons ev_k es_nil) (by simp)) (es_cons h3 es_nil)) (by simp)) (ne_told hx' he.ok)
theorem lc_none {vs : List Nat} {g : G} {src : Es} {tt te : E} {δ : Dlt} {ds : List D} {γ : D → Dlt} (hs : src δ = pure ds) (h1 : ∀ x ∈ ds, g x (wipeD δ vs) = some (γ x)) (h2 : ∀ x ∈ ds, tt (γ x) = pure (.bl false)) (hl : ds.length ≤ 1000000) : eLc vs g src tt te δ = pure (.lst []) := by
  have := eLc_map (vs := vs) (g := g) (src := src) (tt := tt) (te := te) (δ := δ) (emb := fun d : D => d) (γ := γ) (p := fun _ => false) (f := fun d => d) (xs := ds) (by rw [hs, List.map_id']) h1 h2 (fun _ _ z => by cases z) hl
  rw [this]
  have e : ds.filter (fun _ => false) = [] := by simp
  rw [e]
  rfl

/-! ### values that are no wheels -/
structure Bad (d : D) : Prop where
  a : f_are_wheels [d] = pure (.bl false)
  t : Txt 50 100000 d
theorem txt_fig {W : List (List Int)} (h : Wh W) {c : List Int} (hc : c ∈ W) : Txt 40 4000 (codeD c) := (txt_code 29 fun i hi => (by have := (h.fs c hc).2.1 i hi; omega)).deep (by have := h.len hc; omega) (by decide)
theorem bad_app {W : List (List Int)} (h : Wh W) {P Q : List (List Int)} {x : D} (hP : ∀ c ∈ P, c ∈ W) (hQ : ∀ c ∈ Q, c ∈ W) (lP : P.length ≤ 4) (lQ : Q.length ≤ 4) (hx : f_are_figures [x] = pure (.bl false)) (cx : x.cl 59 = true) (tx : Txt 40 4000 x) : Bad (.lst (P.map codeD ++ [x] ++ Q.map codeD)) := by
  have gd : ∀ c ∈ W, f_are_figures [codeD c] = pure (.bl true) ∧ (codeD c).cl 59 = true := fun c hc => ⟨are_figures_eq (h.fs c hc).1 (h.fs c hc).2.1 (h.fs c hc).2.2 (Nat.le_trans (h.len hc) (by decide)), cl_code (n := 58) (h.small c hc)⟩
  constructor
  · have := are_gen (es := P.map (fun c => (codeD c, true)) ++ [(x, false)] ++ Q.map (fun c => (codeD c, true))) (fun e he => by
      rw [List.mem_append, List.mem_append, List.mem_map, List.mem_map, List.mem_singleton] at he
      rcases he with (⟨c, hc, rfl⟩ | rfl) | ⟨c, hc, rfl⟩
      · exact gd c (hP c hc)
      · exact ⟨hx, cx⟩
      · exact gd c (hQ c hc)) (by simp; omega)
    rw [List.map_append, List.map_append, List.map_map, List.map_map] at this
    refine Eq.trans this ?_
    simp
  · have := txt_lst (k := 40) (n := 4000) (xs := P.map codeD ++ [x] ++ Q.map codeD) fun d hd => by
      rw [List.mem_append, List.mem_append, List.mem_map, List.mem_map, List.mem_singleton] at hd
      rcases hd with (⟨c, hc, rfl⟩ | rfl) | ⟨c, hc, rfl⟩
      · exact txt_fig h (hP c hc)
      · exact tx
      · exact txt_fig h (hQ c hc)
    simp only [List.length_append, List.length_map, List.length_cons, List.length_nil] at this
    exact this.deep (by omega) (by decide)
def badL (W : List (List Int)) : List D := [.non, .lst [], .tup [], .dct [], .str "wheels", .tup (W.map codeD), .lst (W.map codeD ++ [.lst []]), .lst (W.map codeD ++ [.non]), .lst (W.map codeD ++ [.tup [.int 1, .int 2]]), .lst (W.map codeD ++ [codeD [2, 1]]), .lst (W.map codeD ++ [codeD [1, 1]]), .lst (W.map codeD ++ [codeD [10]]), .lst (W.map codeD ++ [codeD [0 - 1]]),
  .lst (W.map codeD ++ [.lst [.bl true]]), .lst (W.map codeD ++ [.lst [.str "1"]]), .lst [.int 3], .lst ([.lst [.non]] ++ W.map codeD)] ++ [.lst ((cut W none (some (-1))).map codeD ++ [codeD [1, 2, 10]]), .lst ([codeD [0, 9, 5]] ++ W.map codeD), .lst (W.map codeD ++ [.lst [.int 0, .non]])]
theorem no_wheels_eq {W : List (List Int)} (h : Wh W) : f_law_no_wheels [codesD W] = pure (.lst (badL W)) := by
  have hf := h.few
  have l1 := cut_len W none (some (-1))
  unfold f_law_no_wheels
  apply ev_to
  · wtm_at "ev"
    rw [cut_map]
    simp
    omega
  · rfl
  · rw [cut_map]
    rfl
theorem fig_str : f_are_figures [.lst [.str "1"]] = pure (.bl false) := by
  have t1 : eF dNot (eF (fun d => dIsI d "list") (eV 0)) (startD 2 [.lst [.str "1"]]) = pure (.bl false) := f_eq (f_eq (ev_v rfl) rfl) rfl
  have t2 : eO dEq (eV 0) (eLst (esN)) (startD 2 [.lst [.str "1"]]) = pure (.bl false) := o_eq (ev_v rfl) (lst_eq (xs := []) es_nil (by simp)) ((eqNil_ev (by decide +kernel)).trans (by simp))
  have t3 : eF dNot (eF dAll (eLc [1] (gN 1) (xL (eW 0)) (eK (.bl true)) (eAnd (eCall f_is_count (esC (eW 1) (esN))) (eO dLt (eV 1) (eK (.int 10)))))) (startD 2 [.lst [.str "1"]]) = pure (.bl true) := rfl
  unfold f_are_figures
  refine fn_rt rfl (seq_rt ?_)
  rw [if_t]
  · rfl
  · rw [or_f t1, or_f t2]
    exact t3
theorem bad_all {W : List (List Int)} (h : Wh W) : ∀ d ∈ badL W, Bad d := by
  have hf := h.few
  have ti : ∀ {i : Int}, -1 ≤ i ∧ i ≤ 10 → Txt 30 10 (.int i) := fun h => txt_int 30 h
  have e1 : ∀ {x : D}, f_are_figures [x] = pure (.bl false) → x.cl 59 = true → Txt 40 4000 x → Bad (.lst (W.map codeD ++ [x])) := fun {x} h1 h2 h3 => by
    have := bad_app h (P := W) (Q := []) (fun c hc => hc) (fun c hc => by cases hc) hf (by simp) h1 h2 h3
    simpa using this
  have e2 : ∀ {x : D}, f_are_figures [x] = pure (.bl false) → x.cl 59 = true → Txt 40 4000 x → Bad (.lst ([x] ++ W.map codeD)) := fun {x} h1 h2 h3 => by
    have := bad_app h (P := []) (Q := W) (fun c hc => by cases hc) (fun c hc => hc) (by simp) hf h1 h2 h3
    simpa using this
  have tc : ∀ {c : List Int}, (∀ i ∈ c, -1 ≤ i ∧ i ≤ 10) → c.length ≤ 5 → Txt 40 4000 (codeD c) := fun {c} hc hl => (txt_code 30 hc).deep (by omega) (by decide)
  have tl : ∀ {xs : List D}, (∀ d ∈ xs, Txt 30 10 d) → xs.length ≤ 5 → Txt 40 4000 (.lst xs) := fun {xs} hx hl => (txt_lst hx).deep (by omega) (by decide)
  intro d hd
  simp only [badL, List.mem_append, List.mem_cons, List.mem_nil_iff, or_false] at hd
  rcases hd with (rfl | rfl | rfl | rfl | rfl | rfl | rfl | rfl | rfl | rfl | rfl | rfl | rfl | rfl | rfl | rfl | rfl) | rfl | rfl | rfl
  · exact ⟨rfl, (txt_non 50).deep (by decide) (Nat.le_refl _)⟩
  · exact ⟨rfl, (txt_lst (k := 30) (n := 10) fun d hd => by cases hd).deep (by decide) (by decide)⟩
  · exact ⟨rfl, (txt_tup (k := 30) (n := 10) fun d hd => by cases hd).deep (by decide) (by decide)⟩
  · exact ⟨rfl, (txt_dct 50).deep (by decide) (Nat.le_refl _)⟩
  · exact ⟨rfl, (txt_str 50 (by decide +kernel)).deep (by decide) (Nat.le_refl _)⟩
  · refine ⟨rfl, ?_⟩
    have := txt_tup (k := 40) (n := 4000) (xs := W.map codeD) fun d hd => by
      rw [List.mem_map] at hd
      obtain ⟨c, hc, rfl⟩ := hd
      exact txt_fig h hc
    rw [List.length_map] at this
    exact this.deep (by omega) (by decide)
  · exact e1 rfl rfl (tl (fun d hd => by cases hd) (by simp))
  · exact e1 rfl rfl ((txt_non 40).deep (by decide) (Nat.le_refl _))
  · exact e1 rfl rfl ((txt_tup (k := 30) (n := 10) (xs := [.int 1, .int 2]) fun d hd => by simp at hd; rcases hd with rfl | rfl <;> exact ti (by decide)).deep (by simp) (by decide))
  · exact e1 rfl rfl (tc (by decide) (by decide))
  · exact e1 rfl rfl (tc (by decide) (by decide))
  · exact e1 rfl rfl (tc (by decide) (by decide))
  · exact e1 rfl rfl (tc (by decide) (by decide))
  · exact e1 rfl rfl (tl (fun d hd => by simp at hd; subst hd; exact txt_bl 30 _) (by simp))
  · exact e1 fig_str (by decide +kernel) (tl (fun d hd => by simp at hd; subst hd; exact txt_str 30 (by decide +kernel)) (by simp))
  · exact ⟨rfl, (txt_lst (k := 30) (n := 10) (xs := [.int 3]) fun d hd => by simp at hd; subst hd; exact ti (by decide)).deep (by simp) (by decide)⟩
  · exact e2 rfl rfl (tl (fun d hd => by simp at hd; subst hd; exact txt_non 30) (by simp))
  · have := bad_app h (P := cut W none (some (-1))) (Q := []) (x := codeD [1, 2, 10]) (fun c hc => cut_mem hc) (fun c hc => by cases hc) (Nat.le_trans (cut_len _ _ _) hf) (by simp) rfl rfl (tc (by decide) (by decide))
    simpa using this
  · exact e2 rfl rfl (tc (by decide) (by decide))
  · exact e1 rfl rfl (tl (fun d hd => by simp at hd; rcases hd with rfl | rfl; exact ti (by decide); exact txt_non 30) (by simp))
end K78

/-! ## P1K78 -/
set_option autoImplicit false
set_option linter.all false
set_option maxRecDepth 100000
set_option maxHeartbeats 2000000
namespace K78
open PySem DL
local macro_rules | `(tactic| wtm_at "evt") => `(tactic| first | rfl | assumption | (simp only [*]; done) | (simp [*, isTy]; done) | (simp; done) | decide | omega)
local macro_rules | `(tactic| wtm_at "evb") => `(tactic| first | omega | (simp only [List.length_map, List.length_append, List.length_cons, List.length_nil, List.length_zip, List.length_zipIdx, List.length_range, List.length_reverse]; omega) | (simp; omega) | decide)
local macro_rules | `(tactic| wtm_at "evc") => `(tactic| ((with_reducible show _ = _); assumption))
local macro_rules | `(tactic| wtm_at "ev1") => `(tactic| first
  | with_reducible exact ev_k
  | ((with_reducible apply  ev_w); exact rfl)
  | ((with_reducible apply  ev_v); exact rfl)
  | ((with_reducible apply  ev_vo); exact rfl)
  | with_reducible exact es_nil
  | with_reducible exact ev_no
  | with_reducible exact ev_skip
  | with_reducible exact seqK_rt
  | with_reducible apply  es_cons
  | with_reducible apply  f_eq
  | with_reducible apply  o_eq
  | with_reducible apply  ev_lst
  | with_reducible apply  tup_eq
  | with_reducible apply  ev_and
  | with_reducible apply  ev_or
  | with_reducible apply  ev_ife
  | with_reducible apply  call_eq
  | with_reducible apply  ev_callK
  | with_reducible apply  ev_callD
  | with_reducible apply  ev_callDK
  | with_reducible apply  hI_eq
  | with_reducible apply  hU_eq
  | with_reducible apply  ev_cutN
  | with_reducible apply  ev_at
  | with_reducible apply  ev_lcA
  | with_reducible apply  ev_lc
  | with_reducible apply  sx_l
  | with_reducible apply  sx_vw
  | with_reducible apply  sx_enum
  | with_reducible apply  sx_zip
  | with_reducible apply  sx_zipS
  | with_reducible apply  sx_r
  | with_reducible apply  sx_r2
  | with_reducible apply  ev_seq
  | with_reducible apply  seqK_nx
  | with_reducible apply  ev_if
  | with_reducible apply  ev_ret
  | with_reducible apply  ev_do
  | with_reducible apply  ev_asg
  | with_reducible apply  ev_par
  | with_reducible apply  ev_thr
  | with_reducible apply  ev_dox_thr
  | ((with_reducible apply  ifK_t); (wtm_at "evt"))
  | ((with_reducible apply  ifK_f); (wtm_at "evt"))
  | exact eqB_int _ _ | exact neB_int _ _ | exact eqB_bl _ _ | exact neB_bl _ _ | exact eqB_str _ _ | exact neB_str _ _
  | exact lt_ev _ _ | exact le_ev _ _ | exact gt_ev _ _ | exact ge_ev _ _ | exact not_ev _ | exact addI_ev _ _ | exact subI_ev _ _
  | ((with_reducible show Row _ _ _); first | exact row_code _ | exact row_codes _ | exact row_map _ _ | exact row_bcode _ | exact row_bcodes _ | exact row_id _)
  | ((with_reducible show _ = List.map _ _); first | exact map_mapR _ _ | exact map_idR _)
  | ((with_reducible show dIsI _ _ = _); exact rfl) | ((with_reducible show dIsI2 _ _ _ = _); exact rfl) | ((with_reducible show dIsN _ = _); exact rfl) | ((with_reducible show dNotN _ = _); exact rfl)
  | ((with_reducible show dUw _ = _); first | exact uw_bcodes _ | exact uw_bcode _ | exact rfl)
  | exact hU_len _
  | ((with_reducible show D.imm _ = _); exact rfl)
  | exact allB_ev _ _ | exact anyB_ev _ _ | exact sumI_ev _ _ | exact sumC_ev _
  | exact len_ev _ | exact lenT_ev _ | exact cut_ev _ _ _ | exact list_ev _ | exact tuple_ev _ | exact rev_ev _
  | apply  addL_ev
  | wtm_at "evc"
  | ((with_reducible show _ = some _); exact rfl)
  | ((with_reducible show _ ≤ _); wtm_at "evb")
  | ((with_reducible show _ < _); wtm_at "evb")
  | ((with_reducible show (_ : Nat) = _); wtm_at "evb")
  | ((with_reducible show ∀ _, _ ∈ _ → _); intro _ _)
  | ((with_reducible show (_ : Bool) = _ → _); intro _))
local macro_rules | `(tactic| wtm_at "ev") => `(tactic| repeat' (wtm_at "ev1"))
/-! ### positions -/
def stI (c : List Int) : Int := if c = [] then 0 else c.getLast?.getD 0 + 1
def nxI (n : Nat) (c : List Int) : List (List Int) := (List.range ((n : Int) - stI c).toNat).map fun k => c ++ [stI c + (k : Nat)]
def posI (n : Nat) : Nat → List (List Int)
  | 0 => [[]]
  | s + 1 => (posI n s).flatMap (nxI n)
def subL : Nat → List (List Int)
  | 0 => [[]]
  | n + 1 => subL n ++ (subL n).map fun c => c ++ [(n : Int)]
def byP (n : Nat) : List (List Int) := (List.range (n + 1)).flatMap (posI n)
def posFine (n s : Nat) : Bool := decide ((posI n s).length ≤ 20) && (posI n s).all fun c => decide (c.length = s) && c.all fun i => decide (0 ≤ i) && decide (i < n) && decide (i < 7)
theorem pos_fine : ∀ n ∈ List.range 7, ∀ s ∈ List.range 8, posFine n s = true := by decide +kernel
theorem pos_len {n s : Nat} (hn : n ≤ 6) (hs : s ≤ 7) : (posI n s).length ≤ 20 := by
  have := pos_fine n (List.mem_range.mpr (by omega)) s (List.mem_range.mpr (by omega))
  unfold posFine at this
  rw [Bool.and_eq_true] at this
  exact of_decide_eq_true this.1
theorem pos_in {n s : Nat} (hn : n ≤ 6) (hs : s ≤ 7) {c : List Int} (hc : c ∈ posI n s) : c.length = s ∧ ∀ i ∈ c, 0 ≤ i ∧ i < n ∧ i < 7 := by
  have := pos_fine n (List.mem_range.mpr (by omega)) s (List.mem_range.mpr (by omega))
  unfold posFine at this
  rw [Bool.and_eq_true] at this
  have h := List.all_eq_true.mp this.2 c hc
  rw [Bool.and_eq_true] at h
  refine ⟨of_decide_eq_true h.1, fun i hi => ?_⟩
  have := List.all_eq_true.mp h.2 i hi
  simp only [Bool.and_eq_true, decide_eq_true_eq] at this
  exact ⟨this.1.1, this.1.2, this.2⟩
theorem pos_small {n s : Nat} (hn : n ≤ 6) (hs : s ≤ 7) {c : List Int} (hc : c ∈ posI n s) : ∀ i ∈ c, smallI i := fun i hi => by
  have := (pos_in hn hs hc).2 i hi
  exact small_of (by omega)
theorem ix_last {c : List Int} (h : c ≠ []) : dIx (codeD c) (.int (-1)) = pure (.int (c.getLast?.getD 0)) := by
  have hl : 0 < c.length := List.length_pos_iff.mpr h
  show (match (place (c.map D.int).length (-1)).bind fun j => (c.map D.int)[j]? with | some v => (pure v : M D) | none => stuck) = _
  have e : place (c.map D.int).length (-1) = some (c.length - 1) := by
    unfold place
    rw [List.length_map, if_neg (by omega), if_pos (by omega)]
    congr 1
    omega
  rw [e]
  show (match (c.map D.int)[c.length - 1]? with | some v => (pure v : M D) | none => stuck) = _
  rw [List.getElem?_map, List.getLast?_eq_getElem?, List.getElem?_eq_getElem (by omega)]
  rfl
theorem last_in {c : List Int} (h : c ≠ []) : c.getLast?.getD 0 ∈ c := by
  rw [List.getLast?_eq_some_getLast h]
  exact List.getLast_mem h
def pS (n s : Nat) (cs : List (List Int)) (x3 x4 x5 : Sl) : Dlt := [.val (.int (n : Nat)), .val (.int (s : Nat)), .val (codesD cs), x3, x4, x5]
theorem pos_turn {n s t : Nat} (hn : n ≤ 6) (ht : t ≤ 6) (x3 x4 x5 : Sl) : sAsg (gN 2) (eLc2 [4, 5] [5] (gN 4) (xL (eW 2)) (eK (.bl true)) (gN 5) (xR2 (eIf (eO dNe (eV 4) (eLst (esN))) (eO dAdd (eO dIx (eV 4) (eF dNeg (eK (.int 1)))) (eK (.int 1))) (eK (.int 0))) (eV 0)) (eK (.bl true)) (eO dAdd (eV 4) (eLst (esC (eW 5) (esN))))) (pS n s (posI n t) x3 x4 x5) = pure (.nx (pS n s (posI n (t + 1)) x3 x4 x5)) := by
  have src : ∀ c ∈ posI n t, xR2 (eIf (eO dNe (eV 4) (eLst (esN))) (eO dAdd (eO dIx (eV 4) (eF dNeg (eK (.int 1)))) (eK (.int 1))) (eK (.int 0))) (eV 0) (pS n s (posI n t) x3 (.val (codeD c)) .no) = pure ((List.range ((n : Int) - stI c).toNat).map fun k => D.int (stI c + (k : Nat))) := fun c hc => by
    have hi := pos_in hn (by omega) hc
    have nn : eO dNe (eV 4) (eLst (esN)) (pS n s (posI n t) x3 (.val (codeD c)) .no) = pure (.bl (!decide (c.map D.int = []))) := o_eq (ev_v rfl) (lst_eq es_nil (by simp)) (neNil_ev (by
      rw [List.all_map]
      refine List.all_eq_true.mpr fun i h => ?_
      have q := pos_small hn (by omega) hc i h
      unfold smallI at q
      simpa [D.cl] using q))
    refine sx_r2 (i := stI c) (j := (n : Nat)) ?_ (ev_v rfl) ?_ (by omega)
    · by_cases h0 : c = []
      · subst h0
        refine (ife_f nn).trans ?_
        rfl
      · refine (ife_t (nn.trans (by simp [h0]))).trans ?_
        refine (o_eq (o_eq (ev_v rfl) (f_eq ev_k (neg_ev 1)) (ix_last h0)) ev_k (addI_ev _ _)).trans ?_
        unfold stI
        rw [if_neg h0]
    · unfold stI
      split
      · omega
      · rename_i h0
        have := hi.2 _ (last_in h0)
        omega
  have inn : ∀ c ∈ posI n t, lcGo (gN 5) (eK (.bl true)) (eO dAdd (eV 4) (eLst (esC (eW 5) esN))) (pS n s (posI n t) x3 (.val (codeD c)) .no) ((List.range ((n : Int) - stI c).toNat).map fun k => D.int (stI c + (k : Nat))) = pure ((nxI n c).map codeD) := fun c hc => by
    have hi := pos_in hn (by omega) hc
    have q := lcGo_map (g := gN 5) (tt := eK (.bl true)) (te := eO dAdd (eV 4) (eLst (esC (eW 5) esN))) (δ := pS n s (posI n t) x3 (.val (codeD c)) .no) (emb := fun k : Nat => D.int (stI c + (k : Nat))) (γ := fun k => pS n s (posI n t) x3 (.val (codeD c)) (.val (.int (stI c + (k : Nat)))))
      (p := fun _ => true) (f := fun k => codeD (c ++ [stI c + (k : Nat)])) (xs := List.range ((n : Int) - stI c).toNat) (fun _ _ => rfl) (fun _ _ => rfl) (fun k _ _ => by
        refine (o_eq (ev_v rfl) (lst_eq (xs := [.int (stI c + (k : Nat))]) (es_cons (ev_w rfl) es_nil) (by simp)) (cat_eq (by simp; omega))).trans ?_
        simp [codeD])
    rw [List.filter_eq_self.mpr (fun _ _ => rfl)] at q
    rw [q]
    unfold nxI
    rw [List.map_map]
    rfl
  have outer := lc2_map (g := gN 4) (tt := eK (.bl true)) (δ := wipeD (pS n s (posI n t) x3 x4 x5) [4, 5]) (in1 := fun δ' => xR2 (eIf (eO dNe (eV 4) (eLst (esN))) (eO dAdd (eO dIx (eV 4) (eF dNeg (eK (.int 1)))) (eK (.int 1))) (eK (.int 0))) (eV 0) δ' >>= fun zs => lcGo (gN 5) (eK (.bl true)) (eO dAdd (eV 4) (eLst (esC (eW 5) esN))) (wipeD δ' [5]) zs) (emb := codeD)
    (γ := fun c => pS n s (posI n t) x3 (.val (codeD c)) .no) (f := fun c => (nxI n c).map codeD) (β := D) (xs := posI n t) (fun c _ => rfl) (fun c _ => rfl) (fun c hc => by
      show (xR2 _ _ _ >>= _) = _
      rw [src c hc, pure_bind]
      exact inn c hc)
  have ee : (posI n t).flatMap (fun c => (nxI n c).map codeD) = (posI n (t + 1)).map codeD := by
    show _ = ((posI n t).flatMap (nxI n)).map codeD
    rw [List.map_flatMap]
  have l1 := pos_len (n := n) (s := t + 1) hn (by omega)
  refine asg_nx (d := codesD (posI n (t + 1))) ?_ rfl
  unfold eLc2
  rw [show xL (eW 2) (pS n s (posI n t) x3 x4 x5) = pure ((posI n t).map codeD) from rfl, pure_bind, outer, pure_bind, ee, if_pos (lim_ok (by rw [List.length_map]; omega))]
  rfl
theorem pos_eq {n s : Nat} (hn : n ≤ 6) (hs : s ≤ 7) : f_positions_of_size [.int (n : Nat), .int (s : Nat)] = pure (codesD (posI n s)) := by
  have loop := forGo_pre (g := gN 3) (s := sAsg (gN 2) (eLc2 [4, 5] [5] (gN 4) (xL (eW 2)) (eK (.bl true)) (gN 5) (xR2 (eIf (eO dNe (eV 4) (eLst (esN))) (eO dAdd (eO dIx (eV 4) (eF dNeg (eK (.int 1)))) (eK (.int 1))) (eK (.int 0))) (eV 0)) (eK (.bl true)) (eO dAdd (eV 4) (eLst (esC (eW 5) (esN)))))) (emb := fun k : Nat => D.int (k : Nat))
    (I := fun p δ => ∃ x3 x4 x5, δ = pS n s (posI n p.length) x3 x4 x5) (xs := List.range s) (pre := []) (δ := pS n s (posI n 0) .no .no .no) ⟨_, _, _, rfl⟩ (fun p x q δ e ⟨x3, x4, x5, eδ⟩ => by
      subst eδ
      have := congrArg List.length e
      simp at this
      exact ⟨pS n s (posI n p.length) (.val (.int (x : Nat))) x4 x5, _, rfl, pos_turn hn (by omega) _ _ _, _, _, _, by rw [List.length_append]; rfl⟩)
  obtain ⟨δ', h1, x3, x4, x5, h2⟩ := loop
  rw [List.nil_append, List.length_range] at h2
  unfold f_positions_of_size
  refine fn_rt rfl ?_
  have s0 : sAsg (gN 2) (eLst (esC (eLst esN) esN)) (startD 6 [.int (n : Nat), .int (s : Nat)]) = pure (.nx (pS n s (posI n 0) .no .no .no)) := asg_nx (lst_eq (es_cons (lst_eq es_nil (by simp)) es_nil) (by simp)) rfl
  rw [seq_nx s0, seq_nx (for_nx (sx_r (ev_v rfl) (by omega)) h1), h2]
  exact ret_rt (ev_w rfl)
/-! ### in order -/
def pairD (c : List Int) : D := .tup [.int (c.length : Nat), codeD c]
def ltP (c d : List Int) : Bool := if c.length = d.length then (if c = d then false else ltC c d) else decide (c.length < d.length)
theorem lt_pair (c d : List Int) : PySem.W.dataLt (pairD c).py (pairD d).py = ltP c d := by
  show PySem.W.dataLt (.tuple [(D.int (c.length : Nat)).py, (codeD c).py]) (.tuple [(D.int (d.length : Nat)).py, (codeD d).py]) = _
  rw [PySem.W.dataLt_pair (by rfl) (by show PySem.W.alike (.list _) (.list _) = true; simp only [PySem.W.alike]; exact alike_code c d), eqv_int, lt_int, lt_code]
  have e : PyData.eqv (codeD c).py (codeD d).py = decide (c = d) := by
    show PyData.eqv (.list _) (.list _) = _
    simp only [PyData.eqv]
    exact eqv_code c d
  rw [e]
  unfold ltP
  by_cases h : c.length = d.length
  · rw [h]
    simp
  · have h2 : ¬ (c.length : Int) = d.length := by omega
    simp [h, h2]
theorem leP_anti {c d : List Int} (h1 : leD (pairD c) (pairD d) = true) (h2 : leD (pairD d) (pairD c) = true) : c = d := by
  unfold leD at h1 h2
  rw [lt_pair] at h1 h2
  unfold ltP at h1 h2
  by_cases h : c.length = d.length
  · rw [if_pos h.symm] at h1
    rw [if_pos h] at h2
    by_cases e : c = d
    · exact e
    · rw [if_neg (fun z => e z.symm)] at h1
      rw [if_neg e] at h2
      exact ltC_anti c d h1 h2
  · rw [if_neg (fun z => h z.symm)] at h1
    rw [if_neg h] at h2
    simp at h1 h2
    omega
theorem by_perm : ∀ n ∈ List.range 7, (byP n).isPerm (subL n) = true := by decide +kernel
def rises : List (List Int) → Bool
  | [] => true
  | c :: r => r.all (fun d => !ltP d c) && rises r
theorem rises_pw : ∀ {l : List (List Int)}, rises l = true → (l.map pairD).Pairwise fun a b => leD a b = true
  | [], _ => .nil
  | c :: r, h => by
    unfold rises at h
    rw [Bool.and_eq_true] at h
    refine List.pairwise_cons.mpr ⟨fun b hb => ?_, rises_pw h.2⟩
    obtain ⟨d, hd, rfl⟩ := List.mem_map.mp hb
    unfold leD
    rw [lt_pair]
    exact List.all_eq_true.mp h.1 d hd
theorem by_rises : ∀ n ∈ List.range 7, rises (byP n) = true := by decide +kernel
theorem sub_fine : ∀ n ∈ List.range 7, (decide ((subL n).length ≤ 64) && (subL n).all fun c => decide (c.length ≤ n) && c.all fun i => decide (0 ≤ i) && decide (i < 7)) = true := by decide +kernel
theorem sub_len {n : Nat} (hn : n ≤ 6) : (subL n).length ≤ 64 := by
  have := sub_fine n (List.mem_range.mpr (by omega))
  rw [Bool.and_eq_true] at this
  exact of_decide_eq_true this.1
theorem sub_in {n : Nat} (hn : n ≤ 6) {c : List Int} (hc : c ∈ subL n) : c.length ≤ n ∧ ∀ i ∈ c, 0 ≤ i ∧ i < 7 := by
  have := sub_fine n (List.mem_range.mpr (by omega))
  rw [Bool.and_eq_true] at this
  have h := List.all_eq_true.mp this.2 c hc
  rw [Bool.and_eq_true] at h
  refine ⟨of_decide_eq_true h.1, fun i hi => ?_⟩
  have := List.all_eq_true.mp h.2 i hi
  simpa using this
theorem sorted_pairs {n : Nat} (hn : n ≤ 6) : dSorted (.lst ((subL n).map pairD)) = pure (.lst ((byP n).map pairD)) := by
  have sm : ∀ c ∈ subL n, ∀ i ∈ c, smallI i := fun c hc i hi => by
    have := (sub_in hn hc).2 i hi
    exact small_of (by omega)
  have hs : sortableB ((subL n).map pairD) = true := by
    unfold sortableB
    rw [Bool.and_eq_true, Bool.and_eq_true, Bool.or_eq_true]
    refine ⟨⟨?_, ?_⟩, .inl ?_⟩
    · rw [List.all_map, List.all_eq_true]
      intro c hc
      show ([D.int (c.length : Nat), codeD c].all (D.cl 59)) = true
      have q := small_of (i := (c.length : Nat)) (by have := (sub_in hn hc).1; omega)
      unfold smallI at q
      have q2 := cl_code (n := 58) (sm c hc)
      simp only [List.all_cons, List.all_nil, Bool.and_true, q2]
      simpa [D.cl] using q
    · rw [List.all_map, List.all_eq_true]
      intro a _
      show (((subL n).map pairD).all _) = true
      rw [List.all_map, List.all_eq_true]
      intro b _
      show PySem.W.alike (.tuple [.int _, (codeD a).py]) (.tuple [.int _, (codeD b).py]) = true
      have := alike_code a b
      simp only [PySem.W.alike, PySem.W.alikeAll, Bool.and_true, Bool.true_and]
      exact this
    · rw [List.all_map, List.all_eq_true]
      exact fun _ _ => rfl
  show (if sortableB ((subL n).map pairD) then pure (D.lst (((subL n).map pairD).mergeSort leD)) else stuck) = _
  rw [if_pos hs]
  have e : ((subL n).map pairD).mergeSort leD = (byP n).map pairD := by
    have pm : ((byP n).map pairD).Perm ((subL n).map pairD) := (List.isPerm_iff.mp (by_perm n (List.mem_range.mpr (by omega)))).map _
    have p1 := (List.mergeSort_perm ((subL n).map pairD) leD)
    refine List.Perm.eq_of_pairwise (le := fun a b => leD a b = true) (fun a b ha hb h1 h2 => ?_) (List.pairwise_mergeSort (fun a b c => leD_trans a b c) (fun a b => leD_total a b) _) (rises_pw (by_rises n (List.mem_range.mpr (by omega)))) (p1.trans pm.symm)
    obtain ⟨c, _, rfl⟩ := List.mem_map.mp (p1.mem_iff.mp ha)
    obtain ⟨d, _, rfl⟩ := List.mem_map.mp hb
    rw [leP_anti h1 h2]
  rw [e]
def lS (n : Nat) (cs : List (List Int)) (x2 x3 x4 : Sl) : Dlt := [.val (.int (n : Nat)), .val (codesD cs), x2, x3, x4]
theorem lists_eq {n : Nat} (hn : n ≤ 6) : f_law_lists [.int (n : Nat)] = pure (codesD (byP n)) := by
  have loop := forGo_pre (g := gN 2) (s := sAsg (gN 1) (eO dAdd (eV 1) (eLc [3] (gN 3) (xL (eW 1)) (eK (.bl true)) (eO dAdd (eV 3) (eLst (esC (eW 2) (esN))))))) (emb := fun k : Nat => D.int (k : Nat))
    (I := fun p δ => p = List.range p.length ∧ ∃ x2 x3 x4, δ = lS n (subL p.length) x2 x3 x4) (xs := List.range n) (pre := []) (δ := lS n (subL 0) .no .no .no) ⟨rfl, _, _, _, rfl⟩ (fun p x q δ e ⟨ep, x2, x3, x4, eδ⟩ => by
      subst eδ
      have hl := congrArg List.length e
      simp at hl
      have hx : x = p.length := by
        have h1 : (List.range n)[p.length]? = some x := by
          rw [List.nil_append] at e
          rw [e]; simp
        rw [List.getElem?_range (by omega)] at h1
        exact (Option.some.inj h1).symm
      subst hx
      refine ⟨lS n (subL p.length) (.val (.int (p.length : Nat))) x3 x4, lS n (subL (p.length + 1)) (.val (.int (p.length : Nat))) x3 x4, rfl, ?_, ?_, _, _, _, by rw [List.length_append]; rfl⟩
      · have l1 := sub_len (n := p.length) (by omega)
        refine asg_nx (d := codesD (subL (p.length + 1))) ?_ rfl
        refine (o_eq (ev_v rfl) (eLc_all (emb := codeD) (xs := subL p.length) (γ := fun c => lS n (subL p.length) (.val (.int (p.length : Nat))) (.val (codeD c)) x4) (f := fun c => codeD (c ++ [(p.length : Int)])) rfl (fun _ _ => rfl) (fun c hc => ?_) (by omega)) (cat_eq (by simp; omega))).trans ?_
        · refine (o_eq (ev_v rfl) (lst_eq (xs := [.int (p.length : Nat)]) (es_cons (ev_w rfl) es_nil) (by simp)) (cat_eq (by have := (sub_in (n := p.length) (by omega) hc).1; simp; omega))).trans ?_
          simp [codeD]
        · unfold codesD
          rw [subL, List.map_append, List.map_map]
          rfl
      · rw [List.length_append, List.length_singleton, List.range_succ, ← ep])
  obtain ⟨δ', h1, _, x2, x3, x4, h2⟩ := loop
  rw [List.nil_append, List.length_range] at h2
  have l1 := sub_len hn
  have l2 : (byP n).length ≤ 64 := by
    rw [(List.isPerm_iff.mp (by_perm n (List.mem_range.mpr (by omega)))).length_eq]
    exact l1
  unfold f_law_lists
  refine fn_rt rfl ?_
  have s0 : sAsg (gN 1) (eLst (esC (eLst esN) esN)) (startD 5 [.int (n : Nat)]) = pure (.nx (lS n (subL 0) .no .no .no)) := asg_nx (lst_eq (es_cons (lst_eq es_nil (by simp)) es_nil) (by simp)) rfl
  rw [seq_nx s0, seq_nx (for_nx (sx_r (ev_v rfl) (by omega)) h1), h2]
  refine ret_rt ?_
  refine (eLc_all (emb := pairD) (xs := byP n) (γ := fun c => lS n (subL n) x2 (.val (codeD c)) (.val (.int (c.length : Nat)))) (f := codeD) ?_ (fun _ _ => rfl) (fun c _ => ev_w rfl) (by omega)).trans rfl
  refine xL_eq (f_eq (x := .lst ((subL n).map pairD)) ?_ (sorted_pairs hn))
  refine eLc_all (emb := codeD) (xs := subL n) (γ := fun c => lS n (subL n) x2 (.val (codeD c)) x4) (f := pairD) rfl (fun _ _ => rfl) (fun c _ => ?_) (by omega)
  refine (tup_eq (xs := [.int (c.length : Nat), codeD c]) (es_cons (f_eq (ev_v rfl) ((len_ev _).trans (by rw [List.length_map]))) (es_cons (ev_w rfl) es_nil)) (by simp)).trans rfl
end K78

/-! ## P2K78 -/
set_option autoImplicit false
set_option linter.all false
set_option maxRecDepth 100000
set_option maxHeartbeats 2000000
namespace K78
open PySem DL
local macro_rules | `(tactic| wtm_at "evt") => `(tactic| first | rfl | assumption | (simp only [*]; done) | (simp [*, isTy]; done) | (simp; done) | decide | omega)
local macro_rules | `(tactic| wtm_at "evb") => `(tactic| first | omega | (simp only [List.length_map, List.length_append, List.length_cons, List.length_nil, List.length_zip, List.length_zipIdx, List.length_range, List.length_reverse]; omega) | (simp; omega) | decide)
local macro_rules | `(tactic| wtm_at "evc") => `(tactic| ((with_reducible show _ = _); assumption))
local macro_rules | `(tactic| wtm_at "ev1") => `(tactic| first
  | with_reducible exact ev_k
  | ((with_reducible apply  ev_w); exact rfl)
  | ((with_reducible apply  ev_v); exact rfl)
  | ((with_reducible apply  ev_vo); exact rfl)
  | with_reducible exact es_nil
  | with_reducible exact ev_no
  | with_reducible exact ev_skip
  | with_reducible exact seqK_rt
  | with_reducible apply  es_cons
  | with_reducible apply  f_eq
  | with_reducible apply  o_eq
  | with_reducible apply  ev_lst
  | with_reducible apply  tup_eq
  | with_reducible apply  ev_and
  | with_reducible apply  ev_or
  | with_reducible apply  ev_ife
  | with_reducible apply  call_eq
  | with_reducible apply  ev_callK
  | with_reducible apply  ev_callD
  | with_reducible apply  ev_callDK
  | with_reducible apply  hI_eq
  | with_reducible apply  hU_eq
  | with_reducible apply  ev_cutN
  | with_reducible apply  ev_at
  | with_reducible apply  ev_lcA
  | with_reducible apply  ev_lc
  | with_reducible apply  sx_l
  | with_reducible apply  sx_vw
  | with_reducible apply  sx_enum
  | with_reducible apply  sx_zip
  | with_reducible apply  sx_zipS
  | with_reducible apply  sx_r
  | with_reducible apply  sx_r2
  | with_reducible apply  ev_seq
  | with_reducible apply  seqK_nx
  | with_reducible apply  ev_if
  | with_reducible apply  ev_ret
  | with_reducible apply  ev_do
  | with_reducible apply  ev_asg
  | with_reducible apply  ev_par
  | with_reducible apply  ev_thr
  | with_reducible apply  ev_dox_thr
  | ((with_reducible apply  ifK_t); (wtm_at "evt"))
  | ((with_reducible apply  ifK_f); (wtm_at "evt"))
  | exact eqB_int _ _ | exact neB_int _ _ | exact eqB_bl _ _ | exact neB_bl _ _ | exact eqB_str _ _ | exact neB_str _ _
  | exact lt_ev _ _ | exact le_ev _ _ | exact gt_ev _ _ | exact ge_ev _ _ | exact not_ev _ | exact addI_ev _ _ | exact subI_ev _ _
  | ((with_reducible show Row _ _ _); first | exact row_code _ | exact row_codes _ | exact row_map _ _ | exact row_bcode _ | exact row_bcodes _ | exact row_id _)
  | ((with_reducible show _ = List.map _ _); first | exact map_mapR _ _ | exact map_idR _)
  | ((with_reducible show dIsI _ _ = _); exact rfl) | ((with_reducible show dIsI2 _ _ _ = _); exact rfl) | ((with_reducible show dIsN _ = _); exact rfl) | ((with_reducible show dNotN _ = _); exact rfl)
  | ((with_reducible show dUw _ = _); first | exact uw_bcodes _ | exact uw_bcode _ | exact rfl)
  | exact hU_len _
  | ((with_reducible show D.imm _ = _); exact rfl)
  | exact allB_ev _ _ | exact anyB_ev _ _ | exact sumI_ev _ _ | exact sumC_ev _
  | exact len_ev _ | exact lenT_ev _ | exact cut_ev _ _ _ | exact list_ev _ | exact tuple_ev _ | exact rev_ev _
  | apply  addL_ev
  | wtm_at "evc"
  | ((with_reducible show _ = some _); exact rfl)
  | ((with_reducible show _ ≤ _); wtm_at "evb")
  | ((with_reducible show _ < _); wtm_at "evb")
  | ((with_reducible show (_ : Nat) = _); wtm_at "evb")
  | ((with_reducible show ∀ _, _ ∈ _ → _); intro _ _)
  | ((with_reducible show (_ : Bool) = _ → _); intro _))
local macro_rules | `(tactic| wtm_at "ev") => `(tactic| repeat' (wtm_at "ev1"))
/-! ### the plain law -/
def subK (ks : List Cl) (c : List Int) : List Cl := c.map fun i => ks.getD i.toNat (.sum 0)
def without (ks : List Cl) (i : Nat) : List Cl := ks.take i ++ ks.drop (i + 1)
def EE (W : List (List Int)) (ks : List Cl) (c : List Int) : Bool := decide (left W (subK ks c) = left W ks)
def ndI (W : List (List Int)) (ks : List Cl) : List Int := ((List.range ks.length).filter fun i => decide (left W (without ks i) = left W ks)).map fun i : Nat => (i : Int)
def enI (W : List (List Int)) (ks : List Cl) : List (List Int) := (byP ks.length).filter (EE W ks)
def duI (W : List (List Int)) (ks : List Cl) : List (List Int) := (enI W ks).filter fun c => decide (c.length = ((enI W ks).headD []).length)
def firstNE : List (List (List Int)) → List (List Int)
  | [] => []
  | x :: r => if x = [] then firstNE r else x
def lsI (W : List (List Int)) (ks : List Cl) : List (List Int) := firstNE ((List.range (ks.length + 1)).map fun s => (posI ks.length s).filter (EE W ks))
theorem first_eq (A : Nat → List (List Int)) : ∀ (L : List Nat), L.Nodup → (∀ s ∈ L, ∀ c ∈ A s, c.length = s) → L.flatMap A ≠ [] → firstNE (L.map A) = (L.flatMap A).filter (fun c => decide (c.length = ((L.flatMap A).headD []).length)) ∧ firstNE (L.map A) ≠ []
  | [], _, _, h => absurd rfl h
  | s :: L, hn, hl, h => by
    obtain ⟨n1, n2⟩ := List.nodup_cons.mp hn
    rw [List.map_cons, List.flatMap_cons] at *
    unfold firstNE
    by_cases e : A s = []
    · rw [if_pos e]
      rw [e, List.nil_append] at h ⊢
      exact first_eq A L n2 (fun t ht => hl t (List.mem_cons_of_mem _ ht)) h
    · rw [if_neg e]
      refine ⟨?_, e⟩
      have hd : ((A s ++ L.flatMap A).headD []).length = s := by
        cases h0 : A s with
        | nil => exact absurd h0 e
        | cons c r => exact hl s List.mem_cons_self c (by rw [h0]; exact List.mem_cons_self)
      rw [hd, List.filter_append]
      have e1 : (A s).filter (fun c => decide (c.length = s)) = A s := List.filter_eq_self.mpr fun c hc => decide_eq_true (hl s List.mem_cons_self c hc)
      have e2 : (L.flatMap A).filter (fun c => decide (c.length = s)) = [] := by
        rw [List.filter_eq_nil_iff]
        intro c hc
        obtain ⟨t, ht, hc⟩ := List.mem_flatMap.mp hc
        have := hl t (List.mem_cons_of_mem _ ht) c hc
        have ne : t ≠ s := fun z => n1 (z ▸ ht)
        simp
        omega
      rw [e1, e2, List.append_nil]
def idI (n : Nat) : List Int := (List.range n).map fun i : Nat => (i : Int)
theorem id_pos : ∀ n ∈ List.range 7, decide (idI n ∈ posI n n) = true := by decide +kernel
theorem sub_id (ks : List Cl) : subK ks (idI ks.length) = ks := by
  unfold subK idI
  rw [List.map_map]
  refine List.ext_getElem (by simp) fun i h1 h2 => ?_
  simp [List.getD_eq_getElem?_getD, h2]
theorem en_flat (W : List (List Int)) (ks : List Cl) : enI W ks = (List.range (ks.length + 1)).flatMap fun s => (posI ks.length s).filter (EE W ks) := by
  unfold enI byP
  rw [List.filter_flatMap]
theorem en_ne {W : List (List Int)} {ks : List Cl} (hl : ks.length ≤ 6) : enI W ks ≠ [] := by
  have h := of_decide_eq_true (id_pos ks.length (List.mem_range.mpr (by omega)))
  intro z
  have m : idI ks.length ∈ enI W ks := List.mem_filter.mpr ⟨List.mem_flatMap.mpr ⟨ks.length, List.mem_range.mpr (by omega), h⟩, decide_eq_true (by rw [sub_id])⟩
  rw [z] at m
  cases m
theorem ls_eq {W : List (List Int)} {ks : List Cl} (hl : ks.length ≤ 6) : lsI W ks = duI W ks ∧ lsI W ks ≠ [] := by
  have q := first_eq (fun s => (posI ks.length s).filter (EE W ks)) (List.range (ks.length + 1)) List.nodup_range (fun s hs c hc => (pos_in hl (by have := List.mem_range.mp hs; omega) (List.mem_filter.mp hc).1).1) (by rw [← en_flat]; exact en_ne hl)
  rw [← en_flat] at q
  exact q
theorem du_ne {W : List (List Int)} {ks : List Cl} (hl : ks.length ≤ 6) : duI W ks ≠ [] := by
  rw [← (ls_eq hl).1]; exact (ls_eq hl).2
theorem by_in {n : Nat} (hn : n ≤ 6) {c : List Int} (hc : c ∈ byP n) : c.length ≤ 6 ∧ ∀ i ∈ c, 0 ≤ i ∧ i < n ∧ i < 7 := by
  obtain ⟨s, hs, hc⟩ := List.mem_flatMap.mp hc
  have := List.mem_range.mp hs
  obtain ⟨h1, h2⟩ := pos_in hn (by omega) hc
  exact ⟨by omega, h2⟩
theorem by_len {n : Nat} (hn : n ≤ 6) : (byP n).length ≤ 64 := by
  rw [(List.isPerm_iff.mp (by_perm n (List.mem_range.mpr (by omega)))).length_eq]
  exact sub_len hn
theorem du_in {W : List (List Int)} {ks : List Cl} {c : List Int} (hc : c ∈ duI W ks) : c ∈ byP ks.length ∧ left W (subK ks c) = left W ks := by
  have h1 := List.mem_filter.mp (List.mem_filter.mp hc).1
  exact ⟨h1.1, of_decide_eq_true h1.2⟩
theorem sub_mem {ks : List Cl} {c : List Int} (hc : ∀ i ∈ c, 0 ≤ i ∧ i < ks.length) {k : Cl} (hk : k ∈ subK ks c) : k ∈ ks := by
  obtain ⟨i, hi, rfl⟩ := List.mem_map.mp hk
  obtain ⟨h1, h2⟩ := hc i hi
  have : i.toNat < ks.length := by omega
  rw [List.getD_eq_getElem?_getD, List.getElem?_eq_getElem this]
  exact List.getElem_mem _
theorem without_mem {ks : List Cl} {i j : Nat} (hj : j < ks.length) (ne : j ≠ i) : ks.getD j (.sum 0) ∈ without ks i := by
  rw [List.getD_eq_getElem?_getD, List.getElem?_eq_getElem hj]
  unfold without
  rw [List.mem_append]
  by_cases h : j < i
  · exact .inl (List.mem_take_iff_getElem.mpr ⟨j, by omega, rfl⟩)
  · refine .inr (List.mem_drop_iff_getElem.mpr ⟨j - (i + 1), by omega, ?_⟩)
    simp only [Option.getD_some]
    congr 1
    omega
theorem without_sub {ks : List Cl} {i : Nat} {k : Cl} (h : k ∈ without ks i) : k ∈ ks := by
  rcases List.mem_append.mp h with h | h
  · exact List.mem_of_mem_take h
  · exact List.mem_of_mem_drop h
/-- each position is needless, or stands in a least list -/
theorem cover {W : List (List Int)} {ks : List Cl} (hl : ks.length ≤ 6) {i : Nat} (hi : i < ks.length) : (i : Int) ∈ (duI W ks).flatten ∨ (i : Int) ∈ ndI W ks := by
  by_cases hf : (i : Int) ∈ (duI W ks).flatten
  · exact .inl hf
  · refine .inr (List.mem_map.mpr ⟨i, List.mem_filter.mpr ⟨List.mem_range.mpr hi, decide_eq_true ?_⟩, rfl⟩)
    cases hd : duI W ks with
    | nil => exact absurd hd (du_ne hl)
    | cons c r =>
      have hc : c ∈ duI W ks := by rw [hd]; exact List.mem_cons_self
      have ni : (i : Int) ∉ c := fun z => hf (List.mem_flatten.mpr ⟨c, hc, z⟩)
      obtain ⟨b1, b2⟩ := du_in hc
      have bi := (by_in hl b1).2
      unfold left
      refine List.filter_congr fun x hx => ?_
      rw [Bool.eq_iff_iff, List.all_eq_true, List.all_eq_true]
      constructor
      · intro h
        have m : x ∈ left W (subK ks c) := List.mem_filter.mpr ⟨hx, List.all_eq_true.mpr fun k hk => by
          obtain ⟨j, hj, rfl⟩ := List.mem_map.mp hk
          have := bi j hj
          exact h _ (without_mem (by omega) fun z => ni (by rw [show (i : Int) = j by omega]; exact hj))⟩
        rw [b2] at m
        exact List.all_eq_true.mp (List.mem_filter.mp m).2
      · exact fun h k hk => h k (without_sub hk)
/-! ### of what stands, or is read alone -/
structure Vw (W : List (List Int)) (ks : List Cl) (w d : D) (em : List Int → D) (ek : Cl → D) : Prop where
  hrow : rowOf w = pure (W.map em)
  hem : ∀ c : List Int, rowOf (em c) = pure (c.map .int)
  hw : w.un = codesD W
  hd : dUw d = pure (.lst (ks.map ek))
  hu : ∀ k, (ek k).un = clD k
  hdu : d.un = cluesD ks
  hr : Row d ek ks
theorem vw_p (W : List (List Int)) (ks : List Cl) : Vw W ks (codesD W) (cluesD ks) codeD clD := ⟨rfl, fun _ => rfl, un_codes W, rfl, un_cl, un_clues ks, row_map _ _⟩
theorem map_wrapc (ks : List Cl) : (ks.map clD).map wrapB = ks.map fun k => D.bor (clD k) := by
  rw [List.map_map]
  exact List.map_congr_left fun k _ => by cases k <;> rfl
theorem vw_b (W : List (List Int)) (ks : List Cl) : Vw W ks (.bor (codesD W)) (.bor (cluesD ks)) (fun c => .bor (codeD c)) (fun k => .bor (clD k)) := ⟨row_bcodes W, fun c => row_bcode c, un_bcodes W, (by show pure (D.lst ((ks.map clD).map wrapB)) = _; rw [map_wrapc]), un_cl, un_bclues ks, row_bclues ks⟩
theorem cutA {α : Type} {f : α → D} {xs : List α} {a b : E} {δ : Dlt} {k : Nat} (ha : a δ = pure (.lst (xs.map f))) (hb : b δ = pure (.int (k : Nat))) : eCut a eNo (eAt b) δ = pure (.lst ((xs.take k).map f)) := by
  refine (ev_cutN ha ev_no (ev_at hb) (cut_ev _ _ _)).trans ?_
  rw [cut_take, List.map_take]
theorem cut_drop {α : Type} (xs : List α) {n : Nat} (h : n ≤ xs.length) : cut xs (some (n : Int)) none = xs.drop n := by
  unfold cut cutEnd
  simp only
  rw [if_neg (by omega), Int.toNat_natCast, Nat.min_eq_left h, List.take_of_length_le (by simp)]
theorem cutB {α : Type} {f : α → D} {xs : List α} {a b : E} {δ : Dlt} {k : Nat} (hk : k ≤ xs.length) (ha : a δ = pure (.lst (xs.map f))) (hb : b δ = pure (.int (k : Nat))) : eCut a (eAt b) eNo δ = pure (.lst ((xs.drop k).map f)) := by
  refine (ev_cutN ha (ev_at hb) ev_no (cut_ev _ _ _)).trans ?_
  rw [cut_drop _ (by rw [List.length_map]; exact hk), List.map_drop]
theorem uwI {e : E} {δ : Dlt} {i : Int} (h : e δ = pure (.int i)) : eF dUw e δ = pure (.int i) := f_eq h rfl
theorem uw_lst (xs : List D) : dUw (.lst xs) = pure (.lst xs) := rfl
theorem succ_ev {e : E} {k : Nat} {δ : Dlt} (h : e δ = pure (.int (k : Nat))) : eO dAdd e (eK (.int 1)) δ = pure (.int ((k + 1 : Nat) : Int)) := (o_eq h ev_k (addI_ev _ _)).trans (by simp)
section
variable {W : List (List Int)} {ks : List Cl} {w d : D} {em : List Int → D} {ek : Cl → D}
theorem left_small (h : Wh W) (ks : List Cl) : ∀ c ∈ left W ks, ∀ i ∈ c, smallI i := fun c hc i hi => digit_small (h.digits (left_in hc) i hi)
theorem eq_left (h : Wh W) (a b : List Cl) : hI dEq (codesD (left W a)) (codesD (left W b)) = pure (.bl (decide (left W a = left W b))) :=
  hI_eq (by rw [un_codes, un_codes]; show liftB (dEqB _ _) = _; rw [eqB_codes (left_small h a) (left_small h b)]; rfl) rfl
theorem eq_leftP (h : Wh W) (a b : List Cl) : dEq (codesD (left W a)) (codesD (left W b)) = pure (.bl (decide (left W a = left W b))) := by
  show liftB (dEqB _ _) = _
  rw [eqB_codes (left_small h a) (left_small h b)]
  rfl
theorem without_len {i : Nat} (hl : ks.length ≤ 6) : (without ks i).length ≤ 6 := by
  unfold without
  rw [List.length_append, List.length_take, List.length_drop]
  omega
theorem need_eq (h : Wh W) (hk : ∀ k ∈ ks, GdC W k) (hl : ks.length ≤ 6) (v : Vw W ks w d em ek) : f_needless_clues [w, d] = pure (codeD (ndI W ks)) := by
  have lb : f_left_by_clues [w, d] = pure (codesD (left W ks)) := left_by_gen h hk (by omega) v.hrow v.hem v.hr v.hu
  unfold f_needless_clues
  refine fn_rt rfl ?_
  rw [seq_nx (do_nx (ev_callD (es_cons (ev_w rfl) (es_cons (ev_w rfl) es_nil)) (d := .non) (by rw [uns, uns, uns, v.hw, v.hdu]; exact check_clues_eq h hk (by omega)) rfl))]
  rw [seq_nx (δ' := [.val w, .val d, .val (codesD (left W ks)), .no]) (asg_nx (call_eq (es_cons (ev_w rfl) (es_cons (ev_w rfl) es_nil)) lb) rfl)]
  refine ret_rt ?_
  refine Eq.trans (ev_lc (emb := fun k : Nat => D.int (k : Nat)) (xs := List.range ks.length) (γ := fun k => [.val w, .val d, .val (codesD (left W ks)), .val (.int (k : Nat))]) (p := fun i => decide (left W (without ks i) = left W ks)) (f := fun k => D.int (k : Nat)) (sx_r (n := ks.length) (f_eq (f_eq (x := .lst (ks.map ek)) (f_eq (ev_w rfl) v.hd) ((hU_len _).trans (by rw [List.length_map]))) rfl) (by omega)) (fun _ _ => rfl) (fun i hi => ?_) (fun i _ _ => ev_w (i := 3) rfl) (by simp; omega)) ?_
  · have hi' := List.mem_range.mp hi
    have wk : ∀ k ∈ without ks i, GdC W k := fun k q => hk k (without_sub q)
    have wl := without_len (ks := ks) (i := i) hl
    refine o_eq (x := codesD (left W (without ks i))) (y := codesD (left W ks)) (f_eq (call_eq (xs := [w, .lst ((without ks i).map ek)]) (es_cons (ev_w rfl) (es_cons ?_ es_nil)) (left_by_gen h wk (by omega) v.hrow v.hem (row_map _ _) v.hu)) rfl) (f_eq (ev_w rfl) rfl) (eq_left h _ _)
    refine (o_eq (f_eq (cutA (f_eq (ev_w rfl) v.hd) (uwI (ev_w rfl))) (uw_lst _)) (f_eq (cutB (k := i + 1) (by omega) (f_eq (ev_w rfl) v.hd) (succ_ev (uwI (ev_w rfl)))) (uw_lst _)) (cat_eq (by simp; omega))).trans ?_
    rw [← List.map_append]
    rfl
  · unfold ndI codeD
    rw [List.map_map]
    rfl
def lsS (w d : D) (L : List (List Int)) (x3 x4 x5 x6 x7 : Sl) : Dlt := [.val w, .val d, .val (codesD L), x3, x4, x5, x6, x7]
def bLs : S := (sSeq (sAsg (gN 4) (eCall f_positions_of_size (esC (eF (hU dLen) (eF dUw (eW 1))) (esC (eW 3) (esN))))) (sSeq (sAsg (gN 5) (eLc [6] (gN 6) (xL (eW 4)) (eO (hI dEq) (eF dUw (eCall f_left_by_clues (esC (eW 0) (esC (eLc [7] (gN 7) (xL (eW 6)) (eK (.bl true)) (eO dIx (eF dUw (eW 1)) (eF dUw (eW 7)))) (esN))))) (eF dUw (eW 2))) (eW 6))) (sIf (eO (hI dNe) (eF dUw (eW 5)) (eLst (esN))) (sRet (eW 5)) (sSkip))))
theorem sub_good (hk : ∀ k ∈ ks, GdC W k) {c : List Int} (hc : ∀ i ∈ c, 0 ≤ i ∧ i < ks.length) : ∀ k ∈ subK ks c, GdC W k := fun k q => hk k (sub_mem hc q)
theorem nxNil {L : List (List Int)} (hL : ∀ c ∈ L, ∀ i ∈ c, smallI i) : hI dNe (codesD L) (.lst []) = pure (.bl (!decide (L = []))) := by
  refine hI_eq ?_ rfl
  rw [un_codes]
  refine (neNil_ev (xs := L.map codeD) ?_).trans ?_
  · rw [List.all_map]
    exact List.all_eq_true.mpr fun c hc => cl_code (n := 58) (hL c hc)
  · congr 3
    rw [decide_eq_decide]
    simp
theorem ix_ek {c : List Int} {i : Int} (ks : List Cl) (ek : Cl → D) (h : 0 ≤ i ∧ i < ks.length) : dIx (.lst (ks.map ek)) (.int i) = pure (ek (ks.getD i.toNat (.sum 0))) := by
  have e : i = (i.toNat : Int) := by omega
  rw [e]
  have hl : i.toNat < ks.length := by omega
  rw [ix_map hl, List.getD_eq_getElem?_getD, Int.toNat_natCast, List.getElem?_eq_getElem hl]
  rfl
theorem ls_turn (h : Wh W) (hk : ∀ k ∈ ks, GdC W k) (hl : ks.length ≤ 6) (v : Vw W ks w d em ek) {s : Nat} (hs : s ≤ ks.length) (x4 x5 x6 x7 : Sl) :
    bLs (lsS w d (left W ks) (.val (.int (s : Nat))) x4 x5 x6 x7) = if (posI ks.length s).filter (EE W ks) = [] then pure (.nx (lsS w d (left W ks) (.val (.int (s : Nat))) (.val (codesD (posI ks.length s))) (.val (codesD [])) x6 x7)) else pure (.rt (codesD ((posI ks.length s).filter (EE W ks)))) := by
  have l1 := pos_len (n := ks.length) (s := s) hl (by omega)
  have ln : eF (hU dLen) (eF dUw (eW 1)) (lsS w d (left W ks) (.val (.int (s : Nat))) x4 x5 x6 x7) = pure (.int (ks.length : Nat)) := f_eq (x := .lst (ks.map ek)) (f_eq (ev_w rfl) v.hd) ((hU_len _).trans (by rw [List.length_map]))
  have e2 : eLc [6] (gN 6) (xL (eW 4)) (eO (hI dEq) (eF dUw (eCall f_left_by_clues (esC (eW 0) (esC (eLc [7] (gN 7) (xL (eW 6)) (eK (.bl true)) (eO dIx (eF dUw (eW 1)) (eF dUw (eW 7)))) (esN))))) (eF dUw (eW 2))) (eW 6) (lsS w d (left W ks) (.val (.int (s : Nat))) (.val (codesD (posI ks.length s))) x5 x6 x7) = pure (codesD ((posI ks.length s).filter (EE W ks))) := by
    refine (ev_lc (emb := codeD) (xs := posI ks.length s) (γ := fun c => lsS w d (left W ks) (.val (.int (s : Nat))) (.val (codesD (posI ks.length s))) x5 (.val (codeD c)) x7) (p := EE W ks) (f := codeD) (sx_l (ev_w rfl) (row_codes _)) (fun _ _ => rfl) (fun c hc => ?_) (fun c _ _ => ev_w rfl) (by omega)).trans rfl
    have hi := pos_in hl (by omega) hc
    have hi2 : ∀ i ∈ c, 0 ≤ i ∧ i < ks.length := fun i q => by have := hi.2 i q; omega
    refine o_eq (x := codesD (left W (subK ks c))) (y := codesD (left W ks)) (f_eq (call_eq (xs := [w, .lst ((subK ks c).map ek)]) (es_cons (ev_w rfl) (es_cons ?_ es_nil)) (left_by_gen h (sub_good hk hi2) (by unfold subK; rw [List.length_map]; omega) v.hrow v.hem (row_map _ _) v.hu)) rfl) (f_eq (ev_w rfl) rfl) (eq_left h _ _)
    refine (ev_lcA (emb := D.int) (xs := c) (γ := fun i => lsS w d (left W ks) (.val (.int (s : Nat))) (.val (codesD (posI ks.length s))) x5 (.val (codeD c)) (.val (.int i))) (f := fun i => ek (ks.getD i.toNat (.sum 0))) (sx_l (ev_w rfl) (row_code _)) (fun _ _ => rfl) (fun i hi' => o_eq (f_eq (ev_w rfl) v.hd) (uwI (ev_w rfl)) (ix_ek (c := c) ks ek (hi2 i hi'))) (by omega)).trans ?_
    unfold subK
    rw [List.map_map]
    rfl
  have sm : ∀ c ∈ (posI ks.length s).filter (EE W ks), ∀ i ∈ c, smallI i := fun c hc => pos_small hl (by omega) (List.mem_filter.mp hc).1
  unfold bLs
  rw [seq_nx (δ' := lsS w d (left W ks) (.val (.int (s : Nat))) (.val (codesD (posI ks.length s))) x5 x6 x7) (asg_nx (call_eq (es_cons ln (es_cons (ev_w rfl) es_nil)) (pos_eq hl (by omega))) rfl)]
  rw [seq_nx (δ' := lsS w d (left W ks) (.val (.int (s : Nat))) (.val (codesD (posI ks.length s))) (.val (codesD ((posI ks.length s).filter (EE W ks)))) x6 x7) (asg_nx e2 rfl)]
  have t : eO (hI dNe) (eF dUw (eW 5)) (eLst (esN)) (lsS w d (left W ks) (.val (.int (s : Nat))) (.val (codesD (posI ks.length s))) (.val (codesD ((posI ks.length s).filter (EE W ks)))) x6 x7) = pure (.bl (!decide ((posI ks.length s).filter (EE W ks) = []))) := o_eq (f_eq (ev_w rfl) rfl) (lst_eq es_nil (by simp)) (nxNil sm)
  by_cases hz : (posI ks.length s).filter (EE W ks) = []
  · rw [if_pos hz]
    rw [hz] at t ⊢
    rw [if_f t]
    rfl
  · rw [if_neg hz]
    rw [if_t (t.trans (by simp [hz]))]
    exact ret_rt (ev_w rfl)
theorem ls_go (h : Wh W) (hk : ∀ k ∈ ks, GdC W k) (hl : ks.length ≤ 6) (v : Vw W ks w d em ek) : ∀ (L : List Nat), (∀ s ∈ L, s ≤ ks.length) → firstNE (L.map fun s => (posI ks.length s).filter (EE W ks)) ≠ [] → ∀ x3 x4 x5 x6 x7 : Sl,
    forGo (gN 3) bLs (L.map fun s => D.int (s : Nat)) (lsS w d (left W ks) x3 x4 x5 x6 x7) = pure (.rt (codesD (firstNE (L.map fun s => (posI ks.length s).filter (EE W ks)))))
  | [], _, h0, _, _, _, _, _ => absurd rfl h0
  | s :: L, hL, h0, x3, x4, x5, x6, x7 => by
    show (liftG (gN 3 (.int (s : Nat)) (lsS w d (left W ks) x3 x4 x5 x6 x7)) >>= _) = _
    show (bLs (lsS w d (left W ks) (.val (.int (s : Nat))) x4 x5 x6 x7) >>= _) = _
    rw [ls_turn h hk hl v (hL s List.mem_cons_self)]
    rw [List.map_cons] at h0 ⊢
    unfold firstNE at h0 ⊢
    by_cases hz : (posI ks.length s).filter (EE W ks) = []
    · rw [if_pos hz] at h0 ⊢
      rw [if_pos hz, pure_bind]
      exact ls_go h hk hl v L (fun t ht => hL t (List.mem_cons_of_mem _ ht)) h0 _ _ _ _ _
    · rw [if_neg hz, if_neg hz, pure_bind]
theorem least_eq (h : Wh W) (hk : ∀ k ∈ ks, GdC W k) (hl : ks.length ≤ 6) (v : Vw W ks w d em ek) : f_least_clues [w, d] = pure (codesD (duI W ks)) := by
  have lb : f_left_by_clues [w, d] = pure (codesD (left W ks)) := left_by_gen h hk (by omega) v.hrow v.hem v.hr v.hu
  have go := ls_go h hk hl v (List.range (ks.length + 1)) (fun s hs => by have := List.mem_range.mp hs; omega) (ls_eq hl).2 .no .no .no .no .no
  unfold f_least_clues
  refine fn_rt rfl ?_
  rw [seq_nx (do_nx (ev_callD (es_cons (ev_w rfl) (es_cons (ev_w rfl) es_nil)) (d := .non) (by rw [uns, uns, uns, v.hw, v.hdu]; exact check_clues_eq h hk (by omega)) rfl))]
  rw [seq_nx (δ' := lsS w d (left W ks) .no .no .no .no .no) (asg_nx (call_eq (es_cons (ev_w rfl) (es_cons (ev_w rfl) es_nil)) lb) rfl)]
  refine seq_rt ?_
  have src : xR (eO dAdd (eF dUw (eF (hU dLen) (eF dUw (eW 1)))) (eK (.int 1))) (lsS w d (left W ks) .no .no .no .no .no) = pure ((List.range (ks.length + 1)).map fun s => D.int (s : Nat)) := sx_r (succ_ev (f_eq (f_eq (x := .lst (ks.map ek)) (f_eq (ev_w rfl) v.hd) ((hU_len _).trans (by rw [List.length_map]))) rfl)) (by omega)
  unfold sFor
  rw [src, pure_bind]
  refine go.trans ?_
  show pure (Fl.rt (codesD (lsI W ks))) = _
  rw [(ls_eq hl).1]
end
end K78

/-! ## P3K78 -/
set_option autoImplicit false
set_option linter.all false
set_option maxRecDepth 100000
set_option maxHeartbeats 2000000
namespace K78
open PySem DL
local macro_rules | `(tactic| wtm_at "evt") => `(tactic| first | rfl | assumption | (simp only [*]; done) | (simp [*, isTy]; done) | (simp; done) | decide | omega)
local macro_rules | `(tactic| wtm_at "evb") => `(tactic| first | omega | (simp only [List.length_map, List.length_append, List.length_cons, List.length_nil, List.length_zip, List.length_zipIdx, List.length_range, List.length_reverse]; omega) | (simp; omega) | decide)
local macro_rules | `(tactic| wtm_at "evc") => `(tactic| ((with_reducible show _ = _); assumption))
local macro_rules | `(tactic| wtm_at "ev1") => `(tactic| first
  | with_reducible exact ev_k
  | ((with_reducible apply  ev_w); exact rfl)
  | ((with_reducible apply  ev_v); exact rfl)
  | ((with_reducible apply  ev_vo); exact rfl)
  | with_reducible exact es_nil
  | with_reducible exact ev_no
  | with_reducible exact ev_skip
  | with_reducible exact seqK_rt
  | with_reducible apply  es_cons
  | with_reducible apply  f_eq
  | with_reducible apply  o_eq
  | with_reducible apply  ev_lst
  | with_reducible apply  tup_eq
  | with_reducible apply  ev_and
  | with_reducible apply  ev_or
  | with_reducible apply  ev_ife
  | with_reducible apply  call_eq
  | with_reducible apply  ev_callK
  | with_reducible apply  ev_callD
  | with_reducible apply  ev_callDK
  | with_reducible apply  hI_eq
  | with_reducible apply  hU_eq
  | with_reducible apply  ev_cutN
  | with_reducible apply  ev_at
  | with_reducible apply  ev_lcA
  | with_reducible apply  ev_lc
  | with_reducible apply  sx_l
  | with_reducible apply  sx_vw
  | with_reducible apply  sx_enum
  | with_reducible apply  sx_zip
  | with_reducible apply  sx_zipS
  | with_reducible apply  sx_r
  | with_reducible apply  sx_r2
  | with_reducible apply  ev_seq
  | with_reducible apply  seqK_nx
  | with_reducible apply  ev_if
  | with_reducible apply  ev_ret
  | with_reducible apply  ev_do
  | with_reducible apply  ev_asg
  | with_reducible apply  ev_par
  | with_reducible apply  ev_thr
  | with_reducible apply  ev_dox_thr
  | ((with_reducible apply  ifK_t); (wtm_at "evt"))
  | ((with_reducible apply  ifK_f); (wtm_at "evt"))
  | exact eqB_int _ _ | exact neB_int _ _ | exact eqB_bl _ _ | exact neB_bl _ _ | exact eqB_str _ _ | exact neB_str _ _
  | exact lt_ev _ _ | exact le_ev _ _ | exact gt_ev _ _ | exact ge_ev _ _ | exact not_ev _ | exact addI_ev _ _ | exact subI_ev _ _
  | ((with_reducible show Row _ _ _); first | exact row_code _ | exact row_codes _ | exact row_map _ _ | exact row_bcode _ | exact row_bcodes _ | exact row_id _)
  | ((with_reducible show _ = List.map _ _); first | exact map_mapR _ _ | exact map_idR _)
  | ((with_reducible show dIsI _ _ = _); exact rfl) | ((with_reducible show dIsI2 _ _ _ = _); exact rfl) | ((with_reducible show dIsN _ = _); exact rfl) | ((with_reducible show dNotN _ = _); exact rfl)
  | ((with_reducible show dUw _ = _); first | exact uw_bcodes _ | exact uw_bcode _ | exact rfl)
  | exact hU_len _
  | ((with_reducible show D.imm _ = _); exact rfl)
  | exact allB_ev _ _ | exact anyB_ev _ _ | exact sumI_ev _ _ | exact sumC_ev _
  | exact len_ev _ | exact lenT_ev _ | exact cut_ev _ _ _ | exact list_ev _ | exact tuple_ev _ | exact rev_ev _
  | apply  addL_ev
  | wtm_at "evc"
  | ((with_reducible show _ = some _); exact rfl)
  | ((with_reducible show _ ≤ _); wtm_at "evb")
  | ((with_reducible show _ < _); wtm_at "evb")
  | ((with_reducible show (_ : Nat) = _); wtm_at "evb")
  | ((with_reducible show ∀ _, _ ∈ _ → _); intro _ _)
  | ((with_reducible show (_ : Bool) = _ → _); intro _))
local macro_rules | `(tactic| wtm_at "ev") => `(tactic| repeat' (wtm_at "ev1"))
def rr_0 : S := sAsg (gN 1) (eCall f_law_wheels (esC (eW 0) (esC (eK (.int 4)) (esC (eK (.int 30)) (esN)))))
def rr_1 : S := sAsg (gN 2) (eCall f_law_clues (esC (eW 0) (esC (eW 1) (esC (eK (.int 5)) (esN)))))
def rr_2 : S := sAsg (gN 2) (eO dAdd (eV 2) (eCut (eV 2) (eNo) (eAt (eCall f_law_random (esC (eW 0) (esC (eK (.int 2)) (esN)))))))
def rr_3 : S := sAsg (gT [gN 3, gN 4]) (eTup (esC (eF dReprN (eLst (esC (eW 1) (esC (eW 2) (esN))))) (esC (eCall f_law_left (esC (eW 1) (esC (eW 2) (esN)))) (esN))))
def rr_4 : S := sAsg (gN 5) (eLc [12] (gN 12) (xR (eF dLen (eV 2))) (eO dEq (eCall f_law_left (esC (eW 1) (esC (eO dAdd (eCut (eV 2) (eNo) (eAt (eV 12))) (eCut (eV 2) (eAt (eO dAdd (eV 12) (eK (.int 1)))) (eNo))) (esN)))) (eV 4)) (eW 12))
def rr_5 : S := sAsg (gN 6) (eLc [10] (gN 10) (xL (eCall f_law_lists (esC (eF dLen (eV 2)) (esN)))) (eO dEq (eCall f_law_left (esC (eW 1) (esC (eLc [12] (gN 12) (xL (eW 10)) (eK (.bl true)) (eO dIx (eV 2) (eV 12))) (esN)))) (eV 4)) (eW 10))
def rr_6 : S := sAsg (gN 7) (eLc [10] (gN 10) (xL (eW 6)) (eO dEq (eF dLen (eV 10)) (eF dLen (eO dIx (eV 6) (eK (.int 0))))) (eW 10))
def rr_7_i : S := sSeqS (sAsg (gN 8) (eLst (esC (eCall f_needless_clues (esC (eW 1) (esC (eW 2) (esN)))) (esC (eCall (fun ys => f_needless_clues (pick [1, 0] ys)) (esC (eW 2) (esC (eW 1) (esN)))) (esN))))) (sSeqS (sAsg (gN 9) (eLst (esC (eCall f_least_clues (esC (eW 1) (esC (eW 2) (esN)))) (esC (eCall (fun ys => f_least_clues (pick [1, 0] ys)) (esC (eW 2) (esC (eW 1) (esN)))) (esN))))) (sSeqS (sIf (eOr (eF dNot (eF dUw (eCallD (f_law_same 4) (esC (eW 8) (esC (eLst (esC (eW 5) (esC (eW 5) (esN)))) (esN)))))) (eF dNot (eF dUw (eCallD (f_law_same 4) (esC (eW 9) (esC (eLst (esC (eW 7) (esC (eW 7) (esN)))) (esN))))))) (sRet (eK (.bl false))) (sSkip)) (sSeqS (sIf (eO (hI dNe) (eLc [12] (gN 12) (xR (eF dUw (eF (hU dLen) (eF dUw (eW 2))))) (eAnd (eO (hI dNotIn) (eF dUw (eW 12)) (eF dUw (eO dSumLD (eF dUw (eW 7)) (eLst (esN))))) (eO (hI dNotIn) (eF dUw (eW 12)) (eF dUw (eW 5)))) (eW 12)) (eLst (esN))) (sRet (eK (.bl false))) (sSkip)) (sOps [.one 8 [0], .each 9 [0] 10] []))))
def rr_7 : S := sScope rr_7_i
def rr_8 : S := sIf (eO dNe (eLc [10] (gN 10) (xL (eW 7)) (eO dNe (eCall f_codes_left (esC (eW 1) (esC (eLc [12] (gN 12) (xL (eW 10)) (eK (.bl true)) (eO dIx (eV 2) (eV 12))) (esN)))) (eF dLen (eV 4))) (eW 10)) (eLst (esN))) (sRet (eK (.bl false))) (sSkip)
def rr_9_s : Es := xL (eLst (esC (eK .non) (esC (eTup (esN)) (esC (eK (.dct [])) (esC (eLst (esC (eK .non) (esN))) (esC (eO dAdd (eV 2) (eLst (esC (eTup (esC (eK (.str "sum")) (esN))) (esN)))) (esC (eLst (esC (eTup (esC (eK (.str "less")) (esC (eK (.int 0)) (esC (eK (.int 0)) (esN))))) (esN))) (esC (eK (.str "clues")) (esN)))))))))
def rr_9_b : S := sIf (eOr (eO dNe (eCall f_law_caught (esC (eK (.fn "needless_clues")) (esC (eLst (esC (eW 1) (esC (eW 11) (esN)))) (esN)))) (eLst (esC (eLst (esC (eK (.str "InvalidClues")) (esN))) (esC (eF dReprN (eV 11)) (esN))))) (eO dNe (eCall f_law_caught (esC (eK (.fn "least_clues")) (esC (eLst (esC (eW 1) (esC (eW 11) (esN)))) (esN)))) (eLst (esC (eLst (esC (eK (.str "InvalidClues")) (esN))) (esC (eF dReprN (eV 11)) (esN)))))) (sRet (eK (.bl false))) (sSkip)
def rr_9 : S := sFor (gN 11) rr_9_s rr_9_b
def rr_10_s : Es := xL (eCall f_law_no_wheels (esC (eW 1) (esN)))
def rr_10_b : S := sIf (eOr (eO dNe (eCall f_law_caught (esC (eK (.fn "needless_clues")) (esC (eLst (esC (eW 11) (esC (eK .non) (esN)))) (esN)))) (eLst (esC (eLst (esC (eK (.str "InvalidClues")) (esN))) (esC (eF dReprN (eV 11)) (esN))))) (eO dNe (eCall f_law_caught (esC (eK (.fn "least_clues")) (esC (eLst (esC (eW 11) (esC (eK .non) (esN)))) (esN)))) (eLst (esC (eLst (esC (eK (.str "InvalidClues")) (esN))) (esC (eF dReprN (eV 11)) (esN)))))) (sRet (eK (.bl false))) (sSkip)
def rr_10 : S := sFor (gN 11) rr_10_s rr_10_b
def rr_11 : S := sRet (eAnd (eCall (f_law_same 4) (esC (eLst (esC (eCall f_needless_clues (esC (eW 1) (esC (eW 2) (esN)))) (esC (eCall f_least_clues (esC (eW 1) (esC (eW 2) (esN)))) (esN)))) (esC (eLst (esC (eW 5) (esC (eW 7) (esN)))) (esN)))) (eO dEq (eF dReprN (eLst (esC (eW 1) (esC (eW 2) (esN))))) (eV 3)))
theorem rr_def : f_law_right = fn 13 1 (sSeq rr_0 (sSeq rr_1 (sSeq rr_2 (sSeq rr_3 (sSeq rr_4 (sSeq rr_5 (sSeq rr_6 (sSeq rr_7 (sSeq rr_8 (sSeq rr_9 (sSeq rr_10 (rr_11)))))))))))) := rfl
theorem seqS_nx {a b : S} {δ δ' : Dlt} (h : a δ = pure (.nx δ')) : sSeqS a b δ = b δ' := by
  unfold sSeqS
  rw [h, pure_bind]
theorem wrap_W (W : List (List Int)) : wrapSl (.val (codesD W)) = .val (.bor (codesD W)) := by
  show (if (codesD W).nb then Sl.val (wrapB (codesD W)) else Sl.no) = _
  rw [nb_codes, if_pos rfl]
  rfl
theorem unsl_W (W : List (List Int)) : unSl (.val (.bor (codesD W))) = .val (codesD W) := by
  show (if (codesD W).nb then Sl.val (codesD W) else Sl.no) = _
  rw [nb_codes, if_pos rfl]
theorem wrap_c (W : List Int) : wrapSl (.val (codeD W)) = .val (.bor (codeD W)) := by
  show (if (codeD W).nb then Sl.val (wrapB (codeD W)) else Sl.no) = _
  rw [nb_code, if_pos rfl]
  rfl
theorem unsl_c (W : List Int) : unSl (.val (.bor (codeD W))) = .val (codeD W) := by
  show (if (codeD W).nb then Sl.val (codeD W) else Sl.no) = _
  rw [nb_code, if_pos rfl]
theorem wrap_k (ks : List Cl) : wrapSl (.val (cluesD ks)) = .val (.bor (cluesD ks)) := by
  show (if (cluesD ks).nb then Sl.val (wrapB (cluesD ks)) else Sl.no) = _
  rw [nb_clues, if_pos rfl]
  rfl
theorem unsl_k (ks : List Cl) : unSl (.val (.bor (cluesD ks))) = .val (cluesD ks) := by
  show (if (cluesD ks).nb then Sl.val (cluesD ks) else Sl.no) = _
  rw [nb_clues, if_pos rfl]
def shW (W : List (List Int)) (ks : List Cl) : Str := (D.lst [codesD W, cluesD ks]).py.shown
/-- the slots; b: read alone -/
def oR (W : List (List Int)) (ks : List Cl) (x3 x4 x5 x6 x7 x8 x9 x10 x11 x12 : Sl) : Dlt := [.val .gen, .val (codesD W), .val (cluesD ks), x3, x4, x5, x6, x7, x8, x9, x10, x11, x12]
def oF (W : List (List Int)) (ks : List Cl) (x8 x9 x10 x11 x12 : Sl) : Dlt := oR W ks (.val (.str (shW W ks))) (.val (codesD (left W ks))) (.val (codeD (ndI W ks))) (.val (codesD (enI W ks))) (.val (codesD (duI W ks))) x8 x9 x10 x11 x12
def oB (W : List (List Int)) (ks : List Cl) (x8 x9 x10 x11 x12 : Sl) : Dlt := [.val .gen, .val (.bor (codesD W)), .val (.bor (cluesD ks)), .val (.str (shW W ks)), .val (.bor (codesD (left W ks))), .val (.bor (codeD (ndI W ks))), .val (.bor (codesD (enI W ks))), .val (.bor (codesD (duI W ks))), x8, x9, x10, x11, x12]
section
variable {W : List (List Int)} {ks : List Cl}
theorem repr_ev (h : Wh W) (hk : ∀ k ∈ ks, GdC W k) (hl : ks.length ≤ 6) {δ : Dlt} (h1 : δ[1]? = some (.val (codesD W))) (h2 : δ[2]? = some (.val (cluesD ks))) : eF dReprN (eLst (esC (eW 1) (esC (eW 2) (esN)))) δ = pure (.str (shW W ks)) :=
  f_eq (lst_eq (xs := [codesD W, cluesD ks]) (es_cons (ev_w h1) (es_cons (ev_w h2) es_nil)) (by simp)) (reprN_ev (txt_args (fun d hd => by simp at hd; rcases hd with rfl | rfl; exact txt_wheels h; exact txt_clues h hk (by omega)) (by simp)) (by decide))
theorem lawleft (h : Wh W) (hk : ∀ k ∈ ks, GdC W k) (hl : ks.length ≤ 6) : f_law_left [codesD W, cluesD ks] = pure (codesD (left W ks)) := law_left_eq h hk (by omega) fun k hk' => cl_cl h (hk k hk')
theorem len_ks {i : Nat} {δ : Dlt} (h : δ[i]? = some (.val (cluesD ks))) : eF dLen (eV i) δ = pure (.int (ks.length : Nat)) := f_eq (ev_v h) ((len_ev _).trans (by rw [List.length_map]))
theorem rr3_eq (h : Wh W) (hk : ∀ k ∈ ks, GdC W k) (hl : ks.length ≤ 6) : rr_3 (oR W ks .no .no .no .no .no .no .no .no .no .no) = pure (.nx (oR W ks (.val (.str (shW W ks))) (.val (codesD (left W ks))) .no .no .no .no .no .no .no .no)) :=
  asg_nx (tup_eq (xs := [.str (shW W ks), codesD (left W ks)]) (es_cons (repr_ev h hk hl rfl rfl) (es_cons (call_eq (es_cons (ev_w rfl) (es_cons (ev_w rfl) es_nil)) (lawleft h hk hl)) es_nil)) (by simp)) rfl
theorem rr4_eq (h : Wh W) (hk : ∀ k ∈ ks, GdC W k) (hl : ks.length ≤ 6) (x3 x6 x7 x8 x9 x10 x11 x12 : Sl) : rr_4 (oR W ks x3 (.val (codesD (left W ks))) .no x6 x7 x8 x9 x10 x11 x12) = pure (.nx (oR W ks x3 (.val (codesD (left W ks))) (.val (codeD (ndI W ks))) x6 x7 x8 x9 x10 x11 x12)) := by
  refine asg_nx (d := codeD (ndI W ks)) ?_ rfl
  refine Eq.trans (ev_lc (emb := fun k : Nat => D.int (k : Nat)) (xs := List.range ks.length) (γ := fun k => oR W ks x3 (.val (codesD (left W ks))) .no x6 x7 x8 x9 x10 x11 (.val (.int (k : Nat)))) (p := fun i => decide (left W (without ks i) = left W ks)) (f := fun k => D.int (k : Nat)) (sx_r (len_ks rfl) (by omega)) (fun _ _ => rfl) (fun i hi => ?_) (fun i _ _ => ev_w rfl) (by simp; omega)) ?_
  · have hi' := List.mem_range.mp hi
    have wk : ∀ k ∈ without ks i, GdC W k := fun k q => hk k (without_sub q)
    have wl := without_len (ks := ks) (i := i) hl
    refine o_eq (x := codesD (left W (without ks i))) (y := codesD (left W ks)) (call_eq (xs := [codesD W, cluesD (without ks i)]) (es_cons (ev_w rfl) (es_cons ?_ es_nil)) (lawleft h wk wl)) (ev_v rfl) (eq_leftP h _ _)
    refine (o_eq (cutA (xs := ks) (f := clD) (ev_v rfl) (ev_v rfl)) (cutB (xs := ks) (f := clD) (k := i + 1) (by omega) (ev_v rfl) (succ_ev (ev_v rfl))) (cat_eq (by simp; omega))).trans ?_
    rw [← List.map_append]
    rfl
  · unfold ndI codeD
    rw [List.map_map]
    rfl
theorem subs_ev {c : List Int} (hc : ∀ i ∈ c, 0 ≤ i ∧ i < ks.length) (hl : c.length ≤ 100) {δ : Dlt} (h10 : δ[10]? = some (.val (codeD c))) (h2 : δ[2]? = some (.val (cluesD ks))) (h3 : 12 < δ.length) : eLc [12] (gN 12) (xL (eW 10)) (eK (.bl true)) (eO dIx (eV 2) (eV 12)) δ = pure (cluesD (subK ks c)) := by
  have l2 : ∀ s : Sl, ((wipeD δ [12]).set 12 s)[2]? = some (.val (cluesD ks)) := fun s => by
    show ((δ.set 12 .no).set 12 s)[2]? = _
    rw [List.getElem?_set_ne (by decide), List.getElem?_set_ne (by decide)]
    exact h2
  have l12 : ∀ s : Sl, ((wipeD δ [12]).set 12 s)[12]? = some s := fun s => by
    show ((δ.set 12 .no).set 12 s)[12]? = _
    rw [List.getElem?_set_self (by rw [List.length_set]; exact h3)]
  refine Eq.trans (ev_lcA (emb := D.int) (xs := c) (γ := fun i => (wipeD δ [12]).set 12 (.val (.int i))) (f := fun i => clD (ks.getD i.toNat (.sum 0))) (sx_l (ev_w h10) (row_code _)) (fun _ _ => rfl) (fun i hi => o_eq (ev_v (l2 _)) (ev_v (l12 _)) (ix_ek (c := c) ks clD (hc i hi))) (by omega)) ?_
  unfold cluesD subK
  rw [List.map_map]
  rfl
theorem rr5_eq (h : Wh W) (hk : ∀ k ∈ ks, GdC W k) (hl : ks.length ≤ 6) (x3 x5 x7 x8 x9 x10 x11 x12 : Sl) : rr_5 (oR W ks x3 (.val (codesD (left W ks))) x5 .no x7 x8 x9 x10 x11 x12) = pure (.nx (oR W ks x3 (.val (codesD (left W ks))) x5 (.val (codesD (enI W ks))) x7 x8 x9 x10 x11 x12)) := by
  refine asg_nx (d := codesD (enI W ks)) ?_ rfl
  have l := by_len hl
  refine Eq.trans (ev_lc (emb := codeD) (xs := byP ks.length) (γ := fun c => oR W ks x3 (.val (codesD (left W ks))) x5 .no x7 x8 x9 (.val (codeD c)) x11 x12) (p := EE W ks) (f := codeD) (sx_l (call_eq (es_cons (len_ks rfl) es_nil) (lists_eq hl)) (row_codes _)) (fun _ _ => rfl) (fun c hc => ?_) (fun i _ _ => ev_w rfl) (by omega)) rfl
  have bi := by_in hl hc
  have bi2 : ∀ i ∈ c, 0 ≤ i ∧ i < ks.length := fun i q => by have := bi.2 i q; omega
  exact o_eq (call_eq (xs := [codesD W, cluesD (subK ks c)]) (es_cons (ev_w rfl) (es_cons (subs_ev bi2 (by omega) rfl rfl (by decide : 12 < 13)) es_nil)) (lawleft h (sub_good hk bi2) (by unfold subK; rw [List.length_map]; omega))) (ev_v rfl) (eq_leftP h _ _)
theorem head_ix {L : List (List Int)} (h : L ≠ []) : dIx (codesD L) (.int 0) = pure (codeD (L.headD [])) := by
  cases L with
  | nil => exact absurd rfl h
  | cons c r => exact ix_map (f := codeD) (xs := c :: r) (i := 0) (by simp)
theorem rr6_eq (hl : ks.length ≤ 6) (x3 x4 x5 x8 x9 x10 x11 x12 : Sl) : rr_6 (oR W ks x3 x4 x5 (.val (codesD (enI W ks))) .no x8 x9 x10 x11 x12) = pure (.nx (oR W ks x3 x4 x5 (.val (codesD (enI W ks))) (.val (codesD (duI W ks))) x8 x9 x10 x11 x12)) := by
  refine asg_nx (d := codesD (duI W ks)) ?_ rfl
  have l : (enI W ks).length ≤ 64 := Nat.le_trans (List.length_filter_le _ _) (by_len hl)
  refine Eq.trans (ev_lc (emb := codeD) (xs := enI W ks) (γ := fun c => oR W ks x3 x4 x5 (.val (codesD (enI W ks))) .no x8 x9 (.val (codeD c)) x11 x12) (p := fun c => decide (c.length = ((enI W ks).headD []).length)) (f := codeD) (sx_l (ev_w rfl) (row_codes _)) (fun _ _ => rfl) (fun c hc => ?_) (fun i _ _ => ev_w rfl) (by omega)) rfl
  refine (o_eq (f_eq (ev_v rfl) ((len_ev _).trans (by rw [List.length_map]))) (f_eq (o_eq (ev_v rfl) ev_k (head_ix (en_ne hl))) ((len_ev _).trans (by rw [List.length_map]))) (eqB_int _ _)).trans ?_
  congr 2
  exact decide_eq_decide.mpr (by omega)
/-! ### the scope -/
theorem notIn_int {c : List Int} {i : Int} : dNotIn (.int i) (codeD c) = pure (.bl (!decide (i ∈ c))) := by
  have h := in_int (c := c) (i := i)
  show liftB ((inB (.int i) (c.map D.int)).map (!·)) = _
  replace h : liftB (inB (.int i) (c.map D.int)) = _ := h
  cases e : inB (.int i) (c.map D.int) with
  | none =>
    rw [e] at h
    exact absurd (congrFun h []) (by intro z; cases z)
  | some b =>
    rw [e] at h
    have hb : b = decide (i ∈ c) := by
      have := congrFun h []
      cases this
      rfl
    rw [hb]
    rfl
theorem hNotIn {c : List Int} {i : Int} {x : D} (hx : x.un = codeD c) : hI dNotIn (.int i) x = pure (.bl (!decide (i ∈ c))) := hI_eq (by rw [hx]; exact notIn_int) rfl
theorem lists_codes : ∀ L : List (List Int), lists? (L.map codeD) = some (L.map fun c => c.map D.int)
  | [] => rfl
  | c :: L => by
    rw [List.map_cons]
    show (lists? (L.map codeD)).map _ = _
    rw [lists_codes L]
    rfl
theorem sumL_codes {L : List (List Int)} (h : L ≠ []) (hl : L.flatten.length ≤ 1000000) : dSumL (codesD L) (.lst []) = pure (codeD L.flatten) := by
  cases L with
  | nil => exact absurd rfl h
  | cons c r =>
    show (match lists? ((c :: r).map codeD) with | some ls => (if lim ls.flatten.length then (pure (D.lst ls.flatten) : M D) else stuck) | none => stuck) = _
    rw [lists_codes]
    have e : ((c :: r).map fun c => c.map D.int).flatten = (c :: r).flatten.map D.int := by rw [List.map_flatten]
    simp only []
    rw [e, if_pos (lim_ok (by rw [List.length_map]; exact hl))]
    rfl
theorem sumLD_codes {L : List (List Int)} (h : L ≠ []) (hl : L.flatten.length ≤ 1000000) {x : D} (hx : x.un = codesD L) : dSumLD x (.lst []) = pure (codeD L.flatten) := by
  unfold dSumLD
  rw [hx]
  show (dSumL (codesD L) (.lst []) >>= _) = _
  rw [sumL_codes h hl, pure_bind]
  exact if_pos (imm_ints _)
theorem du_len (hl : ks.length ≤ 6) : (duI W ks).length ≤ 64 ∧ (duI W ks).flatten.length ≤ 1000 := by
  have l : (duI W ks).length ≤ 64 := Nat.le_trans (List.length_filter_le _ _) (Nat.le_trans (List.length_filter_le _ _) (by_len hl))
  refine ⟨l, ?_⟩
  have : ∀ L : List (List Int), (∀ c ∈ L, c.length ≤ 6) → L.flatten.length ≤ 6 * L.length := fun L => by
    induction L with
    | nil => intro _; simp
    | cons c L ih =>
      intro h
      have h1 := h c List.mem_cons_self
      have h2 := ih fun d hd => h d (List.mem_cons_of_mem _ hd)
      rw [List.flatten_cons, List.length_append, List.length_cons]
      omega
  have := this (duI W ks) fun c hc => (by_in hl (du_in hc).1).1
  omega
theorem nd_len : (ndI W ks).length ≤ ks.length := by
  unfold ndI
  rw [List.length_map]
  exact Nat.le_trans (List.length_filter_le _ _) (by simp)
theorem same_codes (k : Nat) {L : List (List Int)} (hl : L.length ≤ 1000) (hc : ∀ c ∈ L, c.length ≤ 1000) : f_law_same (k + 3) [codesD L, codesD L] = pure (.bl true) :=
  same_lst (fun d hd => by
    obtain ⟨c, h, rfl⟩ := List.mem_map.mp hd
    exact same_code k (hc c h)) (by rw [List.length_map]; omega)
theorem flat_code {c : List Int} (h : c.length ≤ 1000) : flatL (codeD c) = true := by
  show (decide ((c.map D.int).length ≤ 1000000) && (c.map D.int).all D.imm) = true
  rw [imm_ints, Bool.and_true, decide_eq_true]
  rw [List.length_map]
  omega
theorem rr7_eq (h : Wh W) (hk : ∀ k ∈ ks, GdC W k) (hl : ks.length ≤ 6) (x11 : Sl) (hx : wrapSl x11 = .no) : rr_7 (oF W ks .no .no .no x11 .no) = pure (.nx (oF W ks .no .no .no .no .no)) := by
  have ne := need_eq h hk hl (vw_b W ks)
  have le := least_eq h hk hl (vw_b W ks)
  obtain ⟨l1, l2⟩ := du_len (W := W) hl
  have l3 := nd_len (W := W) (ks := ks)
  have lc : ∀ c ∈ duI W ks, c.length ≤ 6 := fun c hc => (by_in hl (du_in hc).1).1
  generalize hN : ndI W ks = N at *
  generalize hU : duI W ks = U at *
  have un2 : ∀ {d : D} {x : D}, x.un = d → uns [x, x] = [d, d] := fun h => by rw [uns, uns, uns, h]
  have s0 : (oF W ks .no .no .no x11 .no).map wrapSl = oB W ks .no .no .no .no .no := by
    unfold oF oR oB
    simp only [List.map_cons, List.map_nil, wrap_W, wrap_c, wrap_k, hx]
    rfl
  have s1 : (oB W ks (.val (.lst [codeD N, codeD N])) (.val (.lst [codesD U, codesD U])) .no .no .no).map unSl = oF W ks .no .no .no .no .no := by
    unfold oF oR oB
    simp only [List.map_cons, List.map_nil, unsl_W, unsl_c, unsl_k]
    rfl
  unfold rr_7 sScope
  rw [s0]
  have core : rr_7_i (oB W ks .no .no .no .no .no) = pure (.nx (oF W ks .no .no .no .no .no)) := by
    unfold rr_7_i
    rw [seqS_nx (δ' := oB W ks (.val (.lst [codeD N, codeD N])) .no .no .no .no) (asg_nx (lst_eq (es_cons (call_eq (es_cons (ev_w rfl) (es_cons (ev_w rfl) es_nil)) ne) (es_cons (call_eq (f := fun ys => f_needless_clues (pick [1, 0] ys)) (xs := [.bor (cluesD ks), .bor (codesD W)]) (es_cons (ev_w rfl) (es_cons (ev_w rfl) es_nil)) ne) es_nil)) (by simp)) rfl)]
    rw [seqS_nx (δ' := oB W ks (.val (.lst [codeD N, codeD N])) (.val (.lst [codesD U, codesD U])) .no .no .no) (asg_nx (lst_eq (es_cons (call_eq (es_cons (ev_w rfl) (es_cons (ev_w rfl) es_nil)) le) (es_cons (call_eq (f := fun ys => f_least_clues (pick [1, 0] ys)) (xs := [.bor (cluesD ks), .bor (codesD W)]) (es_cons (ev_w rfl) (es_cons (ev_w rfl) es_nil)) le) es_nil)) (by simp)) rfl)]
    have sN : f_law_same 4 [.lst [codeD N, codeD N], .lst [codeD N, codeD N]] = pure (.bl true) := same_lst (fun d hd => by
      simp at hd
      subst hd
      exact same_code 1 (by omega)) (by simp)
    have sU : f_law_same 4 [.lst [codesD U, codesD U], .lst [codesD U, codesD U]] = pure (.bl true) := same_lst (fun d hd => by
      simp at hd
      subst hd
      exact same_codes 0 (by omega) fun c hc => by have := lc c hc; omega) (by simp)
    rw [seqS_nx (δ' := oB W ks (.val (.lst [codeD N, codeD N])) (.val (.lst [codesD U, codesD U])) .no .no .no)]
    · rw [seqS_nx (δ' := oB W ks (.val (.lst [codeD N, codeD N])) (.val (.lst [codesD U, codesD U])) .no .no .no)]
      · have ne' : U ≠ [] := by rw [← hU]; exact du_ne hl
        unfold sOps
        rw [if_pos (by decide)]
        have go1 : stepOp true (oB W ks (.val (.lst [codeD N, codeD N])) (.val (.lst [codesD U, codesD U])) .no .no .no) (.one 8 [0]) = some (oB W ks (.val (.lst [codeD N, codeD N])) (.val (.lst [codesD U, codesD U])) .no .no .no) := by
          show (if (N.map D.int).length ≤ 1000000 ∧ (!true || (N.map D.int).all D.imm) = true then some _ else none) = _
          rw [if_pos ⟨by rw [List.length_map]; omega, by rw [imm_ints]; rfl⟩]
        have go2 : stepOp true (oB W ks (.val (.lst [codeD N, codeD N])) (.val (.lst [codesD U, codesD U])) .no .no .no) (.each 9 [0] 10) = some (oB W ks (.val (.lst [codeD N, codeD N])) (.val (.lst [codesD U, codesD U])) .no .no .no) := by
          cases hU2 : U with
          | nil => exact absurd hU2 ne'
          | cons c r =>
            refine Eq.trans (if_pos ⟨rfl, (by decide : 10 < 13), by rw [hU2] at l1; simp at l1 ⊢; omega, by
              show (codeD c :: r.map codeD).all flatL = true
              rw [← List.map_cons (f := codeD), List.all_map, List.all_eq_true]
              intro d hd
              exact flat_code (by have := lc d (by rw [hU2]; exact hd); omega)⟩) ?_
            rfl
        simp only [goOps, go1, go2, Option.bind_some]
        rw [s1]
      · rw [if_f]
        · rfl
        · refine o_eq (x := .lst []) (y := .lst []) (lc_none (ds := (List.range ks.length).map fun k => D.int (k : Nat)) (γ := fun e => oB W ks (.val (.lst [codeD N, codeD N])) (.val (.lst [codesD U, codesD U])) .no .no (.val e)) ?_ (fun _ _ => rfl) ?_ (by simp; omega)) (lst_eq es_nil (by simp)) rfl
          · refine sx_r (uwI (f_eq (x := .lst (ks.map fun k => .bor (clD k))) (f_eq (ev_w (i := 2) rfl) (vw_b W ks).hd) ((hU_len _).trans (by rw [List.length_map])))) (by omega)
          · intro e he
            obtain ⟨i, hi, rfl⟩ := List.mem_map.mp he
            have hi' := List.mem_range.mp hi
            have cv := cover (W := W) hl hi'
            rw [hN, hU] at cv
            have d1 : eO (hI dNotIn) (eF dUw (eW 12)) (eF dUw (eO dSumLD (eF dUw (eW 7)) (eLst (esN)))) (oB W ks (.val (.lst [codeD N, codeD N])) (.val (.lst [codesD U, codesD U])) .no .no (.val (.int (i : Nat)))) = pure (.bl (!decide ((i : Int) ∈ U.flatten))) := by
              refine o_eq (uwI (ev_w (i := 12) rfl)) (f_eq (x := codeD U.flatten) (o_eq (f_eq (ev_w (i := 7) rfl) (uw_bcodes _)) (lst_eq es_nil (by simp)) (sumLD_codes (L := U) (by rw [← hU]; exact du_ne hl) (by omega) ?_)) rfl) (hNotIn (un_code _))
              rw [hU]
              show D.lst (uns (U.map fun c => D.bor (codeD c))) = _
              rw [uns_map, List.map_map]
              unfold codesD
              congr 1
              exact List.map_congr_left fun c _ => un_code c
            have d2 : eO (hI dNotIn) (eF dUw (eW 12)) (eF dUw (eW 5)) (oB W ks (.val (.lst [codeD N, codeD N])) (.val (.lst [codesD U, codesD U])) .no .no (.val (.int (i : Nat)))) = pure (.bl (!decide ((i : Int) ∈ N))) := by
              rw [← hN]
              exact o_eq (uwI (ev_w (i := 12) rfl)) (f_eq (ev_w (i := 5) rfl) (uw_bcode _)) (hNotIn (un_code _))
            refine (ev_and d1 fun _ => d2).trans ?_
            congr 2
            rcases cv with z | z <;> simp [z]
    · rw [if_f]
      · rfl
      · have uN : uns [.lst [codeD N, codeD N], .lst [.bor (codeD (ndI W ks)), .bor (codeD (ndI W ks))]] = [.lst [codeD N, codeD N], .lst [codeD N, codeD N]] := by
          rw [uns, uns, uns, D.un, D.un, un2 (un_code N), un2 (un_bcode (ndI W ks)), hN]
        have uU : uns [.lst [codesD U, codesD U], .lst [.bor (codesD (duI W ks)), .bor (codesD (duI W ks))]] = [.lst [codesD U, codesD U], .lst [codesD U, codesD U]] := by
          rw [uns, uns, uns, D.un, D.un, un2 (un_codes U), un2 (un_bcodes (duI W ks)), hU]
        rw [or_f]
        · exact f_eq (x := .bl true) (f_eq (ev_callD (es_cons (ev_w (i := 9) rfl) (es_cons (lst_eq (es_cons (ev_w (i := 7) rfl) (es_cons (ev_w (i := 7) rfl) es_nil)) (by simp)) es_nil)) (by rw [uU]; exact sU) rfl) rfl) rfl
        · exact f_eq (x := .bl true) (f_eq (ev_callD (es_cons (ev_w (i := 8) rfl) (es_cons (lst_eq (es_cons (ev_w (i := 5) rfl) (es_cons (ev_w (i := 5) rfl) es_nil)) (by simp)) es_nil)) (by rw [uN]; exact sN) rfl) rfl) rfl
  rw [core]
  rfl
theorem rr8_eq (h : Wh W) (hk : ∀ k ∈ ks, GdC W k) (hl : ks.length ≤ 6) : rr_8 (oF W ks .no .no .no .no .no) = pure (.nx (oF W ks .no .no .no .no .no)) := by
  obtain ⟨l1, l2⟩ := du_len (W := W) hl
  unfold rr_8
  rw [if_f]
  · rfl
  · refine o_eq (x := .lst []) (y := .lst []) (lc_none (ds := (duI W ks).map codeD) (γ := fun e => oF W ks .no .no (.val e) .no .no) (xL_eq (ev_w rfl)) (fun _ _ => rfl) ?_ (by rw [List.length_map]; omega)) (lst_eq es_nil (by simp)) rfl
    intro e he
    obtain ⟨c, hc, rfl⟩ := List.mem_map.mp he
    obtain ⟨b1, b2⟩ := du_in hc
    have bi := by_in hl b1
    have bi2 : ∀ i ∈ c, 0 ≤ i ∧ i < ks.length := fun i q => by have := bi.2 i q; omega
    refine Eq.trans (o_eq (call_eq (xs := [codesD W, cluesD (subK ks c)]) (es_cons (ev_w rfl) (es_cons (subs_ev bi2 (by omega) rfl rfl (by decide : 12 < 13)) es_nil)) (codes_left_eq h (sub_good hk bi2) (by unfold subK; rw [List.length_map]; omega))) (f_eq (ev_v rfl) ((len_ev _).trans (by rw [List.length_map]))) (neB_int _ _)) ?_
    rw [b2]
    simp
end
end K78

/-! ## MK78 -/
set_option autoImplicit false
set_option linter.all false
set_option maxRecDepth 100000
set_option maxHeartbeats 2000000
namespace K78
open PySem DL
local macro_rules | `(tactic| wtm_at "evt") => `(tactic| first | rfl | assumption | (simp only [*]; done) | (simp [*, isTy]; done) | (simp; done) | decide | omega)
local macro_rules | `(tactic| wtm_at "evb") => `(tactic| first | omega | (simp only [List.length_map, List.length_append, List.length_cons, List.length_nil, List.length_zip, List.length_zipIdx, List.length_range, List.length_reverse]; omega) | (simp; omega) | decide)
local macro_rules | `(tactic| wtm_at "evc") => `(tactic| ((with_reducible show _ = _); assumption))
local macro_rules | `(tactic| wtm_at "ev1") => `(tactic| first
  | with_reducible exact ev_k
  | ((with_reducible apply  ev_w); exact rfl)
  | ((with_reducible apply  ev_v); exact rfl)
  | ((with_reducible apply  ev_vo); exact rfl)
  | with_reducible exact es_nil
  | with_reducible exact ev_no
  | with_reducible exact ev_skip
  | with_reducible exact seqK_rt
  | with_reducible apply  es_cons
  | with_reducible apply  f_eq
  | with_reducible apply  o_eq
  | with_reducible apply  ev_lst
  | with_reducible apply  tup_eq
  | with_reducible apply  ev_and
  | with_reducible apply  ev_or
  | with_reducible apply  ev_ife
  | with_reducible apply  call_eq
  | with_reducible apply  ev_callK
  | with_reducible apply  ev_callD
  | with_reducible apply  ev_callDK
  | with_reducible apply  hI_eq
  | with_reducible apply  hU_eq
  | with_reducible apply  ev_cutN
  | with_reducible apply  ev_at
  | with_reducible apply  ev_lcA
  | with_reducible apply  ev_lc
  | with_reducible apply  sx_l
  | with_reducible apply  sx_vw
  | with_reducible apply  sx_enum
  | with_reducible apply  sx_zip
  | with_reducible apply  sx_zipS
  | with_reducible apply  sx_r
  | with_reducible apply  sx_r2
  | with_reducible apply  ev_seq
  | with_reducible apply  seqK_nx
  | with_reducible apply  ev_if
  | with_reducible apply  ev_ret
  | with_reducible apply  ev_do
  | with_reducible apply  ev_asg
  | with_reducible apply  ev_par
  | with_reducible apply  ev_thr
  | with_reducible apply  ev_dox_thr
  | ((with_reducible apply  ifK_t); (wtm_at "evt"))
  | ((with_reducible apply  ifK_f); (wtm_at "evt"))
  | exact eqB_int _ _ | exact neB_int _ _ | exact eqB_bl _ _ | exact neB_bl _ _ | exact eqB_str _ _ | exact neB_str _ _
  | exact lt_ev _ _ | exact le_ev _ _ | exact gt_ev _ _ | exact ge_ev _ _ | exact not_ev _ | exact addI_ev _ _ | exact subI_ev _ _
  | ((with_reducible show Row _ _ _); first | exact row_code _ | exact row_codes _ | exact row_map _ _ | exact row_bcode _ | exact row_bcodes _ | exact row_id _)
  | ((with_reducible show _ = List.map _ _); first | exact map_mapR _ _ | exact map_idR _)
  | ((with_reducible show dIsI _ _ = _); exact rfl) | ((with_reducible show dIsI2 _ _ _ = _); exact rfl) | ((with_reducible show dIsN _ = _); exact rfl) | ((with_reducible show dNotN _ = _); exact rfl)
  | ((with_reducible show dUw _ = _); first | exact uw_bcodes _ | exact uw_bcode _ | exact rfl)
  | exact hU_len _
  | ((with_reducible show D.imm _ = _); exact rfl)
  | exact allB_ev _ _ | exact anyB_ev _ _ | exact sumI_ev _ _ | exact sumC_ev _
  | exact len_ev _ | exact lenT_ev _ | exact cut_ev _ _ _ | exact list_ev _ | exact tuple_ev _ | exact rev_ev _
  | apply  addL_ev
  | wtm_at "evc"
  | ((with_reducible show _ = some _); exact rfl)
  | ((with_reducible show _ ≤ _); wtm_at "evb")
  | ((with_reducible show _ < _); wtm_at "evb")
  | ((with_reducible show (_ : Nat) = _); wtm_at "evb")
  | ((with_reducible show ∀ _, _ ∈ _ → _); intro _ _)
  | ((with_reducible show (_ : Bool) = _ → _); intro _))
local macro_rules | `(tactic| wtm_at "ev") => `(tactic| repeat' (wtm_at "ev1"))
theorem tab_need : tab "needless_clues" = some fx_needless_clues := rfl
theorem tab_least : tab "least_clues" = some fx_least_clues := rfl
theorem x_need {d v : D} {x : Str} {e : D} (h : fx_check_clues [d, v] = pure (.thr x e)) : fx_needless_clues [d, v] = pure (.thr x e) := fn_rt rfl (thr_first (es_cons (ev_w rfl) (es_cons (ev_w rfl) es_nil)) h)
theorem x_least {d v : D} {x : Str} {e : D} (h : fx_check_clues [d, v] = pure (.thr x e)) : fx_least_clues [d, v] = pure (.thr x e) := fn_rt rfl (thr_first (es_cons (ev_w rfl) (es_cons (ev_w rfl) es_nil)) h)
section
variable {W : List (List Int)} {ks : List Cl}
theorem fits_tup (W : List (List Int)) (s : Str) (r : List D) (hc : (D.tup (.str s :: r)).cl 59 = true) : eOr (eF dNot (eF (fun d => dIsI d "tuple") (eV 1))) (eOr (eO dEq (eV 1) (eTup (esN))) (eF dNot (eF (fun d => dIsI d "str") (eO dIx (eV 1) (eK (.int 0)))))) (startD 2 [codesD W, .tup (.str s :: r)]) = pure (.bl false) := by
  have t1 : eF dNot (eF (fun d => dIsI d "tuple") (eV 1)) (startD 2 [codesD W, .tup (.str s :: r)]) = pure (.bl false) := f_eq (f_eq (ev_v rfl) rfl) rfl
  rw [or_f t1, or_f (o_eq (ev_v rfl) (tup_eq (xs := []) es_nil (by simp)) ((eqNilT_ev hc).trans (by simp)))]
  exact f_eq (x := .bl true) (f_eq (x := .str s) (o_eq (ev_v rfl) ev_k ixT0) rfl) rfl
theorem fits_non (W : List (List Int)) : f_clue_fits [codesD W, .non] = pure (.bl false) := rfl
theorem fits_sum1 (W : List (List Int)) : f_clue_fits [codesD W, .tup [.str "sum"]] = pure (.bl false) := by
  unfold f_clue_fits
  refine fn_rt rfl ?_
  rw [seq_nx (δ' := startD 2 [codesD W, .tup [.str "sum"]]) (by rw [if_f (fits_tup W _ _ (by decide +kernel))]; rfl)]
  refine seq_rt ?_
  rw [if_t (w0 rfl (decide_eq_true rfl))]
  refine ev_ret ?_
  rw [and_f (o_eq (f_eq (ev_v rfl) (lenT_ev _)) ev_k (eqB_int _ _))]
theorem fits_less00 (h : Wh W) : f_clue_fits [codesD W, .tup [.str "less", .int 0, .int 0]] = pure (.bl false) := by
  have w00 : f_is_wheel_of [codesD W, .int 0] = pure (.bl true) := by
    refine (wheel_of_eq W 0).trans ?_
    rw [decide_eq_true (List.length_pos_iff.mpr h.ne)]
  unfold f_clue_fits
  refine fn_rt rfl ?_
  rw [seq_nx (δ' := startD 2 [codesD W, .tup [.str "less", .int 0, .int 0]]) (by rw [if_f (fits_tup W _ _ (by decide +kernel))]; rfl)]
  rw [seq_nx (δ' := startD 2 [codesD W, .tup [.str "less", .int 0, .int 0]]) (by rw [if_f (w0 rfl s_ls)]; rfl)]
  rw [seq_nx (δ' := startD 2 [codesD W, .tup [.str "less", .int 0, .int 0]]) (by rw [if_f (o_eq (f_eq (ev_v rfl) (lenT_ev _)) ev_k (neB_int _ _))]; rfl)]
  rw [seq_nx (δ' := startD 2 [codesD W, .tup [.str "less", .int 0, .int 0]]) (by rw [if_f (w0 rfl s_lr)]; rfl)]
  rw [seq_nx (δ' := startD 2 [codesD W, .tup [.str "less", .int 0, .int 0]]) (by rw [if_f (w0 rfl s_la)]; rfl)]
  refine seq_rt ?_
  rw [if_t (w0 rfl (decide_eq_true rfl))]
  refine ev_ret ?_
  have w1 : ∀ e : E, e (startD 2 [codesD W, .tup [.str "less", .int 0, .int 0]]) = pure (.int 0) → eCall f_is_wheel_of (esC (eW 0) (esC e (esN))) (startD 2 [codesD W, .tup [.str "less", .int 0, .int 0]]) = pure (.bl true) := fun e he => call_eq (es_cons (ev_w rfl) (es_cons he es_nil)) w00
  rw [and_t (w1 _ (o_eq (ev_v rfl) ev_k ixT1)), and_t (w1 _ (o_eq (ev_v rfl) ev_k ixT2))]
  exact (o_eq (o_eq (ev_v rfl) ev_k ixT1) (o_eq (ev_v rfl) ev_k ixT2) (neB_int _ _)).trans rfl
def badC (ks : List Cl) : List D := [.non, .tup [], .dct [], .lst [.non], .lst (ks.map clD ++ [.tup [.str "sum"]]), .lst [.tup [.str "less", .int 0, .int 0]], .str "clues"]
theorem bad_clues (h : Wh W) (hk : ∀ k ∈ ks, GdC W k) (hl : ks.length ≤ 6) : ∀ d ∈ badC ks, fx_check_clues [codesD W, d] = pure (.thr "InvalidClues" d) ∧ Txt 50 100000 d := by
  have ts : Txt 45 10000 (D.tup [.str "sum"]) := (txt_tup (k := 30) (n := 10) (xs := [.str "sum"]) fun d hd => by simp at hd; subst hd; exact txt_str 30 (by decide +kernel)).deep (by simp) (by decide)
  have tl : Txt 45 10000 (D.tup [.str "less", .int 0, .int 0]) := (txt_tup (k := 30) (n := 10) (xs := [.str "less", .int 0, .int 0]) fun d hd => by
    simp at hd
    rcases hd with rfl | rfl
    · exact txt_str 30 (by decide +kernel)
    · exact txt_int 30 (by omega)).deep (by simp) (by decide)
  intro d hd
  simp only [badC, List.mem_cons, List.mem_nil_iff, or_false] at hd
  rcases hd with rfl | rfl | rfl | rfl | rfl | rfl | rfl
  · exact ⟨xclues_no h rfl rfl, (txt_non 50).deep (by decide) (Nat.le_refl _)⟩
  · exact ⟨xclues_no h rfl rfl, (txt_tup (k := 30) (n := 10) fun d hd => by cases hd).deep (by decide) (by decide)⟩
  · exact ⟨xclues_no h rfl rfl, (txt_dct 50).deep (by decide) (Nat.le_refl _)⟩
  · exact ⟨xclues_bad h (es := [(.non, false)]) (fun e he => by simp at he; subst he; exact fits_non W) (by simp) (by simp), (txt_lst (k := 30) (n := 10) (xs := [.non]) fun d hd => by simp at hd; subst hd; exact txt_non 30).deep (by simp) (by decide)⟩
  · constructor
    · have := xclues_bad h (es := (ks.map fun k => (clD k, true)) ++ [(.tup [.str "sum"], false)]) (fun e he => by
        rcases List.mem_append.mp he with z | z
        · rw [List.mem_map] at z
          obtain ⟨k, hk', rfl⟩ := z
          exact clue_good h (hk k hk')
        · simp at z
          subst z
          exact fits_sum1 W) (by simp; omega) (by simp)
      simpa [List.map_map, Function.comp_def] using this
    · refine (txt_lst (k := 45) (n := 10000) fun d hd => ?_).deep (by simp; omega) (by decide)
      rcases List.mem_append.mp hd with z | z
      · rw [List.mem_map] at z; obtain ⟨k, hk', rfl⟩ := z; exact (txt_cl h (hk k hk')).deep (by decide) (by decide)
      · simp at z; subst z; exact ts
  · exact ⟨xclues_bad h (es := [(.tup [.str "less", .int 0, .int 0], false)]) (fun e he => by simp at he; subst he; exact fits_less00 h) (by simp) (by simp), (txt_lst (k := 45) (n := 10000) (xs := [.tup [.str "less", .int 0, .int 0]]) fun d hd => by simp at hd; subst hd; exact tl).deep (by simp) (by decide)⟩
  · exact ⟨xclues_no h rfl rfl, (txt_str 50 (by decide +kernel)).deep (by decide) (Nat.le_refl _)⟩
theorem turn9 (h : Wh W) {v : D} (hx : fx_check_clues [codesD W, v] = pure (.thr "InvalidClues" v)) (ht : Txt 50 100000 v) (ks : List Cl) : rr_9_b (oF W ks .no .no .no (.val v) .no) = pure (.nx (oF W ks .no .no .no (.val v) .no)) := by
  have rv := reprN_ev (ht.deep (Nat.le_refl _) (by decide : 50 ≤ 60)) (by decide)
  have tW := txt_wheels h
  have p2 : ∀ e ∈ [codesD W, v], Txt 50 100000 e := fun e he => by simp at he; rcases he with rfl | rfl; exact tW; exact ht
  have ar : eLst (esC (eW 1) (esC (eW 11) (esN))) (oF W ks .no .no .no (.val v) .no) = pure (.lst [codesD W, v]) := lst_eq (es_cons (ev_w rfl) (es_cons (ev_w rfl) es_nil)) (by simp)
  unfold rr_9_b
  rw [if_f]
  · rfl
  · rw [or_f]
    · exact told_ok (z := "least_clues") (x := "InvalidClues") (args := [codesD W, v]) (e := v) tab_least (.inr (.inl rfl)) (x_least hx) rfl p2 ht ev_k ar (f_eq (ev_v rfl) rv) _ rfl
    · exact told_ok (z := "needless_clues") (x := "InvalidClues") (args := [codesD W, v]) (e := v) tab_need (.inr (.inl rfl)) (x_need hx) rfl p2 ht ev_k ar (f_eq (ev_v rfl) rv) _ rfl
theorem turn10 {v : D} (hb : Bad v) (ks : List Cl) : rr_10_b (oF W ks .no .no .no (.val v) .no) = pure (.nx (oF W ks .no .no .no (.val v) .no)) := by
  have ht := hb.t
  have rv := reprN_ev (ht.deep (Nat.le_refl _) (by decide : 50 ≤ 60)) (by decide)
  have tn : Txt 50 100000 D.non := (txt_non 50).deep (by decide) (Nat.le_refl _)
  have p2 : ∀ e ∈ [v, D.non], Txt 50 100000 e := fun e he => by simp at he; rcases he with rfl | rfl; exact ht; exact tn
  have ar : eLst (esC (eW 11) (esC (eK .non) (esN))) (oF W ks .no .no .no (.val v) .no) = pure (.lst [v, .non]) := lst_eq (es_cons (ev_w rfl) (es_cons ev_k es_nil)) (by simp)
  unfold rr_10_b
  rw [if_f]
  · rfl
  · rw [or_f]
    · exact told_ok (z := "least_clues") (x := "InvalidClues") (args := [v, .non]) (e := v) tab_least (.inr (.inl rfl)) (x_least (xclues_wheels hb.a)) rfl p2 ht ev_k ar (f_eq (ev_v rfl) rv) _ rfl
    · exact told_ok (z := "needless_clues") (x := "InvalidClues") (args := [v, .non]) (e := v) tab_need (.inr (.inl rfl)) (x_need (xclues_wheels hb.a)) rfl p2 ht ev_k ar (f_eq (ev_v rfl) rv) _ rfl
theorem rr9_eq (h : Wh W) (hk : ∀ k ∈ ks, GdC W k) (hl : ks.length ≤ 6) : ∃ y, rr_9 (oF W ks .no .no .no .no .no) = pure (.nx (oF W ks .no .no .no y .no)) := by
  have src : rr_9_s (oF W ks .no .no .no .no .no) = pure (badC ks) := xL_eq (lst_eq (es_cons ev_k (es_cons (tup_eq (xs := []) es_nil (by simp)) (es_cons ev_k (es_cons (lst_eq (xs := [.non]) (es_cons ev_k es_nil) (by simp)) (es_cons (o_eq (ev_v rfl) (lst_eq (xs := [.tup [.str "sum"]]) (es_cons (tup_eq (es_cons ev_k es_nil) (by simp)) es_nil) (by simp)) (cat_eq (by simp; omega))) (es_cons (lst_eq (xs := [.tup [.str "less", .int 0, .int 0]]) (es_cons (tup_eq (es_cons ev_k (es_cons ev_k (es_cons ev_k es_nil))) (by simp)) es_nil) (by simp)) (es_cons ev_k es_nil))))))) (show 7 ≤ 1000000 by decide))
  obtain ⟨δ', l1, y, l2⟩ := forGo_pre (g := gN 11) (s := rr_9_b) (emb := fun d : D => d) (I := fun _ δ => ∃ y, δ = oF W ks .no .no .no y .no) (xs := badC ks) (pre := []) (δ := oF W ks .no .no .no .no .no) ⟨_, rfl⟩ (fun p d q δ e ⟨y, eδ⟩ => by
    subst eδ
    obtain ⟨b1, b2⟩ := bad_clues h hk hl d (by rw [List.nil_append] at e; rw [e]; simp)
    exact ⟨_, _, rfl, turn9 h b1 b2 ks, _, rfl⟩)
  rw [List.map_id'] at l1
  subst l2
  exact ⟨_, for_nx src l1⟩
theorem rr10_eq (h : Wh W) (x : Sl) : ∃ y, rr_10 (oF W ks .no .no .no x .no) = pure (.nx (oF W ks .no .no .no y .no)) := by
  have src : rr_10_s (oF W ks .no .no .no x .no) = pure (badL W) := xL_eq (call_eq (es_cons (ev_w rfl) es_nil) (no_wheels_eq h))
  obtain ⟨δ', l1, y, l2⟩ := forGo_pre (g := gN 11) (s := rr_10_b) (emb := fun d : D => d) (I := fun _ δ => ∃ y, δ = oF W ks .no .no .no y .no) (xs := badL W) (pre := []) (δ := oF W ks .no .no .no x .no) ⟨_, rfl⟩ (fun p d q δ e ⟨y, eδ⟩ => by
    subst eδ
    exact ⟨_, _, rfl, turn10 (bad_all h d (by rw [List.nil_append] at e; rw [e]; simp)) ks, _, rfl⟩)
  rw [List.map_id'] at l1
  subst l2
  exact ⟨_, for_nx src l1⟩
theorem rr11_eq (h : Wh W) (hk : ∀ k ∈ ks, GdC W k) (hl : ks.length ≤ 6) (x : Sl) : rr_11 (oF W ks .no .no .no x .no) = pure (.rt (.bl true)) := by
  obtain ⟨l1, l2⟩ := du_len (W := W) hl
  have l3 := nd_len (W := W) (ks := ks)
  have lc : ∀ c ∈ duI W ks, c.length ≤ 6 := fun c hc => (by_in hl (du_in hc).1).1
  have sm : f_law_same 4 [.lst [codeD (ndI W ks), codesD (duI W ks)], .lst [codeD (ndI W ks), codesD (duI W ks)]] = pure (.bl true) := same_lst (fun d hd => by
    simp at hd
    rcases hd with rfl | rfl
    · exact same_code 1 (by omega)
    · exact same_codes 0 (by omega) fun c hc => by have := lc c hc; omega) (by simp)
  unfold rr_11
  refine ret_rt ?_
  rw [and_t (call_eq (es_cons (lst_eq (xs := [codeD (ndI W ks), codesD (duI W ks)]) (es_cons (call_eq (es_cons (ev_w rfl) (es_cons (ev_w rfl) es_nil)) (need_eq h hk hl (vw_p W ks))) (es_cons (call_eq (es_cons (ev_w rfl) (es_cons (ev_w rfl) es_nil)) (least_eq h hk hl (vw_p W ks))) es_nil)) (by simp)) (es_cons (lst_eq (xs := [codeD (ndI W ks), codesD (duI W ks)]) (es_cons (ev_w rfl) (es_cons (ev_w rfl) es_nil)) (by simp)) es_nil)) sm)]
  refine (o_eq (repr_ev h hk hl rfl rfl) (ev_v (i := 3) rfl) (eqB_str _ _)).trans ?_
  rw [decide_eq_true rfl]
end
theorem right_yl : Yl 400 (f_law_right [.gen]) fun d => d = .bl true := by
  rw [rr_def]
  refine yl_fn rfl ?_
  refine (yl_seq (n := 45) (j := 300) (P := fun δ => ∃ W, δ = [.val .gen, .val (codesD W), .no, .no, .no, .no, .no, .no, .no, .no, .no, .no, .no] ∧ Wh W) (yl_asg (yl_call (n := 0) (j := 45) (P := fun ds => ds = [.gen, .int 4, .int 30]) (Q := fun d => ∃ W, d = codesD W ∧ Wh W) (yl_eq (es_cons (ev_w rfl) (es_cons ev_k (es_cons ev_k es_nil))) rfl) fun ds e => by
    subst e
    exact wheels_yl) fun d ⟨W, e, h⟩ => ⟨_, by subst e; rfl, W, rfl, h⟩) fun δ ⟨W, e, h⟩ => ?_).mono (by omega) fun _ z => z
  subst e
  refine (yl_seq (n := 260) (j := 20) (P := fun δ => ∃ ks, δ = oR W ks .no .no .no .no .no .no .no .no .no .no ∧ (∀ k ∈ ks, GdC W k) ∧ ks.length ≤ 5) (yl_asg (yl_call (n := 0) (j := 260) (P := fun ds => ds = [.gen, codesD W, .int 5]) (Q := fun d => ∃ ks, (∀ k ∈ ks, GdC W k) ∧ ks.length ≤ 5 ∧ d = cluesD ks) (yl_eq (es_cons (ev_w rfl) (es_cons (ev_w rfl) (es_cons ev_k es_nil))) rfl) fun ds e => by
    subst e
    exact clues_yl h) fun d ⟨ks, hk, hl, e⟩ => ⟨_, by subst e; rfl, ks, rfl, hk, hl⟩) fun δ ⟨ks, e, hk, hl⟩ => ?_).mono (by omega) fun _ z => z
  subst e
  have cutY : Yl 1 (eCut (eV 2) (eNo) (eAt (eCall f_law_random (esC (eW 0) (esC (eK (.int 2)) (esN))))) (oR W ks .no .no .no .no .no .no .no .no .no .no)) fun d => ∃ r : Nat, r < 2 ∧ d = .lst ((ks.take r).map clD) := by
    unfold eCut
    refine yl_step (a := cluesD ks) (ev_v rfl) (yl_step (a := none) ev_no ?_)
    refine (yl_bind (n := 1) (j := 0) (P := fun o : Option Int => ∃ r : Nat, r < 2 ∧ o = some (r : Int)) ?_ fun o ⟨r, hr, e⟩ => ?_).mono (by omega) fun _ z => z
    · unfold eAt
      refine (yl_bind (n := 1) (j := 0) (rand_yl (b := 2) (e := eK (.int 2)) (ev_w rfl) ev_k (by decide) (by decide)) fun d ⟨r, e, hr⟩ => ?_).mono (by omega) fun _ z => z
      subst e
      exact yl_eq (a := some (r : Int)) rfl ⟨r, hr, rfl⟩
    · subst e
      refine yl_eq (a := .lst ((ks.take r).map clD)) ?_ ⟨r, hr, rfl⟩
      refine (cut_ev _ _ _).trans ?_
      rw [cut_take, List.map_take]
  refine (yl_seq (n := 1) (j := 0) (P := fun δ => ∃ ks, δ = oR W ks .no .no .no .no .no .no .no .no .no .no ∧ (∀ k ∈ ks, GdC W k) ∧ ks.length ≤ 6) (yl_asg ((yl_o (n := 0) (j := 1) (P := fun d => d = cluesD ks) (R := fun d => ∃ r : Nat, r < 2 ∧ d = cluesD (ks ++ ks.take r)) (yl_eq (ev_v rfl) rfl) cutY fun x y e ⟨r, hr, e2⟩ => ⟨cluesD (ks ++ ks.take r), by
    subst e
    subst e2
    refine (cat_eq (xs := ks.map clD) (by simp; omega)).trans ?_
    rw [← List.map_append]
    rfl, r, hr, rfl⟩).mono (by omega) fun _ z => z) fun d ⟨r, hr, e⟩ => ⟨_, by subst e; rfl, ks ++ ks.take r, rfl, fun k hk' => by
      rcases List.mem_append.mp hk' with z | z
      · exact hk k z
      · exact hk k (List.mem_of_mem_take z), by rw [List.length_append, List.length_take]; omega⟩) fun δ ⟨ks, e, hk, hl⟩ => ?_).mono (by omega) fun _ z => z
  subst e
  refine yl_seq0 (rr3_eq h hk hl) (yl_seq0 (rr4_eq h hk hl _ _ _ _ _ _ _ _) (yl_seq0 (rr5_eq h hk hl _ _ _ _ _ _ _ _) (yl_seq0 (rr6_eq hl _ _ _ _ _ _ _ _) (yl_seq0 (rr7_eq h hk hl .no rfl) (yl_seq0 (rr8_eq h hk hl) ?_)))))
  obtain ⟨y, e9⟩ := rr9_eq h hk hl
  refine yl_seq0 e9 ?_
  obtain ⟨z, e10⟩ := rr10_eq (ks := ks) h y
  exact yl_seq0 e10 (yl_eq (rr11_eq h hk hl z) ⟨_, rfl, rfl⟩)
theorem math1 (ns : List Int) (i : Nat) (hi : i < 3) : ∃ g2, Ok (eTurn (lawSl 5)) (genOf ns i) (.bl false) g2 := by
  have s0 : DL.St 0 (genOf ns i) := ⟨_, _, _, rfl, Int.emod_nonneg _ (by decide), Int.emod_lt_of_pos _ (by decide), by omega, by omega⟩
  obtain ⟨d1, g1, o1, rfl, s1⟩ := right_yl 0 _ s0 (by omega)
  obtain ⟨d2, g2, o2, rfl, s2⟩ := right_yl _ _ s1 (by omega)
  have run : ∀ g g' : Gs, Ok (f_law_right [.gen]) g (.bl true) g' → Ok (eF dNot (eCall f_law_right (esC (eW 2) (esN))) (lawSl 5)) g (.bl false) g' := fun g g' o =>
    ok_bind.mpr ⟨.bl true, g', ok_bind.mpr ⟨[.gen], g, ok_bind.mpr ⟨.gen, g, ok_pure.mpr ⟨rfl, rfl⟩, ok_pure.mpr ⟨rfl, rfl⟩⟩, o⟩, ok_pure.mpr ⟨rfl, rfl⟩⟩
  exact ⟨g2, ok_bind.mpr ⟨.bl false, g1, run _ _ o1, run _ _ o2⟩⟩
def W0 : List (List Int) := [[0, 1], [0, 1]]
def ks0 : List Cl := [.sum 1, .less 0 1, .right [0, 1] 2]
theorem wh0 : Wh W0 := ⟨by decide, fun c hc => by
  simp [W0] at hc
  subst hc
  exact ⟨by decide, by decide, by decide⟩, by decide, by decide⟩
theorem gd0 : ∀ k ∈ ks0, GdC W0 k := fun k hk => by
  simp [ks0] at hk
  rcases hk with rfl | rfl | rfl
  · exact (by decide : 1 ≤ 100)
  · exact ⟨by decide, by decide, by decide⟩
  · exact ⟨by decide, by decide⟩
theorem math2 : ∃ g2, Ok (sLaw (List.replicate 5 .no)) [] (.rt (.bl true)) g2 := by
  have e : sLaw (List.replicate 5 .no) = pure (.rt (.bl true)) := by
    have n0 := need_eq wh0 gd0 (by decide) (vw_p W0 ks0)
    have l0 := least_eq wh0 gd0 (by decide) (vw_p W0 ks0)
    have n1 := need_eq (ks := []) wh0 (fun k hk => by cases hk) (by decide) (vw_p W0 [])
    have l1 := least_eq (ks := []) wh0 (fun k hk => by cases hk) (by decide) (vw_p W0 [])
    rw [show ndI W0 ks0 = [0, 1, 2] by decide +kernel] at n0
    rw [show duI W0 ks0 = [[1], [2]] by decide +kernel] at l0
    rw [show ndI W0 [] = [] by decide +kernel] at n1
    rw [show duI W0 [] = [[]] by decide +kernel] at l1
    unfold sLaw
    have sp : ∀ (a b : E), a (List.replicate 5 .no) = pure (codesD W0) → b (List.replicate 5 .no) = pure (cluesD ks0) → sPar 3 4 a b (List.replicate 5 .no) = pure (.nx [.no, .no, .no, .val (codesD W0), .val (cluesD ks0)]) := fun a b h1 h2 => ev_par h1 h2
    refine ev_seq (sp _ _ (lst_eq (xs := W0.map codeD) (es_cons (lst_eq (es_cons ev_k (es_cons ev_k es_nil)) (by decide)) (es_cons (lst_eq (es_cons ev_k (es_cons ev_k es_nil)) (by decide)) es_nil)) (by decide)) (lst_eq (xs := ks0.map clD) (es_cons (tup_eq (es_cons ev_k (es_cons ev_k es_nil)) (by decide)) (es_cons (tup_eq (es_cons ev_k (es_cons ev_k (es_cons ev_k es_nil))) (by decide)) (es_cons (tup_eq (es_cons ev_k (es_cons (lst_eq (es_cons ev_k (es_cons ev_k es_nil)) (by decide)) (es_cons ev_k es_nil))) (by decide)) es_nil))) (by decide))) ?_
    refine seqK_nx ?_
    refine ret_rt ?_
    refine o_eq (x := .lst [codeD [0, 1, 2], codesD [[1], [2]], codeD [], codesD [[]]]) (y := .lst [codeD [0, 1, 2], codesD [[1], [2]], codeD [], codesD [[]]]) (lst_eq (es_cons (call_eq (es_cons (ev_w rfl) (es_cons (ev_w rfl) es_nil)) n0) (es_cons (call_eq (es_cons (ev_w rfl) (es_cons (ev_w rfl) es_nil)) l0) (es_cons (call_eq (es_cons (ev_w rfl) (es_cons (lst_eq es_nil (by simp)) es_nil)) n1) (es_cons (call_eq (es_cons (ev_w rfl) (es_cons (lst_eq es_nil (by simp)) es_nil)) l1) es_nil)))) (by simp)) ?_ rfl
    rfl
  rw [e]
  exact ⟨[], rfl⟩
end K78

/-! ## EK78 -/
set_option Elab.async false
set_option autoImplicit false
set_option linter.all false
set_option maxRecDepth 100000
set_option maxHeartbeats 4000000
namespace K78
open PySem PySem.Spec PyProof.Rows L2 DL
theorem bd_is_whole (kV doc pm : Value) (an : Option Addr) (cdv ct : Value) (us : List Value) (hl : us.length = (["value"] : List Str).length) : bindArgs (PySem.W.fnOf "is_whole" "is_whole" (defArgs s_is_whole) (defBody s_is_whole) (defScope s_is_whole) .none kV doc pm an cdv ct) ⟨us, []⟩ = pure ((["value"] : List Str).zip us) := match us, hl with | [_], _ => rfl
theorem bd_is_count (kV doc pm : Value) (an : Option Addr) (cdv ct : Value) (us : List Value) (hl : us.length = (["value"] : List Str).length) : bindArgs (PySem.W.fnOf "is_count" "is_count" (defArgs s_is_count) (defBody s_is_count) (defScope s_is_count) .none kV doc pm an cdv ct) ⟨us, []⟩ = pure ((["value"] : List Str).zip us) := match us, hl with | [_], _ => rfl
theorem bd_ascends (kV doc pm : Value) (an : Option Addr) (cdv ct : Value) (us : List Value) (hl : us.length = (["items"] : List Str).length) : bindArgs (PySem.W.fnOf "ascends" "ascends" (defArgs s_ascends) (defBody s_ascends) (defScope s_ascends) .none kV doc pm an cdv ct) ⟨us, []⟩ = pure ((["items"] : List Str).zip us) := match us, hl with | [_], _ => rfl
theorem bd_are_figures (kV doc pm : Value) (an : Option Addr) (cdv ct : Value) (us : List Value) (hl : us.length = (["value"] : List Str).length) : bindArgs (PySem.W.fnOf "are_figures" "are_figures" (defArgs s_are_figures) (defBody s_are_figures) (defScope s_are_figures) .none kV doc pm an cdv ct) ⟨us, []⟩ = pure ((["value"] : List Str).zip us) := match us, hl with | [_], _ => rfl
theorem bd_are_wheels (kV doc pm : Value) (an : Option Addr) (cdv ct : Value) (us : List Value) (hl : us.length = (["value"] : List Str).length) : bindArgs (PySem.W.fnOf "are_wheels" "are_wheels" (defArgs s_are_wheels) (defBody s_are_wheels) (defScope s_are_wheels) .none kV doc pm an cdv ct) ⟨us, []⟩ = pure ((["value"] : List Str).zip us) := match us, hl with | [_], _ => rfl
theorem bd_check_wheels (kV doc pm : Value) (an : Option Addr) (cdv ct : Value) (us : List Value) (hl : us.length = (["wheels"] : List Str).length) : bindArgs (PySem.W.fnOf "check_wheels" "check_wheels" (defArgs s_check_wheels) (defBody s_check_wheels) (defScope s_check_wheels) .none kV doc pm an cdv ct) ⟨us, []⟩ = pure ((["wheels"] : List Str).zip us) := match us, hl with | [_], _ => rfl
theorem bd_code_fits (kV doc pm : Value) (an : Option Addr) (cdv ct : Value) (us : List Value) (hl : us.length = (["wheels", "value"] : List Str).length) : bindArgs (PySem.W.fnOf "code_fits" "code_fits" (defArgs s_code_fits) (defBody s_code_fits) (defScope s_code_fits) .none kV doc pm an cdv ct) ⟨us, []⟩ = pure ((["wheels", "value"] : List Str).zip us) := match us, hl with | [_, _], _ => rfl
theorem bd_all_codes (kV doc pm : Value) (an : Option Addr) (cdv ct : Value) (us : List Value) (hl : us.length = (["wheels"] : List Str).length) : bindArgs (PySem.W.fnOf "all_codes" "all_codes" (defArgs s_all_codes) (defBody s_all_codes) (defScope s_all_codes) .none kV doc pm an cdv ct) ⟨us, []⟩ = pure ((["wheels"] : List Str).zip us) := match us, hl with | [_], _ => rfl
theorem bd_right_in (kV doc pm : Value) (an : Option Addr) (cdv ct : Value) (us : List Value) (hl : us.length = (["code", "other"] : List Str).length) : bindArgs (PySem.W.fnOf "right_in" "right_in" (defArgs s_right_in) (defBody s_right_in) (defScope s_right_in) .none kV doc pm an cdv ct) ⟨us, []⟩ = pure ((["code", "other"] : List Str).zip us) := match us, hl with | [_, _], _ => rfl
theorem bd_is_wheel_of (kV doc pm : Value) (an : Option Addr) (cdv ct : Value) (us : List Value) (hl : us.length = (["wheels", "value"] : List Str).length) : bindArgs (PySem.W.fnOf "is_wheel_of" "is_wheel_of" (defArgs s_is_wheel_of) (defBody s_is_wheel_of) (defScope s_is_wheel_of) .none kV doc pm an cdv ct) ⟨us, []⟩ = pure ((["wheels", "value"] : List Str).zip us) := match us, hl with | [_, _], _ => rfl
theorem bd_clue_fits (kV doc pm : Value) (an : Option Addr) (cdv ct : Value) (us : List Value) (hl : us.length = (["wheels", "value"] : List Str).length) : bindArgs (PySem.W.fnOf "clue_fits" "clue_fits" (defArgs s_clue_fits) (defBody s_clue_fits) (defScope s_clue_fits) .none kV doc pm an cdv ct) ⟨us, []⟩ = pure ((["wheels", "value"] : List Str).zip us) := match us, hl with | [_, _], _ => rfl
theorem bd_check_clues (kV doc pm : Value) (an : Option Addr) (cdv ct : Value) (us : List Value) (hl : us.length = (["wheels", "clues"] : List Str).length) : bindArgs (PySem.W.fnOf "check_clues" "check_clues" (defArgs s_check_clues) (defBody s_check_clues) (defScope s_check_clues) .none kV doc pm an cdv ct) ⟨us, []⟩ = pure ((["wheels", "clues"] : List Str).zip us) := match us, hl with | [_, _], _ => rfl
theorem bd_does_fit_clue (kV doc pm : Value) (an : Option Addr) (cdv ct : Value) (us : List Value) (hl : us.length = (["code", "clue"] : List Str).length) : bindArgs (PySem.W.fnOf "does_fit_clue" "does_fit_clue" (defArgs s_does_fit_clue) (defBody s_does_fit_clue) (defScope s_does_fit_clue) .none kV doc pm an cdv ct) ⟨us, []⟩ = pure ((["code", "clue"] : List Str).zip us) := match us, hl with | [_, _], _ => rfl
theorem bd_left_by_clues (kV doc pm : Value) (an : Option Addr) (cdv ct : Value) (us : List Value) (hl : us.length = (["wheels", "clues"] : List Str).length) : bindArgs (PySem.W.fnOf "left_by_clues" "left_by_clues" (defArgs s_left_by_clues) (defBody s_left_by_clues) (defScope s_left_by_clues) .none kV doc pm an cdv ct) ⟨us, []⟩ = pure ((["wheels", "clues"] : List Str).zip us) := match us, hl with | [_, _], _ => rfl
theorem bd_codes_left (kV doc pm : Value) (an : Option Addr) (cdv ct : Value) (us : List Value) (hl : us.length = (["wheels", "clues"] : List Str).length) : bindArgs (PySem.W.fnOf "codes_left" "codes_left" (defArgs s_codes_left) (defBody s_codes_left) (defScope s_codes_left) .none kV doc pm an cdv ct) ⟨us, []⟩ = pure ((["wheels", "clues"] : List Str).zip us) := match us, hl with | [_, _], _ => rfl
theorem bd_needless_clues (kV doc pm : Value) (an : Option Addr) (cdv ct : Value) (us : List Value) (hl : us.length = (["wheels", "clues"] : List Str).length) : bindArgs (PySem.W.fnOf "needless_clues" "needless_clues" (defArgs s_needless_clues) (defBody s_needless_clues) (defScope s_needless_clues) .none kV doc pm an cdv ct) ⟨us, []⟩ = pure ((["wheels", "clues"] : List Str).zip us) := match us, hl with | [_, _], _ => rfl
theorem bd_positions_of_size (kV doc pm : Value) (an : Option Addr) (cdv ct : Value) (us : List Value) (hl : us.length = (["many", "size"] : List Str).length) : bindArgs (PySem.W.fnOf "positions_of_size" "positions_of_size" (defArgs s_positions_of_size) (defBody s_positions_of_size) (defScope s_positions_of_size) .none kV doc pm an cdv ct) ⟨us, []⟩ = pure ((["many", "size"] : List Str).zip us) := match us, hl with | [_, _], _ => rfl
theorem bd_least_clues (kV doc pm : Value) (an : Option Addr) (cdv ct : Value) (us : List Value) (hl : us.length = (["wheels", "clues"] : List Str).length) : bindArgs (PySem.W.fnOf "least_clues" "least_clues" (defArgs s_least_clues) (defBody s_least_clues) (defScope s_least_clues) .none kV doc pm an cdv ct) ⟨us, []⟩ = pure ((["wheels", "clues"] : List Str).zip us) := match us, hl with | [_, _], _ => rfl
theorem bd_law_hash (kV doc pm : Value) (an : Option Addr) (cdv ct : Value) (us : List Value) (hl : us.length = (["seed", "index"] : List Str).length) : bindArgs (PySem.W.fnOf "_law_hash" "_law_hash" (defArgs s_law_hash) (defBody s_law_hash) (defScope s_law_hash) .none kV doc pm an cdv ct) ⟨us, []⟩ = pure ((["seed", "index"] : List Str).zip us) := match us, hl with | [_, _], _ => rfl
theorem bd_law_random (kV doc pm : Value) (an : Option Addr) (cdv ct : Value) (us : List Value) (hl : us.length = (["generator", "bound"] : List Str).length) : bindArgs (PySem.W.fnOf "_law_random" "_law_random" (defArgs s_law_random) (defBody s_law_random) (defScope s_law_random) .none kV doc pm an cdv ct) ⟨us, []⟩ = pure ((["generator", "bound"] : List Str).zip us) := match us, hl with | [_, _], _ => rfl
theorem bd_law_cell (kV doc pm : Value) (an : Option Addr) (cdv ct : Value) (us : List Value) (hl : us.length = (["script", "index"] : List Str).length) : bindArgs (PySem.W.fnOf "_law_cell" "_law_cell" (defArgs s_law_cell) (defBody s_law_cell) (defScope s_law_cell) .none kV doc pm an cdv ct) ⟨us, []⟩ = pure ((["script", "index"] : List Str).zip us) := match us, hl with | [_, _], _ => rfl
theorem bd_law_generator (kV doc pm : Value) (an : Option Addr) (cdv ct : Value) (us : List Value) (hl : us.length = (["script", "index"] : List Str).length) : bindArgs (PySem.W.fnOf "_law_generator" "_law_generator" (defArgs s_law_generator) (defBody s_law_generator) (defScope s_law_generator) .none kV doc pm an cdv ct) ⟨us, []⟩ = pure ((["script", "index"] : List Str).zip us) := match us, hl with | [_, _], _ => rfl
theorem bd_law_pick (kV doc pm : Value) (an : Option Addr) (cdv ct : Value) (us : List Value) (hl : us.length = (["generator", "things"] : List Str).length) : bindArgs (PySem.W.fnOf "_law_pick" "_law_pick" (defArgs s_law_pick) (defBody s_law_pick) (defScope s_law_pick) .none kV doc pm an cdv ct) ⟨us, []⟩ = pure ((["generator", "things"] : List Str).zip us) := match us, hl with | [_, _], _ => rfl
theorem bd_law_same (kV doc pm : Value) (an : Option Addr) (cdv ct : Value) (us : List Value) (hl : us.length = (["found", "due"] : List Str).length) : bindArgs (PySem.W.fnOf "_law_same" "_law_same" (defArgs s_law_same) (defBody s_law_same) (defScope s_law_same) .none kV doc pm an cdv ct) ⟨us, []⟩ = pure ((["found", "due"] : List Str).zip us) := match us, hl with | [_, _], _ => rfl
theorem bd_law_shuffled (kV doc pm : Value) (an : Option Addr) (cdv ct : Value) (us : List Value) (hl : us.length = (["generator", "things"] : List Str).length) : bindArgs (PySem.W.fnOf "_law_shuffled" "_law_shuffled" (defArgs s_law_shuffled) (defBody s_law_shuffled) (defScope s_law_shuffled) .none kV doc pm an cdv ct) ⟨us, []⟩ = pure ((["generator", "things"] : List Str).zip us) := match us, hl with | [_, _], _ => rfl
theorem bd_law_wheels (kV doc pm : Value) (an : Option Addr) (cdv ct : Value) (us : List Value) (hl : us.length = (["generator", "most", "codes"] : List Str).length) : bindArgs (PySem.W.fnOf "_law_wheels" "_law_wheels" (defArgs s_law_wheels) (defBody s_law_wheels) (defScope s_law_wheels) .none kV doc pm an cdv ct) ⟨us, []⟩ = pure ((["generator", "most", "codes"] : List Str).zip us) := match us, hl with | [_, _, _], _ => rfl
theorem bd_law_codes (kV doc pm : Value) (an : Option Addr) (cdv ct : Value) (us : List Value) (hl : us.length = (["wheels"] : List Str).length) : bindArgs (PySem.W.fnOf "_law_codes" "_law_codes" (defArgs s_law_codes) (defBody s_law_codes) (defScope s_law_codes) .none kV doc pm an cdv ct) ⟨us, []⟩ = pure ((["wheels"] : List Str).zip us) := match us, hl with | [_], _ => rfl
theorem bd_law_alike (kV doc pm : Value) (an : Option Addr) (cdv ct : Value) (us : List Value) (hl : us.length = (["code", "other"] : List Str).length) : bindArgs (PySem.W.fnOf "_law_alike" "_law_alike" (defArgs s_law_alike) (defBody s_law_alike) (defScope s_law_alike) .none kV doc pm an cdv ct) ⟨us, []⟩ = pure ((["code", "other"] : List Str).zip us) := match us, hl with | [_, _], _ => rfl
theorem bd_law_no_wheels (kV doc pm : Value) (an : Option Addr) (cdv ct : Value) (us : List Value) (hl : us.length = (["wheels"] : List Str).length) : bindArgs (PySem.W.fnOf "_law_no_wheels" "_law_no_wheels" (defArgs s_law_no_wheels) (defBody s_law_no_wheels) (defScope s_law_no_wheels) .none kV doc pm an cdv ct) ⟨us, []⟩ = pure ((["wheels"] : List Str).zip us) := match us, hl with | [_], _ => rfl
theorem bd_law_clue (kV doc pm : Value) (an : Option Addr) (cdv ct : Value) (us : List Value) (hl : us.length = (["generator", "wheels", "hidden"] : List Str).length) : bindArgs (PySem.W.fnOf "_law_clue" "_law_clue" (defArgs s_law_clue) (defBody s_law_clue) (defScope s_law_clue) .none kV doc pm an cdv ct) ⟨us, []⟩ = pure ((["generator", "wheels", "hidden"] : List Str).zip us) := match us, hl with | [_, _, _], _ => rfl
theorem bd_law_has (kV doc pm : Value) (an : Option Addr) (cdv ct : Value) (us : List Value) (hl : us.length = (["code", "clue"] : List Str).length) : bindArgs (PySem.W.fnOf "_law_has" "_law_has" (defArgs s_law_has) (defBody s_law_has) (defScope s_law_has) .none kV doc pm an cdv ct) ⟨us, []⟩ = pure ((["code", "clue"] : List Str).zip us) := match us, hl with | [_, _], _ => rfl
theorem bd_law_left (kV doc pm : Value) (an : Option Addr) (cdv ct : Value) (us : List Value) (hl : us.length = (["wheels", "clues"] : List Str).length) : bindArgs (PySem.W.fnOf "_law_left" "_law_left" (defArgs s_law_left) (defBody s_law_left) (defScope s_law_left) .none kV doc pm an cdv ct) ⟨us, []⟩ = pure ((["wheels", "clues"] : List Str).zip us) := match us, hl with | [_, _], _ => rfl
theorem bd_law_clues (kV doc pm : Value) (an : Option Addr) (cdv ct : Value) (us : List Value) (hl : us.length = (["generator", "wheels", "many"] : List Str).length) : bindArgs (PySem.W.fnOf "_law_clues" "_law_clues" (defArgs s_law_clues) (defBody s_law_clues) (defScope s_law_clues) .none kV doc pm an cdv ct) ⟨us, []⟩ = pure ((["generator", "wheels", "many"] : List Str).zip us) := match us, hl with | [_, _, _], _ => rfl
theorem bd_law_caught (kV doc pm : Value) (an : Option Addr) (cdv ct : Value) (us : List Value) (hl : us.length = (["call", "parts"] : List Str).length) : bindArgs (PySem.W.fnOf "_law_caught" "_law_caught" (defArgs s_law_caught) (defBody s_law_caught) (defScope s_law_caught) .none kV doc pm an cdv ct) ⟨us, []⟩ = pure ((["call", "parts"] : List Str).zip us) := match us, hl with | [_, _], _ => rfl
theorem bd_law_lists (kV doc pm : Value) (an : Option Addr) (cdv ct : Value) (us : List Value) (hl : us.length = (["many"] : List Str).length) : bindArgs (PySem.W.fnOf "_law_lists" "_law_lists" (defArgs s_law_lists) (defBody s_law_lists) (defScope s_law_lists) .none kV doc pm an cdv ct) ⟨us, []⟩ = pure ((["many"] : List Str).zip us) := match us, hl with | [_], _ => rfl
theorem bd_law_right (kV doc pm : Value) (an : Option Addr) (cdv ct : Value) (us : List Value) (hl : us.length = (["generator"] : List Str).length) : bindArgs (PySem.W.fnOf "_law_right" "_law_right" (defArgs s_law_right) (defBody s_law_right) (defScope s_law_right) .none kV doc pm an cdv ct) ⟨us, []⟩ = pure ((["generator"] : List Str).zip us) := match us, hl with | [_], _ => rfl
theorem bd_law (kV doc pm : Value) (an : Option Addr) (cdv ct : Value) (us : List Value) (hl : us.length = (["script"] : List Str).length) : bindArgs (PySem.W.fnOf "law" "law" (defArgs s_law) (defBody s_law) (defScope s_law) .none kV doc pm an cdv ct) ⟨us, []⟩ = pure ((["script"] : List Str).zip us) := match us, hl with | [_], _ => rfl
theorem all_mk {l : PySem.W.OpenLaw} {w : World} {K : PySem.W.Frag} {mg : Str → Option Value} {fa : Addr} (hfa : mg "law" = some (.ref fa)) (B : BltX mg)
    (a_is_whole : At K mg "is_whole" s_is_whole ["value"])
    (a_is_count : At K mg "is_count" s_is_count ["value"])
    (a_ascends : At K mg "ascends" s_ascends ["items"])
    (a_are_figures : At K mg "are_figures" s_are_figures ["value"])
    (a_are_wheels : At K mg "are_wheels" s_are_wheels ["value"])
    (a_check_wheels : At K mg "check_wheels" s_check_wheels ["wheels"])
    (a_code_fits : At K mg "code_fits" s_code_fits ["wheels", "value"])
    (a_all_codes : At K mg "all_codes" s_all_codes ["wheels"])
    (a_right_in : At K mg "right_in" s_right_in ["code", "other"])
    (a_is_wheel_of : At K mg "is_wheel_of" s_is_wheel_of ["wheels", "value"])
    (a_clue_fits : At K mg "clue_fits" s_clue_fits ["wheels", "value"])
    (a_check_clues : At K mg "check_clues" s_check_clues ["wheels", "clues"])
    (a_does_fit_clue : At K mg "does_fit_clue" s_does_fit_clue ["code", "clue"])
    (a_left_by_clues : At K mg "left_by_clues" s_left_by_clues ["wheels", "clues"])
    (a_codes_left : At K mg "codes_left" s_codes_left ["wheels", "clues"])
    (a_needless_clues : At K mg "needless_clues" s_needless_clues ["wheels", "clues"])
    (a_positions_of_size : At K mg "positions_of_size" s_positions_of_size ["many", "size"])
    (a_least_clues : At K mg "least_clues" s_least_clues ["wheels", "clues"])
    (a__law_hash : At K mg "_law_hash" s_law_hash ["seed", "index"])
    (a__law_random : At K mg "_law_random" s_law_random ["generator", "bound"])
    (a__law_cell : At K mg "_law_cell" s_law_cell ["script", "index"])
    (a__law_generator : At K mg "_law_generator" s_law_generator ["script", "index"])
    (a__law_pick : At K mg "_law_pick" s_law_pick ["generator", "things"])
    (a__law_same : At K mg "_law_same" s_law_same ["found", "due"])
    (a__law_shuffled : At K mg "_law_shuffled" s_law_shuffled ["generator", "things"])
    (a__law_wheels : At K mg "_law_wheels" s_law_wheels ["generator", "most", "codes"])
    (a__law_codes : At K mg "_law_codes" s_law_codes ["wheels"])
    (a__law_alike : At K mg "_law_alike" s_law_alike ["code", "other"])
    (a__law_no_wheels : At K mg "_law_no_wheels" s_law_no_wheels ["wheels"])
    (a__law_clue : At K mg "_law_clue" s_law_clue ["generator", "wheels", "hidden"])
    (a__law_has : At K mg "_law_has" s_law_has ["code", "clue"])
    (a__law_left : At K mg "_law_left" s_law_left ["wheels", "clues"])
    (a__law_clues : At K mg "_law_clues" s_law_clues ["generator", "wheels", "many"])
    (a__law_caught : At K mg "_law_caught" s_law_caught ["call", "parts"])
    (a__law_lists : At K mg "_law_lists" s_law_lists ["many"])
    (a__law_right : At K mg "_law_right" s_law_right ["generator"])
    (a_law : At K mg "law" s_law ["script"])
    {A_InvalidClues : Addr} (E_InvalidClues : ErrC l.prog K mg "InvalidClues" A_InvalidClues) (I_InvalidClues : ErrIs K mg "InvalidClues" A_InvalidClues) (n_InvalidClues : PySem.W.kitOne K (.type "NoneType") (.ref A_InvalidClues) = some false)
    (k_InvalidClues_InvalidClues : PySem.W.kitOne K (.ref A_InvalidClues) (.ref A_InvalidClues) = some (decide (PySem.Str.ofString "InvalidClues" = PySem.Str.ofString "InvalidClues")))
    {cE : Value} (hgE : mg "EscapeError" = some cE)
    (x_InvalidClues : PySem.W.exmOne K (.ref A_InvalidClues) cE = some true)
    : ∃ fd : FuncData, (∀ (s : Shared) (v : Value), BindsTo s fd ⟨[v], []⟩ [("script", v)]) ∧ ∀ base : Heap, K.In base → base.Ns mainGlobals mg → FnQ l.prog w K mg base 10 fa fd ["script"] (spLaw K) := by
  obtain ⟨f, fd, h1, h2, h3⟩ := a_law.ex
  cases hfa.symm.trans h1
  refine ⟨fd, fun s v => ?_, fun base _ _ => ?_⟩
  · obtain ⟨oc, od, kV, doc, pm, an, cdv, ct, osl, rfl, lk, hcd⟩ := h2.ex
    exact .of_eq rfl
  have hEm : ∀ z ∈ errs, ∀ C, mg z = some (.ref C) → PySem.W.exmOne K (.ref C) cE = some true := fun z hz C m => by
    simp only [errs, List.mem_cons, List.mem_nil_iff, or_false] at hz
    rcases hz with rfl
    · cases (E_InvalidClues.gC.symm.trans m)
      exact x_InvalidClues
  have hEr : ∀ z, ∀ C, mg z = some (.ref C) → z ∈ errs → ErrIs K mg z C := fun z C m hz => by
    simp only [errs, List.mem_cons, List.mem_nil_iff, or_false] at hz
    rcases hz with rfl
    · cases (E_InvalidClues.gC.symm.trans m)
      exact I_InvalidClues
  have ET_InvalidClues : ErrT K mg errs "InvalidClues" := ⟨A_InvalidClues, E_InvalidClues.gC, fun z C m hz => ⟨hEr z C m hz, by
    simp only [errs, List.mem_cons, List.mem_nil_iff, or_false] at hz
    rcases hz with rfl
    · cases (E_InvalidClues.gC.symm.trans m)
      exact k_InvalidClues_InvalidClues
    ⟩, n_InvalidClues⟩
  have G_needless_clues : ∃ a, mg "needless_clues" = some (.ref a) := by
    obtain ⟨z, _, q, _⟩ := a_needless_clues.ex
    exact ⟨z, q⟩
  have G_least_clues : ∃ a, mg "least_clues" = some (.ref a) := by
    obtain ⟨z, _, q, _⟩ := a_least_clues.ex
    exact ⟨z, q⟩
  have C_is_whole := a_is_whole.cal (P := l.prog) (w := w) (base := base) fun f fd F => w_is_whole B  F
  have C_is_count := a_is_count.cal (P := l.prog) (w := w) (base := base) fun f fd F => w_is_count B C_is_whole F
  have C_ascends := a_ascends.cal (P := l.prog) (w := w) (base := base) fun f fd F => w_ascends B  F
  have C_are_figures := a_are_figures.cal (P := l.prog) (w := w) (base := base) fun f fd F => w_are_figures B C_is_count C_ascends F
  have C_are_wheels := a_are_wheels.cal (P := l.prog) (w := w) (base := base) fun f fd F => w_are_wheels B C_are_figures F
  have C_check_wheels := a_check_wheels.cal (P := l.prog) (w := w) (base := base) fun f fd F => w_check_wheels B C_are_wheels F
  have CB_check_wheels := a_check_wheels.calB (P := l.prog) (w := w) (base := base) fun f fd F => wx_check_wheels B C_are_wheels E_InvalidClues F
  have C_code_fits := a_code_fits.cal (P := l.prog) (w := w) (base := base) fun f fd F => w_code_fits B C_is_count F
  have C_all_codes := a_all_codes.cal (P := l.prog) (w := w) (base := base) fun f fd F => w_all_codes B  F
  have C_right_in := a_right_in.cal (P := l.prog) (w := w) (base := base) fun f fd F => w_right_in B  F
  have C_is_wheel_of := a_is_wheel_of.cal (P := l.prog) (w := w) (base := base) fun f fd F => w_is_wheel_of B C_is_count F
  have C_clue_fits := a_clue_fits.cal (P := l.prog) (w := w) (base := base) fun f fd F => w_clue_fits B C_is_count C_code_fits C_are_figures C_is_wheel_of F
  have C_check_clues := a_check_clues.cal (P := l.prog) (w := w) (base := base) fun f fd F => w_check_clues B C_check_wheels C_clue_fits F
  have CB_check_clues := a_check_clues.calB (P := l.prog) (w := w) (base := base) fun f fd F => wx_check_clues B C_clue_fits CB_check_wheels E_InvalidClues F
  have C_does_fit_clue := a_does_fit_clue.cal (P := l.prog) (w := w) (base := base) fun f fd F => w_does_fit_clue B C_right_in F
  have C_left_by_clues := a_left_by_clues.cal (P := l.prog) (w := w) (base := base) fun f fd F => w_left_by_clues B C_all_codes C_does_fit_clue F
  have C_codes_left := a_codes_left.cal (P := l.prog) (w := w) (base := base) fun f fd F => w_codes_left B C_check_clues C_left_by_clues F
  have C_needless_clues := a_needless_clues.cal (P := l.prog) (w := w) (base := base) fun f fd F => w_needless_clues B C_check_clues C_left_by_clues F
  have CB_needless_clues := a_needless_clues.calB (P := l.prog) (w := w) (base := base) fun f fd F => wx_needless_clues B C_left_by_clues CB_check_clues F
  have C_positions_of_size := a_positions_of_size.cal (P := l.prog) (w := w) (base := base) fun f fd F => w_positions_of_size B  F
  have C_least_clues := a_least_clues.cal (P := l.prog) (w := w) (base := base) fun f fd F => w_least_clues B C_check_clues C_left_by_clues C_positions_of_size F
  have CB_least_clues := a_least_clues.calB (P := l.prog) (w := w) (base := base) fun f fd F => wx_least_clues B CB_check_clues F
  have C__law_hash := a__law_hash.cal (P := l.prog) (w := w) (base := base) fun f fd F => w_law_hash B  F
  have C__law_random := a__law_random.cal (P := l.prog) (w := w) (base := base) fun f fd F => w_law_random B C__law_hash F
  have C__law_pick := a__law_pick.cal (P := l.prog) (w := w) (base := base) fun f fd F => w_law_pick B C__law_random F
  have C__law_same := w_law_same (P := l.prog) (w := w) (base := base) B a__law_same 4
  have C__law_shuffled := a__law_shuffled.cal (P := l.prog) (w := w) (base := base) fun f fd F => w_law_shuffled B C__law_random F
  have C__law_wheels := a__law_wheels.cal (P := l.prog) (w := w) (base := base) fun f fd F => w_law_wheels B C__law_random C__law_shuffled F
  have C__law_codes := a__law_codes.cal (P := l.prog) (w := w) (base := base) fun f fd F => w_law_codes B  F
  have C__law_alike := a__law_alike.cal (P := l.prog) (w := w) (base := base) fun f fd F => w_law_alike B  F
  have C__law_no_wheels := a__law_no_wheels.cal (P := l.prog) (w := w) (base := base) fun f fd F => w_law_no_wheels B  F
  have C__law_clue := a__law_clue.cal (P := l.prog) (w := w) (base := base) fun f fd F => w_law_clue B C__law_random C__law_pick C__law_alike C__law_shuffled F
  have C__law_has := a__law_has.cal (P := l.prog) (w := w) (base := base) fun f fd F => w_law_has B C__law_alike F
  have C__law_left := a__law_left.cal (P := l.prog) (w := w) (base := base) fun f fd F => w_law_left B C__law_codes C__law_has F
  have C__law_clues := a__law_clues.cal (P := l.prog) (w := w) (base := base) fun f fd F => w_law_clues B C__law_pick C__law_random C__law_clue F
  have C__law_lists := a__law_lists.cal (P := l.prog) (w := w) (base := base) fun f fd F => w_law_lists B  F
  have TB : TabB l.prog w K mg base 7 tab := tabB_of fun p hp => by
    simp only [List.mem_cons, List.mem_nil_iff, or_false] at hp
    rcases hp with rfl | rfl
    · exact ⟨_, _, CB_needless_clues.mono (by decide)⟩
    · exact ⟨_, _, CB_least_clues.mono (by decide)⟩
  have C__law_caught := a__law_caught.cal (P := l.prog) (w := w) (base := base) fun f fd F => w_law_caught B TB hgE hEm hEr ET_InvalidClues F
  have C__law_right := a__law_right.cal (P := l.prog) (w := w) (base := base) fun f fd F => w_law_right B C__law_wheels C__law_clues C__law_random C__law_left C__law_lists C_needless_clues C_least_clues C__law_same C_codes_left C__law_caught C__law_no_wheels G_least_clues G_needless_clues F
  obtain ⟨fc, fdc, c1, c2, c3⟩ := a__law_cell.ex
  obtain ⟨fg, fdg, g1, g2, g3⟩ := a__law_generator.ex
  exact q_law B (C__law_right) (C_least_clues) (C_needless_clues) ⟨fg, fdg, g1, g2, g3, q_law_generator B ⟨fc, fdc, c1, c2, c3, q_law_cell B c2⟩ g2⟩ math1 math2 h2
end K78
open PySem PySem.W PyProof.Rows
set_option maxHeartbeats 0 in
theorem PySem.Challenge.cw_escapehall_k78_whole_needless_clues_holds : PySem.Challenge.rw_escapehall_k78_whole_needless_clues.Holds := by
  w_on; o_law; k_head; (case hw => w_witness2)
  k_fill
  refine DL.walk_ofQ (l := PySem.Challenge.rw_escapehall_k78_whole_needless_clues) (n := 63) (k := 10) (x := "script") (sp := fun w => K78.spLaw _) rfl (by decide) rfl ⟨rfl, by decide, by decide⟩ (fun w h Y => PySem.W.kIn_of Y) ?F (fun _ _ a ns hl _ hS => ⟨a, ns, rfl, hS, fun _ => rfl⟩)
  case F =>
    intro w mg fa h KX G hmg
    refine' K78.all_mk hmg ⟨⟨PySem.W.mg_none_of KX G ?z0, PySem.W.mg_none_of KX G ?z1, PySem.W.mg_none_of KX G ?z2, PySem.W.mg_none_of KX G ?z3, PySem.W.mg_none_of KX G ?z4, PySem.W.mg_none_of KX G ?z5, PySem.W.mg_none_of KX G ?z6, PySem.W.mg_none_of KX G ?z7, PySem.W.mg_none_of KX G ?z8, PySem.W.mg_none_of KX G ?z9, PySem.W.mg_none_of KX G ?z10, PySem.W.mg_none_of KX G ?z11, PySem.W.mg_none_of KX G ?z12, PySem.W.mg_none_of KX G ?z13, PySem.W.mg_none_of KX G ?z14, PySem.W.mg_none_of KX G ?z15, PySem.W.mg_none_of KX G ?z16, PySem.W.mg_none_of KX G ?z17, PySem.W.mg_none_of KX G ?z18⟩, PySem.W.mg_none_of KX G ?z19, PySem.W.mg_none_of KX G ?z20, PySem.W.mg_none_of KX G ?z21⟩ (DL.at_mk KX G ?a0 ?l0 ?c0 ?k0 K78.bd_is_whole) (DL.at_mk KX G ?a1 ?l1 ?c1 ?k1 K78.bd_is_count) (DL.at_mk KX G ?a2 ?l2 ?c2 ?k2 K78.bd_ascends) (DL.at_mk KX G ?a3 ?l3 ?c3 ?k3 K78.bd_are_figures) (DL.at_mk KX G ?a4 ?l4 ?c4 ?k4 K78.bd_are_wheels) (DL.at_mk KX G ?a5 ?l5 ?c5 ?k5 K78.bd_check_wheels) (DL.at_mk KX G ?a6 ?l6 ?c6 ?k6 K78.bd_code_fits) (DL.at_mk KX G ?a7 ?l7 ?c7 ?k7 K78.bd_all_codes) (DL.at_mk KX G ?a8 ?l8 ?c8 ?k8 K78.bd_right_in) (DL.at_mk KX G ?a9 ?l9 ?c9 ?k9 K78.bd_is_wheel_of) (DL.at_mk KX G ?a10 ?l10 ?c10 ?k10 K78.bd_clue_fits) (DL.at_mk KX G ?a11 ?l11 ?c11 ?k11 K78.bd_check_clues) (DL.at_mk KX G ?a12 ?l12 ?c12 ?k12 K78.bd_does_fit_clue) (DL.at_mk KX G ?a13 ?l13 ?c13 ?k13 K78.bd_left_by_clues) (DL.at_mk KX G ?a14 ?l14 ?c14 ?k14 K78.bd_codes_left) (DL.at_mk KX G ?a15 ?l15 ?c15 ?k15 K78.bd_needless_clues) (DL.at_mk KX G ?a16 ?l16 ?c16 ?k16 K78.bd_positions_of_size) (DL.at_mk KX G ?a17 ?l17 ?c17 ?k17 K78.bd_least_clues) (DL.at_mk KX G ?a18 ?l18 ?c18 ?k18 K78.bd_law_hash) (DL.at_mk KX G ?a19 ?l19 ?c19 ?k19 K78.bd_law_random) (DL.at_mk KX G ?a20 ?l20 ?c20 ?k20 K78.bd_law_cell) (DL.at_mk KX G ?a21 ?l21 ?c21 ?k21 K78.bd_law_generator) (DL.at_mk KX G ?a22 ?l22 ?c22 ?k22 K78.bd_law_pick) (DL.at_mk KX G ?a23 ?l23 ?c23 ?k23 K78.bd_law_same) (DL.at_mk KX G ?a24 ?l24 ?c24 ?k24 K78.bd_law_shuffled) (DL.at_mk KX G ?a25 ?l25 ?c25 ?k25 K78.bd_law_wheels) (DL.at_mk KX G ?a26 ?l26 ?c26 ?k26 K78.bd_law_codes) (DL.at_mk KX G ?a27 ?l27 ?c27 ?k27 K78.bd_law_alike) (DL.at_mk KX G ?a28 ?l28 ?c28 ?k28 K78.bd_law_no_wheels) (DL.at_mk KX G ?a29 ?l29 ?c29 ?k29 K78.bd_law_clue) (DL.at_mk KX G ?a30 ?l30 ?c30 ?k30 K78.bd_law_has) (DL.at_mk KX G ?a31 ?l31 ?c31 ?k31 K78.bd_law_left) (DL.at_mk KX G ?a32 ?l32 ?c32 ?k32 K78.bd_law_clues) (DL.at_mk KX G ?a33 ?l33 ?c33 ?k33 K78.bd_law_caught) (DL.at_mk KX G ?a34 ?l34 ?c34 ?k34 K78.bd_law_lists) (DL.at_mk KX G ?a35 ?l35 ?c35 ?k35 K78.bd_law_right) (DL.at_mk KX G ?a36 ?l36 ?c36 ?k36 K78.bd_law) (DL.errC_mk KX G ?e0g ?e0gD ?e0iC ?e0tI ?e0sup ?e0clD ?e0op ?e0top ?e0lf ?e0hcd ?e0lc ?e0hvs ?e0hfile ?e0lcc ?e0lC ?e0hbm ?e0sa ?e0ga ?e0gg ?e0noN ?e0kC ?e0exC ?e0veC ?e0tyC ?e0hdC ?e0hsub ?e0hsup) (DL.errIs_mk KX G ?i0g ?i0cl ?i0ga ?i0gg ?i0noN ?i0exC ?i0hdC ?i0ha ?i0hn ?i0ht ?i0hm) ?n0 ?k0_0 (PySem.W.mg_of KX G ?gE) ?x0
    (case a0 => k_is); (case l0 => k_is); (case c0 => k_is); (case k0 => k_is)
    (case a1 => k_is); (case l1 => k_is); (case c1 => k_is); (case k1 => k_is)
    (case a2 => k_is); (case l2 => k_is); (case c2 => k_is); (case k2 => k_is)
    (case a3 => k_is); (case l3 => k_is); (case c3 => k_is); (case k3 => k_is)
    (case a4 => k_is); (case l4 => k_is); (case c4 => k_is); (case k4 => k_is)
    (case a5 => k_is); (case l5 => k_is); (case c5 => k_is); (case k5 => k_is)
    (case a6 => k_is); (case l6 => k_is); (case c6 => k_is); (case k6 => k_is)
    (case a7 => k_is); (case l7 => k_is); (case c7 => k_is); (case k7 => k_is)
    (case a8 => k_is); (case l8 => k_is); (case c8 => k_is); (case k8 => k_is)
    (case a9 => k_is); (case l9 => k_is); (case c9 => k_is); (case k9 => k_is)
    (case a10 => k_is); (case l10 => k_is); (case c10 => k_is); (case k10 => k_is)
    (case a11 => k_is); (case l11 => k_is); (case c11 => k_is); (case k11 => k_is)
    (case a12 => k_is); (case l12 => k_is); (case c12 => k_is); (case k12 => k_is)
    (case a13 => k_is); (case l13 => k_is); (case c13 => k_is); (case k13 => k_is)
    (case a14 => k_is); (case l14 => k_is); (case c14 => k_is); (case k14 => k_is)
    (case a15 => k_is); (case l15 => k_is); (case c15 => k_is); (case k15 => k_is)
    (case a16 => k_is); (case l16 => k_is); (case c16 => k_is); (case k16 => k_is)
    (case a17 => k_is); (case l17 => k_is); (case c17 => k_is); (case k17 => k_is)
    (case a18 => k_is); (case l18 => k_is); (case c18 => k_is); (case k18 => k_is)
    (case a19 => k_is); (case l19 => k_is); (case c19 => k_is); (case k19 => k_is)
    (case a20 => k_is); (case l20 => k_is); (case c20 => k_is); (case k20 => k_is)
    (case a21 => k_is); (case l21 => k_is); (case c21 => k_is); (case k21 => k_is)
    (case a22 => k_is); (case l22 => k_is); (case c22 => k_is); (case k22 => k_is)
    (case a23 => k_is); (case l23 => k_is); (case c23 => k_is); (case k23 => k_is)
    (case a24 => k_is); (case l24 => k_is); (case c24 => k_is); (case k24 => k_is)
    (case a25 => k_is); (case l25 => k_is); (case c25 => k_is); (case k25 => k_is)
    (case a26 => k_is); (case l26 => k_is); (case c26 => k_is); (case k26 => k_is)
    (case a27 => k_is); (case l27 => k_is); (case c27 => k_is); (case k27 => k_is)
    (case a28 => k_is); (case l28 => k_is); (case c28 => k_is); (case k28 => k_is)
    (case a29 => k_is); (case l29 => k_is); (case c29 => k_is); (case k29 => k_is)
    (case a30 => k_is); (case l30 => k_is); (case c30 => k_is); (case k30 => k_is)
    (case a31 => k_is); (case l31 => k_is); (case c31 => k_is); (case k31 => k_is)
    (case a32 => k_is); (case l32 => k_is); (case c32 => k_is); (case k32 => k_is)
    (case a33 => k_is); (case l33 => k_is); (case c33 => k_is); (case k33 => k_is)
    (case a34 => k_is); (case l34 => k_is); (case c34 => k_is); (case k34 => k_is)
    (case a35 => k_is); (case l35 => k_is); (case c35 => k_is); (case k35 => k_is)
    (case a36 => k_is); (case l36 => k_is); (case c36 => k_is); (case k36 => k_is)
    (case z0 => k_is); (case z1 => k_is); (case z2 => k_is); (case z3 => k_is); (case z4 => k_is); (case z5 => k_is); (case z6 => k_is); (case z7 => k_is); (case z8 => k_is); (case z9 => k_is); (case z10 => k_is); (case z11 => k_is); (case z12 => k_is); (case z13 => k_is); (case z14 => k_is); (case z15 => k_is); (case z16 => k_is); (case z17 => k_is); (case z18 => k_is); (case z19 => k_is); (case z20 => k_is); (case z21 => k_is)
    (case e0g => k_is)
    (case e0gD => k_is)
    (case e0iC => k_is)
    (case e0tI => k_is)
    (case e0sup => k_is)
    (case e0clD => k_is)
    (case e0op => k_is)
    (case e0top => rfl)
    (case e0lf => k_is)
    (case e0hcd => k_is)
    (case e0lc => k_is)
    (case e0hvs => rfl)
    (case e0hfile => rfl)
    (case e0lcc => k_is)
    (case e0lC => k_is)
    (case e0hbm => rfl)
    (case e0sa => k_is)
    (case e0ga => k_is)
    (case e0gg => k_is)
    (case e0noN => k_is)
    (case e0kC => k_is)
    (case e0exC => k_is)
    (case e0veC => k_is)
    (case e0tyC => k_is)
    (case e0hdC => k_is)
    (case e0hsub => k_is)
    (case e0hsup => ks_is)
    (case i0g => k_is)
    (case i0cl => k_is)
    (case i0ga => k_is)
    (case i0gg => k_is)
    (case i0noN => k_is)
    (case i0exC => k_is)
    (case i0hdC => k_is)
    (case i0ha => k_is)
    (case i0hn => k_is)
    (case i0ht => k_is)
    (case i0hm => k_is)
    (case n0 => kit_is)
    (case k0_0 => kit_is)
    (case gE => k_is)
    (case x0 => kts_exm)

