import PyProof.Rows.All
import PyProof.ReprReads
import PyProof.P3Eq
import KE.SortData
import KE.DataCmp
import Wide.All
import OpenK.AllK
import Wide.FinOn
import HandS.ForMost
import HandS.Walk
import HandS.IsInst
import HandS.Deep
import HandS.Wide
import HandS.SortOrd
import HandS.Style
import HandS.SortInts
import HandS.WideBits
import PyProof.ZipIter
import KE.GoesEnumKw
import HandS.Ends
import PyProof.Rows.IntMath
import KE.KBits
import PySem.Challenge.RW_escapehall_k76_whole_rows_through_all_co
/-! ## DSem -/
/-! DSem: plain data of Python as a Lean type, and what the constructs of a def do with it. No heap here. -/
set_option autoImplicit false
namespace DL
open PySem

/-- plain data -/
inductive D where
  | non | bl (b : Bool) | int (i : Int) | str (x : Str)
  | lst (xs : List D) | tup (xs : List D) | dct (kvs : List (D × D))
  | gen | fn (x : Str) | exc (c : Str) (d : D)
  /-- read alone, of what stood at the call -/
  | bor (d : D)
  deriving Inhabited

mutual
def D.py : D → PyData
  | .non => .none
  | .bl b => .bool b
  | .int i => .int i
  | .str x => .str x
  | .lst xs => .list (pys xs)
  | .tup xs => .tuple (pys xs)
  | .dct kvs => .dict (pyKv kvs)
  | .gen => .none
  | .fn _ => .none
  | .exc _ _ => .none
  | .bor _ => .none
def pys : List D → List PyData
  | [] => []
  | x :: xs => x.py :: pys xs
def pyKv : List (D × D) → List (PyData × PyData)
  | [] => []
  | (k, v) :: r => (k.py, v.py) :: pyKv r
end
theorem pys_map : ∀ xs : List D, pys xs = xs.map D.py
  | [] => rfl
  | x :: xs => by rw [pys, pys_map xs]; rfl

/-- data that == and repr serve: None, bools, ints, texts, lists and tuples, at most so deep -/
def D.cl : Nat → D → Bool
  | _, .non => true
  | _, .bl _ => true
  | _, .int i => decide (i.natAbs.log2 < 1920)
  | _, .str x => PyData.strOk x
  | n + 1, .lst xs => xs.all (D.cl n)
  | n + 1, .tup xs => xs.all (D.cl n)
  | _, _ => false
/-- a value that is no object -/
def D.imm : D → Bool
  | .non | .bl _ | .int _ | .str _ => true
  | _ => false
/-- an item of what is read alone -/
def wrapB (d : D) : D := if d.imm then d else .bor d
def D.isLst : D → Bool
  | .lst _ => true
  | _ => false

/-! ### what a def does: a state (the generator's three numbers), an exception, or a value; none: not said -/
abbrev Exn := Str × D
abbrev Gs := List Int
def M (α : Type) : Type := Gs → Option (Except Exn α × Gs)
def M.pure {α : Type} (a : α) : M α := fun g => some (.ok a, g)
def M.bind {α β : Type} (m : M α) (f : α → M β) : M β := fun g => match m g with
  | none => none
  | some (.error e, g') => some (.error e, g')
  | some (.ok a, g') => f a g'
instance : Monad M where
  pure := M.pure
  bind := M.bind
def stuck {α : Type} : M α := fun _ => none
def raiseM {α : Type} (c : Str) (d : D) : M α := fun g => some (.error (c, d), g)
theorem M.ext {α : Type} {m n : M α} (h : ∀ g, m g = n g) : m = n := funext h
instance : LawfulMonad M := LawfulMonad.mk' M
  (id_map := fun m => by
    funext g
    show M.bind m (fun a => M.pure a) g = m g
    unfold M.bind M.pure
    cases h : m g with
    | none => rfl
    | some r => obtain ⟨e, g'⟩ := r; cases e <;> rfl)
  (pure_bind := fun a f => rfl)
  (bind_assoc := fun m f k => by
    funext g
    show M.bind (M.bind m f) k g = M.bind m (fun a => M.bind (f a) k) g
    unfold M.bind
    cases h : m g with
    | none => rfl
    | some r => obtain ⟨e, g'⟩ := r; cases e <;> rfl)
theorem pure_def {α : Type} (a : α) : (pure a : M α) = M.pure a := rfl
theorem bind_def {α β : Type} (m : M α) (f : α → M β) : (m >>= f) = M.bind m f := rfl
theorem stuck_bind {α β : Type} (f : α → M β) : (stuck >>= f) = (stuck : M β) := rfl
/-- ok at a state -/
def Ok {α : Type} (m : M α) (g : Gs) (a : α) (g' : Gs) : Prop := m g = some (.ok a, g')
theorem ok_pure {α : Type} {a b : α} {g g' : Gs} : Ok (pure a) g b g' ↔ a = b ∧ g = g' := by
  show (some (Except.ok a, g) : Option (Except Exn α × Gs)) = some (.ok b, g') ↔ _
  constructor
  · intro h; cases h; exact ⟨rfl, rfl⟩
  · rintro ⟨rfl, rfl⟩; rfl
theorem ok_bind {α β : Type} {m : M α} {f : α → M β} {g g2 : Gs} {b : β} : Ok (m >>= f) g b g2 ↔ ∃ a g1, Ok m g a g1 ∧ Ok (f a) g1 b g2 := by
  show M.bind m f g = _ ↔ _
  unfold M.bind Ok
  cases h : m g with
  | none => constructor
            · intro q; cases q
            · rintro ⟨_, _, q, _⟩; cases q
  | some r =>
    obtain ⟨e, g'⟩ := r
    cases e with
    | error e => constructor
                 · intro q; cases q
                 · rintro ⟨_, _, q, _⟩; cases q
    | ok a => constructor
              · intro q; exact ⟨a, g', rfl, q⟩
              · rintro ⟨_, _, q, z⟩; cases q; exact z
theorem not_ok_stuck {α : Type} {g g' : Gs} {a : α} : ¬ Ok (stuck : M α) g a g' := fun h => by cases h

/-! ### values -/
def lim (n : Nat) : Bool := decide (n ≤ 16777216)
def big (i : Int) : Nat := i.natAbs.log2
def liftB (b : Option Bool) : M D := match b with
  | some b => pure (.bl b)
  | none => stuck

/-- a text's order -/
def strLt (x y : Str) : Bool := decide (x.cps.toList < y.cps.toList)

/-- == -/
def dEqB (d e : D) : Option Bool := match d, e with
  | .str x, .str y => some (decide (x = y))
  | .int i, .int j => some (decide (i = j))
  | .bl a, .bl b => some (decide (a = b))
  | d, e => if d.cl 60 && e.cl 60 then some (PyData.eqv d.py e.py) else none
def dEq (d e : D) : M D := liftB (dEqB d e)
def dNe (d e : D) : M D := liftB ((dEqB d e).map (!·))
def dIs (d : D) : M D := match d with
  | .non => pure (.bl true)
  | .fn _ | .gen | .exc _ _ => pure (.bl false)
  | _ => pure (.bl false)
def dIsNot (d : D) : M D := match d with
  | .non => pure (.bl false)
  | _ => pure (.bl true)

def dAdd (d e : D) : M D := match d, e with
  | .int i, .int j => pure (.int (i + j))
  | .str x, .str y => if lim (x.length + y.length) then pure (.str (x ++ y)) else stuck
  | .lst xs, .lst ys => if lim (xs.length + ys.length) then pure (.lst (xs ++ ys)) else stuck
  | _, _ => stuck
def dSub (d e : D) : M D := match d, e with
  | .int i, .int j => pure (.int (i - j))
  | _, _ => stuck
def dMul (d e : D) : M D := match d, e with
  | .int i, .int j => if big i + big j < 1000000 then pure (.int (i * j)) else stuck
  | .lst xs, .int k => if 0 ≤ k ∧ k < 1000000 ∧ lim (xs.length * k.toNat) = true then pure (.lst (List.replicate k.toNat xs).flatten) else stuck
  | _, _ => stuck
def dFdiv (d e : D) : M D := match d, e with
  | .int i, .int j => if 0 < j ∧ big j < 9000 then pure (.int (i / j)) else stuck
  | _, _ => stuck
def dMod (d e : D) : M D := match d, e with
  | .int i, .int j => if 0 < j then pure (.int (i % j)) else stuck
  | _, _ => stuck
def D.isNon : D → Bool
  | .non => true
  | .bor d => d.isNon
  | _ => false
def cmpB (d e : D) : Bool := d.cl 60 && e.cl 60 && PySem.W.alike d.py e.py && !d.isNon
def dLt (d e : D) : M D := match d, e with
  | .int i, .int j => pure (.bl (decide (i < j)))
  | d, e => if cmpB d e then pure (.bl (PySem.W.dataLt d.py e.py)) else stuck
def dLe (d e : D) : M D := match d, e with
  | .int i, .int j => pure (.bl (decide (i ≤ j)))
  | d, e => if cmpB d e then pure (.bl (!PySem.W.dataLt e.py d.py)) else stuck
def dGt (d e : D) : M D := match d, e with
  | .int i, .int j => pure (.bl (decide (j < i)))
  | d, e => if cmpB d e then pure (.bl (PySem.W.dataLt e.py d.py)) else stuck
def dGe (d e : D) : M D := match d, e with
  | .int i, .int j => pure (.bl (decide (j ≤ i)))
  | d, e => if cmpB d e then pure (.bl (!PySem.W.dataLt d.py e.py)) else stuck
def dNot (d : D) : M D := match d with
  | .bl b => pure (.bl (!b))
  | _ => stuck
def dAbs (d : D) : M D := match d with
  | .int i => pure (.int (if i < 0 then -i else i))
  | _ => stuck
def dLen (d : D) : M D := match d with
  | .lst xs => pure (.int xs.length)
  | .tup xs => pure (.int xs.length)
  | .str x => if lim x.length then pure (.int x.length) else stuck
  | _ => stuck

/-- a place in a row of n -/
def place (n : Nat) (i : Int) : Option Nat := if 0 ≤ i then (if i < n then some i.toNat else none) else if -(n : Int) ≤ i then some (i + n).toNat else none
def dIx (d e : D) : M D := match d, e with
  | .lst xs, .int i => match (place xs.length i).bind fun j => xs[j]? with
    | some v => pure v
    | none => stuck
  | .tup xs, .int i => match (place xs.length i).bind fun j => xs[j]? with
    | some v => pure v
    | none => stuck
  | _, _ => stuck
/-- a slice's end -/
def cutEnd (n d : Nat) : Option Int → Nat
  | none => d
  | some i => if i < 0 then (i + n).toNat else min i.toNat n
def cut {α : Type} (xs : List α) (lo hi : Option Int) : List α := (xs.drop (cutEnd xs.length 0 lo)).take (cutEnd xs.length xs.length hi - cutEnd xs.length 0 lo)
def dCut (d : D) (lo hi : Option Int) : M D := match d with
  | .lst xs => pure (.lst (cut xs lo hi))
  | _ => stuck
def dRev (d : D) : M D := match d with
  | .lst xs => pure (.lst xs.reverse)
  | _ => stuck

/-- x in xs -/
def inB (x : D) (ys : List D) : Option Bool :=
  if x.imm && ys.all D.imm then some (ys.any fun y => PyData.eqv y.py x.py)
  else if x.cl 60 && ys.all (D.cl 59) then some (ys.any fun y => PyData.eqv y.py x.py) else none
def dIn (x d : D) : M D := match d with
  | .lst ys => liftB (inB x ys)
  | .tup ys => if x.imm && ys.all D.imm then liftB (inB x ys) else stuck
  | _ => stuck
def dNotIn (x d : D) : M D := match d with
  | .lst ys => liftB ((inB x ys).map (!·))
  | .tup ys => if x.imm && ys.all D.imm then liftB ((inB x ys).map (!·)) else stuck
  | _ => stuck

/-- isinstance(d, T), T by its name -/
def D.ty : D → Option String
  | .non => some "NoneType"
  | .bl _ => some "bool"
  | .int _ => some "int"
  | .str _ => some "str"
  | .lst _ => some "list"
  | .tup _ => some "tuple"
  | .dct _ => some "dict"
  | _ => none
def isTy (d : D) (t : String) : Bool := match d, t with
  | .bl _, "bool" => true
  | .bl _, "int" => true
  | .int _, "int" => true
  | .str _, "str" => true
  | .lst _, "list" => true
  | .tup _, "tuple" => true
  | .dct _, "dict" => true
  | _, _ => false
def dIsI (d : D) (t : String) : M D := match d.ty with
  | some _ => pure (.bl (isTy d t))
  | none => stuck
def dIsI2 (d : D) (t u : String) : M D := match d.ty with
  | some _ => pure (.bl (isTy d t || isTy d u))
  | none => stuck

def bools? : List D → Option (List Bool)
  | [] => some []
  | .bl b :: r => (bools? r).map (b :: ·)
  | _ :: _ => none
def ints? : List D → Option (List Int)
  | [] => some []
  | .int i :: r => (ints? r).map (i :: ·)
  | _ :: _ => none
def strs? : List D → Option (List Str)
  | [] => some []
  | .str x :: r => (strs? r).map (x :: ·)
  | _ :: _ => none
def dAll (d : D) : M D := match d with
  | .lst xs => match bools? xs with
    | some bs => pure (.bl (bs.all id))
    | none => stuck
  | _ => stuck
def dAny (d : D) : M D := match d with
  | .lst xs => match bools? xs with
    | some bs => pure (.bl (bs.any id))
    | none => stuck
  | _ => stuck
def dSum (d : D) : M D := match d with
  | .lst xs => match ints? xs with
    | some ns => pure (.int ns.sum)
    | none => stuck
  | _ => stuck
def dList (d : D) : M D := match d with
  | .lst xs => pure (.lst xs)
  | .tup xs => pure (.lst xs)
  | _ => stuck
def dTuple (d : D) : M D := match d with
  | .lst xs => pure (.tup xs)
  | .tup xs => pure (.tup xs)
  | _ => stuck
/-- the place of the first like one -/
def idxOf? (x : D) : List D → Option Nat
  | [] => none
  | y :: ys => if PyData.eqv y.py x.py then some 0 else (idxOf? x ys).map (· + 1)
def dIndex (d x : D) : M D := match d with
  | .lst ys => if x.imm && ys.all D.imm then (match idxOf? x ys with
    | some j => pure (.int j)
    | none => stuck) else stuck
  | _ => stuck
def D.rp (d : D) : Bool := match d with
  | .dct [] => true
  | d => d.cl 60
def dRepr (d : D) : M D := if d.rp && lim d.py.shown.length then pure (.str d.py.shown) else stuck

/-- a flat list that is read alone -/
def dUnB (d : D) : M D := match d with
  | .bor (.lst xs) => if xs.all D.imm then pure (.lst xs) else stuck
  | d => pure d

/-! ### order, of data of one kind -/
/-- not greater -/
def leD (a b : D) : Bool := !PySem.W.dataLt b.py a.py
def D.tupled : D → Bool
  | .tup (_ :: _) => true
  | _ => false
def D.plainK : D → Bool
  | .non => false
  | .tup _ => false
  | _ => true
def sortableB (xs : List D) : Bool := (xs.all fun a => a.cl 60) && (xs.all fun a => xs.all fun b => PySem.W.alike a.py b.py) && (xs.all D.tupled || xs.all D.plainK)
def dSorted (d : D) : M D := match d with
  | .lst xs => if sortableB xs then pure (.lst (xs.mergeSort leD)) else stuck
  | _ => stuck

/-! ### slots -/
inductive Sl where
  | no
  | val (d : D)
  | own (xs : List D)
abbrev Dlt := List Sl
abbrev E := Dlt → M D
abbrev Es := Dlt → M (List D)
def wipeD (δ : Dlt) : List Nat → Dlt
  | [] => δ
  | i :: r => (wipeD δ r).set i .no
def eK (d : D) : E := fun _ => pure d
def eV (i : Nat) : E := fun δ => match δ[i]? with
  | some (.val d) => pure d
  | some (.own xs) => pure (.lst xs)
  | _ => stuck
def eF (f : D → M D) (a : E) : E := fun δ => a δ >>= f
def eO (f : D → D → M D) (a b : E) : E := fun δ => a δ >>= fun x => b δ >>= fun y => f x y
def esN : Es := fun _ => pure []
def esC (a : E) (r : Es) : Es := fun δ => a δ >>= fun x => r δ >>= fun xs => pure (x :: xs)
def eLst (es : Es) : E := fun δ => es δ >>= fun xs => if lim xs.length then pure (.lst xs) else stuck
def eTup (es : Es) : E := fun δ => es δ >>= fun xs => if lim xs.length then pure (.tup xs) else stuck
def eCall (f : List D → M D) (es : Es) : E := fun δ => es δ >>= f
def eAnd (a b : E) : E := fun δ => a δ >>= fun x => match x with
  | .bl true => b δ
  | .bl false => pure (.bl false)
  | _ => stuck
def eOr (a b : E) : E := fun δ => a δ >>= fun x => match x with
  | .bl false => b δ
  | .bl true => pure (.bl true)
  | _ => stuck
def eIf (c a b : E) : E := fun δ => c δ >>= fun x => match x with
  | .bl true => a δ
  | .bl false => b δ
  | _ => stuck
/-- an end of a slice -/
def eNo : Dlt → M (Option Int) := fun _ => pure none
def eAt (a : E) : Dlt → M (Option Int) := fun δ => a δ >>= fun x => match x with
  | .int i => pure (some i)
  | _ => stuck
def eCut (a : E) (lo hi : Dlt → M (Option Int)) : E := fun δ => a δ >>= fun x => lo δ >>= fun l => hi δ >>= fun h => dCut x l h

/-! ### targets, sources, comprehensions -/
abbrev G := D → Dlt → Option Dlt
def gN (i : Nat) : G := fun d δ => some (δ.set i (.val d))
def gGo : List G → List D → Dlt → Option Dlt
  | [], [], δ => some δ
  | g :: gs, d :: ds, δ => (g d δ).bind fun δ' => gGo gs ds δ'
  | _, _, _ => none
def gT (gs : List G) : G := fun d δ => match d with
  | .tup ds => gGo gs ds δ
  | _ => none
def liftG (o : Option Dlt) : M Dlt := match o with
  | some δ => pure δ
  | none => stuck
def rowOf (d : D) : M (List D) := match d with
  | .lst xs => pure xs
  | .bor (.lst xs) => pure (xs.map wrapB)
  | _ => stuck
def rowOfT (d : D) : M (List D) := match d with
  | .tup xs => pure xs
  | _ => stuck
def xL (a : E) : Es := fun δ => a δ >>= rowOf
def xT (a : E) : Es := fun δ => a δ >>= rowOfT
def xR (a : E) : Es := fun δ => a δ >>= fun x => match x with
  | .int j => if -1000000 < j ∧ j < 1000000 then pure ((List.range j.toNat).map fun k => .int (k : Nat)) else stuck
  | _ => stuck
def xR2 (a b : E) : Es := fun δ => a δ >>= fun x => b δ >>= fun y => match x, y with
  | .int i, .int j => if -1000000 < i ∧ i < 1000000 ∧ -1000000 < j ∧ j < 1000000 then pure ((List.range (j - i).toNat).map fun k => .int (i + (k : Nat))) else stuck
  | _, _ => stuck
def numFrom : Nat → List D → List D
  | _, [] => []
  | n, x :: xs => .tup [.int n, x] :: numFrom (n + 1) xs
def xE (a : E) : Es := fun δ => a δ >>= fun x => match x with
  | .lst xs => pure (numFrom 0 xs)
  | _ => stuck
def xV (a : E) : Es := fun δ => a δ >>= fun x => match x with
  | .lst xs => pure xs.reverse
  | _ => stuck
def zip2 : List D → List D → List D
  | x :: xs, y :: ys => .tup [x, y] :: zip2 xs ys
  | _, _ => []
def zip3 : List D → List D → List D → List D
  | x :: xs, y :: ys, z :: zs => .tup [x, y, z] :: zip3 xs ys zs
  | _, _, _ => []
def xZ (a b : E) : Es := fun δ => a δ >>= fun x => b δ >>= fun y => match x, y with
  | .lst xs, .lst ys => pure (zip2 xs ys)
  | _, _ => stuck
/-- strict: of one length -/
def xZs (a b : E) : Es := fun δ => a δ >>= fun x => b δ >>= fun y => match x, y with
  | .lst xs, .lst ys => if xs.length = ys.length then pure (zip2 xs ys) else stuck
  | _, _ => stuck
def xZ3 (a b c : E) : Es := fun δ => a δ >>= fun x => b δ >>= fun y => c δ >>= fun z => match x, y, z with
  | .lst xs, .lst ys, .lst zs => pure (zip3 xs ys zs)
  | _, _, _ => stuck
def lcGo (g : G) (tt te : E) (δ : Dlt) : List D → M (List D)
  | [] => pure []
  | x :: xs => liftG (g x δ) >>= fun δ' => tt δ' >>= fun b => match b with
    | .bl true => te δ' >>= fun y => lcGo g tt te δ xs >>= fun ys => pure (y :: ys)
    | .bl false => lcGo g tt te δ xs
    | _ => stuck
def eLc (vs : List Nat) (g : G) (src : Es) (tt te : E) : E := fun δ => src δ >>= fun xs => lcGo g tt te (wipeD δ vs) xs >>= fun ys => if lim ys.length then pure (.lst ys) else stuck
def lc2Go (g : G) (tt : E) (in1 : Es) (δ : Dlt) : List D → M (List D)
  | [] => pure []
  | x :: xs => liftG (g x δ) >>= fun δ' => tt δ' >>= fun b => match b with
    | .bl true => in1 δ' >>= fun zs => lc2Go g tt in1 δ xs >>= fun ys => pure (zs ++ ys)
    | .bl false => lc2Go g tt in1 δ xs
    | _ => stuck
def eLc2 (vs vs1 : List Nat) (g : G) (src : Es) (tt : E) (g1 : G) (src1 : Es) (tt1 te : E) : E := fun δ => src δ >>= fun xs =>
  lc2Go g tt (fun δ' => src1 δ' >>= fun zs => lcGo g1 tt1 te (wipeD δ' vs1) zs) (wipeD δ vs) xs >>= fun ys => if lim ys.length then pure (.lst ys) else stuck

/-! ### statements -/
inductive Fl where
  | nx (δ : Dlt)
  | rt (d : D)
  | bk (δ : Dlt)
  | ct (δ : Dlt)
abbrev S := Dlt → M Fl
def sSkip : S := fun δ => pure (.nx δ)
def sSeq (a b : S) : S := fun δ => a δ >>= fun r => match r with
  | .nx δ' => b δ'
  | r => pure r
def sAsg (g : G) (e : E) : S := fun δ => e δ >>= fun d => liftG (g d δ) >>= fun δ' => pure (.nx δ')
/-- a new list of one's own: x = [..], x = list(..) -/
def sOwn (i : Nat) (e : E) : S := fun δ => e δ >>= fun d => match d with
  | .lst xs => pure (.nx (δ.set i (.own xs)))
  | _ => stuck
/-- a list of one's own is shared from here on -/
def sFrz (i : Nat) : S := fun δ => match δ[i]? with
  | some (.own xs) => pure (.nx (δ.set i (.val (.lst xs))))
  | _ => stuck
/-- x.append(e) -/
def sApp (i : Nat) (e : E) : S := fun δ => e δ >>= fun d => match δ[i]? with
  | some (.own xs) => if lim (xs.length + 1) then pure (.nx (δ.set i (.own (xs ++ [d])))) else stuck
  | _ => stuck
def sPar (i j : Nat) (a b : E) : S := fun δ => a δ >>= fun x => b δ >>= fun y => pure (.nx ((δ.set i (.val x)).set j (.val y)))
def sIf (c : E) (a b : S) : S := fun δ => c δ >>= fun x => match x with
  | .bl true => a δ
  | .bl false => b δ
  | _ => stuck
def sRet (e : E) : S := fun δ => e δ >>= fun d => pure (.rt d)
def sRetN : S := fun _ => pure (.rt .non)
def sDo (e : E) : S := fun δ => e δ >>= fun _ => pure (.nx δ)
def sRaise (c : Str) (e : E) : S := fun δ => e δ >>= fun d => raiseM c d
def sBreak : S := fun δ => pure (.bk δ)
def sCont : S := fun δ => pure (.ct δ)
def forGo (g : G) (body : S) : List D → Dlt → M Fl
  | [], δ => pure (.nx δ)
  | x :: xs, δ => liftG (g x δ) >>= fun δ1 => body δ1 >>= fun r => match r with
    | .nx δ' => forGo g body xs δ'
    | .ct δ' => forGo g body xs δ'
    | .bk δ' => pure (.nx δ')
    | .rt d => pure (.rt d)
def sFor (g : G) (src : Es) (body : S) : S := fun δ => src δ >>= fun xs => forGo g body xs δ
def whGo (c : E) (body : S) : Nat → Dlt → M Fl
  | 0, _ => stuck
  | n + 1, δ => c δ >>= fun x => match x with
    | .bl true => body δ >>= fun r => match r with
      | .nx δ' => whGo c body n δ'
      | .ct δ' => whGo c body n δ'
      | .bk δ' => pure (.nx δ')
      | .rt d => pure (.rt d)
    | .bl false => pure (.nx δ)
    | _ => stuck
def sWh (n : Nat) (c : E) (body : S) : S := fun δ => whGo c body n δ
/-- a def: its slots, its parameters' number, its body -/
def startD (n : Nat) (ds : List D) : Dlt := ds.map Sl.val ++ List.replicate (n - ds.length) .no
def fn (n : Nat) (p : Nat) (body : S) : List D → M D := fun ds => if ds.length = p then (body (startD n ds) >>= fun r => match r with
  | .nx _ => pure .non
  | .rt d => pure d
  | _ => stuck) else stuck
end DL

/-! ## DCore -/
set_option Elab.async false
set_option autoImplicit false
set_option linter.all false
set_option maxRecDepth 100000
set_option maxHeartbeats 2000000
/-! DCore: plain data on the abstract heap; steps; readings that speak of plain data alone. -/
namespace DL
open PySem PySem.Spec PyProof.Rows L2

/-- where one stands: the written part, the module's names, the generator's address -/
structure C where
  K : PySem.W.Frag
  mg : Str → Option Value
  ga : Option Addr
  bo : Hp

mutual
/-- the value v stands for the datum d, by the objects of F alone -/
inductive Rep (c : C) : Hp → V → D → Prop
  | non {F : Hp} : Rep c F .non .non
  | bl {F : Hp} (b : Bool) : Rep c F (.bl b) (.bl b)
  | int {F : Hp} (i : Int) : Rep c F (.int i) (.int i)
  | str {F : Hp} (x : Str) : Rep c F (.str x) (.str x)
  | lst {F : Hp} {a : Addr} {vs : List V} {ds : List D} : F a = some (.lst vs) → RepAll c F vs ds → Rep c F (.ref a) (.lst ds)
  | tup {F : Hp} {a : Addr} {vs : List V} {ds : List D} : F a = some (.tup vs) → RepAll c F vs ds → Rep c F (.ref a) (.tup ds)
  | dct0 {F : Hp} {a : Addr} : F a = some (.dK []) → Rep c F (.ref a) (.dct [])
  | gen {F : Hp} {a : Addr} : c.ga = some a → Rep c F (.ref a) .gen
  | fn {F : Hp} {a : Addr} {x : Str} : c.mg x = some (.ref a) → Rep c F (.ref a) (.fn x)
  | bor {F : Hp} {v : V} {d : D} : Rep c c.bo v d → Rep c F v (.bor d)
inductive RepAll (c : C) : Hp → List V → List D → Prop
  | nil {F : Hp} : RepAll c F [] []
  | cons {F : Hp} {v : V} {vs : List V} {d : D} {ds : List D} : Rep c F v d → RepAll c F vs ds → RepAll c F (v :: vs) (d :: ds)
end
section
variable {c : C} {F F' H H' : Hp}
mutual
theorem Rep.mono (s : Same F F') : ∀ (d : D) (v : V), Rep c F v d → Rep c F' v d
  | .non, _, h => by cases h; exact .non
  | .bl b, _, h => by cases h; exact .bl b
  | .int i, _, h => by cases h; exact .int i
  | .str x, _, h => by cases h; exact .str x
  | .lst ds, _, h => by
    cases h with
    | lst e q => exact .lst (s _ _ e) (RepAll.mono s ds _ q)
  | .tup ds, _, h => by
    cases h with
    | tup e q => exact .tup (s _ _ e) (RepAll.mono s ds _ q)
  | .dct kvs, _, h => by
    cases h with
    | dct0 e => exact .dct0 (s _ _ e)
  | .gen, _, h => by
    cases h with
    | gen e => exact .gen e
  | .fn x, _, h => by
    cases h with
    | fn e => exact .fn e
  | .exc _ _, _, h => by cases h
  | .bor d, _, h => by
    cases h with
    | bor q => exact .bor q
theorem RepAll.mono (s : Same F F') : ∀ (ds : List D) (vs : List V), RepAll c F vs ds → RepAll c F' vs ds
  | [], _, h => by cases h; exact .nil
  | d :: ds, _, h => by
    cases h with
    | cons q r => exact .cons (Rep.mono s d _ q) (RepAll.mono s ds _ r)
end
theorem Rep.up (s : Same F F') {d : D} {v : V} (h : Rep c F v d) : Rep c F' v d := Rep.mono s d v h
theorem RepAll.up (s : Same F F') {ds : List D} {vs : List V} (h : RepAll c F vs ds) : RepAll c F' vs ds := RepAll.mono s ds vs h
theorem RepAll.length : ∀ {vs : List V} {ds : List D}, RepAll c F vs ds → vs.length = ds.length
  | _, _, .nil => rfl
  | _, _, .cons _ t => by simp [RepAll.length t]
theorem RepAll.append : ∀ {vs us : List V} {ds es : List D}, RepAll c F vs ds → RepAll c F us es → RepAll c F (vs ++ us) (ds ++ es)
  | _, _, _, _, .nil, s => s
  | _, _, _, _, .cons r t, s => .cons r (RepAll.append t s)
theorem RepAll.get : ∀ {vs : List V} {ds : List D} {i : Nat} {d : D}, RepAll c F vs ds → ds[i]? = some d → ∃ v, vs[i]? = some v ∧ Rep c F v d
  | _, _, _, _, .nil, e => by simp at e
  | _, _, 0, _, .cons r _, e => by simp at e; subst e; exact ⟨_, rfl, r⟩
  | _, _, i + 1, d, .cons _ t, e => by
    obtain ⟨v, h1, h2⟩ := RepAll.get (i := i) (d := d) t (by simpa using e)
    exact ⟨v, by simpa using h1, h2⟩
theorem RepAll.getV : ∀ {vs : List V} {ds : List D} {i : Nat} {v : V}, RepAll c F vs ds → vs[i]? = some v → ∃ d, ds[i]? = some d ∧ Rep c F v d
  | _, _, _, _, .nil, e => by simp at e
  | _, _, 0, _, .cons r _, e => by simp at e; subst e; exact ⟨_, rfl, r⟩
  | _, _, i + 1, d, .cons _ t, e => by
    obtain ⟨v, h1, h2⟩ := RepAll.getV (i := i) (v := d) t (by simpa using e)
    exact ⟨v, by simpa using h1, h2⟩
theorem RepAll.take : ∀ {vs : List V} {ds : List D} (n : Nat), RepAll c F vs ds → RepAll c F (vs.take n) (ds.take n)
  | _, _, 0, _ => by simp; exact .nil
  | _, _, _ + 1, .nil => .nil
  | _, _, n + 1, .cons r t => .cons r (RepAll.take n t)
theorem RepAll.drop : ∀ {vs : List V} {ds : List D} (n : Nat), RepAll c F vs ds → RepAll c F (vs.drop n) (ds.drop n)
  | _, _, 0, r => r
  | _, _, _ + 1, .nil => .nil
  | _, _, n + 1, .cons _ t => RepAll.drop n t
theorem RepAll.reverse {vs : List V} {ds : List D} (h : RepAll c F vs ds) : RepAll c F vs.reverse ds.reverse := by
  induction vs generalizing ds with
  | nil => cases h; exact .nil
  | cons v vs ih =>
    cases h with
    | cons r t =>
      rw [List.reverse_cons, List.reverse_cons]
      exact (ih t).append (.cons r .nil)
theorem RepAll.ints : ∀ ns : List Int, RepAll c F (ns.map V.int) (ns.map D.int)
  | [] => .nil
  | n :: ns => .cons (.int n) (RepAll.ints ns)
theorem RepAll.ofInts : ∀ {ns : List Int} {vs : List V}, RepAll c F vs (ns.map D.int) → vs = ns.map V.int
  | [], _, h => by cases h; rfl
  | n :: ns, _, h => by
    cases h with
    | cons r t => cases r; rw [RepAll.ofInts t]; rfl
theorem ints_map : ∀ {xs : List D} {ns : List Int}, ints? xs = some ns → xs = ns.map D.int
  | [], _, h => by cases h; rfl
  | .int i :: r, _, h => by
    unfold ints? at h
    obtain ⟨ms, e, rfl⟩ := Option.map_eq_some_iff.mp h
    rw [ints_map e]
    rfl
theorem bools_map : ∀ {xs : List D} {ns : List Bool}, bools? xs = some ns → xs = ns.map D.bl
  | [], _, h => by cases h; rfl
  | .bl i :: r, _, h => by
    unfold bools? at h
    obtain ⟨ms, e, rfl⟩ := Option.map_eq_some_iff.mp h
    rw [bools_map e]
    rfl
theorem RepAll.ofBools : ∀ {ns : List Bool} {vs : List V}, RepAll c F vs (ns.map D.bl) → vs = ns.map V.bl
  | [], _, h => by cases h; rfl
  | n :: ns, _, h => by
    cases h with
    | cons r t => cases r; rw [RepAll.ofBools t]; rfl
end

/-- the generator's list -/
structure GenOk (c : C) (F H : Hp) (g : Gs) : Prop where
  gen : ∀ a, c.ga = some a → F a = none ∧ H a = some (.lst (g.map V.int))
  bo : Same c.bo H
  nb : ∀ a, c.ga = some a → c.bo a = none
/-- from (F, H) on: what was relied on stands, what was tracked stands but for the generator, what is newly relied on is new -/
structure Stp (c : C) (F H F' H' : Hp) (g : Gs) : Prop where
  sub : Same F F'
  ext : ∀ a o, c.ga ≠ some a → H a = some o → H' a = some o
  new : ∀ a, F' a ≠ none → F a = none → H a = none
  le : Same F' H'
  gen : GenOk c F' H' g
section
variable {c : C} {F H F1 H1 F2 H2 : Hp} {g g1 g2 : Gs}
theorem Stp.refl (le : Same F H) (gen : GenOk c F H g) : Stp c F H F H g := ⟨Same.refl F, fun _ _ _ e => e, fun _ h1 h2 => absurd h2 h1, le, gen⟩
theorem Stp.trans (x : Stp c F H F1 H1 g1) (y : Stp c F1 H1 F2 H2 g2) : Stp c F H F2 H2 g2 := by
  refine ⟨x.sub.trans y.sub, fun a o n e => y.ext a o n (x.ext a o n e), fun a h1 h2 => ?_, y.le, y.gen⟩
  by_cases h : F1 a = none
  · have q := y.new a h1 h
    cases e : H a with
    | none => rfl
    | some o =>
      by_cases n : c.ga = some a
      · exact absurd (y.gen.gen a n).1 h1
      · rw [x.ext a o n e] at q; cases q
  · exact x.new a h h2
/-- a new object is laid and relied on -/
theorem Stp.lay {p : Addr} {o : HO} (le : Same F H) (gen : GenOk c F H g) (hp : H p = none) : Stp c F H (upd F p o) (upd H p o) g := by
  have fp : F p = none := by
    cases e : F p with
    | none => rfl
    | some u => rw [le p u e] at hp; cases hp
  refine ⟨fun b u e => ?_, fun a u _ e => ?_, fun a h1 h2 => ?_, fun b u e => ?_, ⟨fun a n => ?_, fun b u e => by rw [upd_ne (ne_of_none (gen.bo b u e) hp)]; exact gen.bo b u e, gen.nb⟩⟩
  · rw [upd_ne (ne_of_none e fp)]; exact e
  · rw [upd_ne (ne_of_none e hp)]; exact e
  · by_cases h : a = p
    · rw [h]; exact hp
    · rw [upd_ne h] at h1; exact absurd h2 h1
  · by_cases h : b = p
    · subst h; rw [upd_same] at e ⊢; exact e
    · rw [upd_ne h] at e ⊢; exact le b u e
  · obtain ⟨q1, q2⟩ := gen.gen a n
    have h : a ≠ p := ne_of_none q2 hp
    rw [upd_ne h, upd_ne h]; exact ⟨q1, q2⟩
/-- a new object is laid, not relied on -/
theorem Stp.tmp {p : Addr} {o : HO} (le : Same F H) (gen : GenOk c F H g) (hp : H p = none) : Stp c F H F (upd H p o) g := by
  refine ⟨Same.refl F, fun a u _ e => ?_, fun a h1 h2 => absurd h2 h1, fun b u e => ?_, ⟨fun a n => ?_, fun b u e => by rw [upd_ne (ne_of_none (gen.bo b u e) hp)]; exact gen.bo b u e, gen.nb⟩⟩
  · rw [upd_ne (ne_of_none e hp)]; exact e
  · rw [upd_ne (ne_of_none (le b u e) hp)]; exact le b u e
  · obtain ⟨q1, q2⟩ := gen.gen a n
    have h : a ≠ p := ne_of_none q2 hp
    rw [upd_ne h]; exact ⟨q1, q2⟩
end

/-- a value that is read now: relied on, or a list of one's own whose items are relied on -/
def RepB (c : C) (F H : Hp) (v : V) (d : D) : Prop := Rep c F v d ∨ ∃ a vs ds, v = .ref a ∧ d = .lst ds ∧ H a = some (.lst vs) ∧ c.ga ≠ some a ∧ RepAll c F vs ds
theorem RepB.step {c : C} {F H F' H' : Hp} {g : Gs} {v : V} {d : D} (r : RepB c F H v d) (s : Stp c F H F' H' g) : RepB c F' H' v d := by
  rcases r with r | ⟨a, vs, ds, e1, e2, e3, e4, r⟩
  · exact .inl (r.up s.sub)
  · exact .inr ⟨a, vs, ds, e1, e2, s.ext _ _ e4 e3, e4, r.up s.sub⟩
theorem Rep.b {c : C} {F H : Hp} {v : V} {d : D} (r : Rep c F v d) : RepB c F H v d := .inl r
/-- the list that is read -/
theorem RepB.lst {c : C} {F H : Hp} {v : V} {ds : List D} (r : RepB c F H v (.lst ds)) (le : Same F H) : ∃ a vs, v = .ref a ∧ H a = some (.lst vs) ∧ RepAll c F vs ds := by
  rcases r with r | ⟨a, vs, ds', e1, e2, e3, e4, r⟩
  · cases r with
    | lst e q => exact ⟨_, _, rfl, le _ _ e, q⟩
  · cases e2
    exact ⟨a, vs, e1, e3, r⟩
theorem RepB.rep {c : C} {F H : Hp} {v : V} {d : D} (r : RepB c F H v d) (h : d.isLst = false) : Rep c F v d := by
  rcases r with r | ⟨a, vs, ds', e1, e2, e3, e4, r⟩
  · exact r
  · subst e2; cases h

/-- the slots and the heap at a place of a def that was entered at H0 -/
structure Wd (c : C) (H0 F H : Hp) (σ : L2.St) (δ : Dlt) (g : Gs) : Prop where
  le : Same F H
  gen : GenOk c F H g
  len : δ.length = σ.length
  val : ∀ (i : Nat) (d : D), δ[i]? = some (Sl.val d) → ∃ v, σ[i]? = some (some v) ∧ Rep c F v d
  own : ∀ (i : Nat) (xs : List D), δ[i]? = some (Sl.own xs) → ∃ a vs, σ[i]? = some (some (V.ref a)) ∧ H a = some (.lst vs) ∧ F a = none ∧ H0 a = none ∧ c.ga ≠ some a ∧ RepAll c F vs xs
  apart : ∀ (i j : Nat) (xs ys : List D), i ≠ j → δ[i]? = some (Sl.own xs) → δ[j]? = some (Sl.own ys) → σ[i]? ≠ σ[j]?
  bo0 : Same c.bo H0
section
variable {c : C} {H0 F H F' H' : Hp} {σ : L2.St} {δ : Dlt} {g g' : Gs}
theorem Wd.step (w : Wd c H0 F H σ δ g) (s : Stp c F H F' H' g') : Wd c H0 F' H' σ δ g' := by
  refine ⟨s.le, s.gen, w.len, fun i d e => ?_, fun i xs e => ?_, w.apart, w.bo0⟩
  · obtain ⟨v, e1, r⟩ := w.val i d e
    exact ⟨v, e1, r.up s.sub⟩
  · obtain ⟨a, vs, e1, e2, e3, e4, e5, r⟩ := w.own i xs e
    refine ⟨a, vs, e1, s.ext _ _ e5 e2, ?_, e4, e5, r.up s.sub⟩
    by_cases h : F' a = none
    · exact h
    · have q := s.new a h e3
      rw [e2] at q; cases q
theorem Wd.set {i : Nat} {v : V} {d : D} (w : Wd c H0 F H σ δ g) (r : Rep c F v d) : Wd c H0 F H (σ.set i (some v)) (δ.set i (.val d)) g := by
  refine ⟨w.le, w.gen, by simp [w.len], fun j e h => ?_, fun j xs h => ?_, fun j k xs ys ne h1 h2 => ?_, w.bo0⟩
  · by_cases hj : i = j
    · subst hj
      by_cases hl : i < δ.length
      · rw [List.getElem?_set_self hl] at h
        cases h
        exact ⟨v, by rw [List.getElem?_set_self (by rw [← w.len]; exact hl)], r⟩
      · rw [List.getElem?_eq_none (by simpa using hl)] at h; cases h
    · rw [List.getElem?_set_ne hj] at h ⊢
      exact w.val j e h
  · by_cases hj : i = j
    · subst hj
      by_cases hl : i < δ.length
      · rw [List.getElem?_set_self hl] at h; cases h
      · rw [List.getElem?_eq_none (by simpa using hl)] at h; cases h
    · rw [List.getElem?_set_ne hj] at h ⊢
      exact w.own j xs h
  · have nj : ∀ (k : Nat) (zs : List D), (δ.set i (Sl.val d))[k]? = some (Sl.own zs) → i ≠ k := fun k zs h e => by
      subst e
      by_cases hl : i < δ.length
      · rw [List.getElem?_set_self hl] at h; cases h
      · rw [List.getElem?_eq_none (by simpa using hl)] at h; cases h
    have a1 := nj j xs h1
    have a2 := nj k ys h2
    rw [List.getElem?_set_ne a1] at h1 ⊢
    rw [List.getElem?_set_ne a2] at h2 ⊢
    exact w.apart j k xs ys ne h1 h2
theorem Wd.forget {i : Nat} {x : Option V} (w : Wd c H0 F H σ δ g) : Wd c H0 F H (σ.set i x) (δ.set i .no) g := by
  have nj : ∀ (k : Nat) (s : Sl), (δ.set i Sl.no)[k]? = some s → s ≠ .no → i ≠ k := fun k s h hs e => by
    subst e
    by_cases hl : i < δ.length
    · rw [List.getElem?_set_self hl] at h; cases h; exact hs rfl
    · rw [List.getElem?_eq_none (by simpa using hl)] at h; cases h
  refine ⟨w.le, w.gen, by simp [w.len], fun j e h => ?_, fun j xs h => ?_, fun j k xs ys ne h1 h2 => ?_, w.bo0⟩
  · have a := nj j _ h (by simp)
    rw [List.getElem?_set_ne a] at h ⊢
    exact w.val j e h
  · have a := nj j _ h (by simp)
    rw [List.getElem?_set_ne a] at h ⊢
    exact w.own j xs h
  · have a1 := nj j _ h1 (by simp)
    have a2 := nj k _ h2 (by simp)
    rw [List.getElem?_set_ne a1] at h1 ⊢
    rw [List.getElem?_set_ne a2] at h2 ⊢
    exact w.apart j k xs ys ne h1 h2
theorem Wd.wipe (w : Wd c H0 F H σ δ g) : ∀ vs : List Nat, Wd c H0 F H (L2.wipe σ vs) (wipeD δ vs) g
  | [] => w
  | i :: r => (w.wipe r).forget
/-- a new list of one's own -/
theorem Wd.setOwn {i : Nat} {a : Addr} {vs : List V} {xs : List D} (w : Wd c H0 F H σ δ g) (e2 : H a = some (.lst vs)) (e3 : F a = none) (e4 : H0 a = none) (e5 : c.ga ≠ some a) (r : RepAll c F vs xs)
    (e6 : ∀ (j : Nat) (ys : List D), j ≠ i → δ[j]? = some (Sl.own ys) → σ[j]? ≠ some (some (V.ref a))) : Wd c H0 F H (σ.set i (some (.ref a))) (δ.set i (.own xs)) g := by
  refine ⟨w.le, w.gen, by simp [w.len], fun j e h => ?_, fun j ys h => ?_, fun j k ys zs ne h1 h2 => ?_, w.bo0⟩
  · by_cases hj : i = j
    · subst hj
      by_cases hl : i < δ.length
      · rw [List.getElem?_set_self hl] at h; cases h
      · rw [List.getElem?_eq_none (by simpa using hl)] at h; cases h
    · rw [List.getElem?_set_ne hj] at h ⊢
      exact w.val j e h
  · by_cases hj : i = j
    · subst hj
      by_cases hl : i < δ.length
      · rw [List.getElem?_set_self hl] at h
        cases h
        exact ⟨a, vs, by rw [List.getElem?_set_self (by rw [← w.len]; exact hl)], e2, e3, e4, e5, r⟩
      · rw [List.getElem?_eq_none (by simpa using hl)] at h; cases h
    · rw [List.getElem?_set_ne hj] at h ⊢
      exact w.own j ys h
  · have inl : ∀ (k : Nat) (s : Sl), (δ.set i (Sl.own xs))[k]? = some s → k < σ.length := fun k s h => by
      have := List.getElem?_eq_some_iff.mp h
      obtain ⟨hl, _⟩ := this
      rw [List.length_set] at hl
      rw [← w.len]; exact hl
    have l1 := inl j _ h1
    have l2 := inl k _ h2
    by_cases hj : i = j
    · subst hj
      rw [List.getElem?_set_ne ne] at h2 ⊢
      rw [List.getElem?_set_self l1]
      exact fun e => e6 k zs (Ne.symm ne) h2 e.symm
    · by_cases hk : i = k
      · subst hk
        rw [List.getElem?_set_ne hj] at h1 ⊢
        rw [List.getElem?_set_self l2]
        exact e6 j ys (Ne.symm hj) h1
      · rw [List.getElem?_set_ne hj] at h1 ⊢
        rw [List.getElem?_set_ne hk] at h2 ⊢
        exact w.apart j k ys zs ne h1 h2
end

/-! ### readings -/
def tP (c : C) (f : E) : TE := fun σ H Q => ∃ H0 F δ g d g', Wd c H0 F H σ δ g ∧ Ok (f δ) g d g' ∧ ∀ v F' H', Stp c F H F' H' g' → Rep c F' v d → Q v H'
def tR (c : C) (f : E) : TE := fun σ H Q => ∃ H0 F δ g d g', Wd c H0 F H σ δ g ∧ Ok (f δ) g d g' ∧ ∀ v F' H', Stp c F H F' H' g' → RepB c F' H' v d → Q v H'
def tT (c : C) (f : E) : TT := fun σ H Q => ∃ H0 F δ g b g', Wd c H0 F H σ δ g ∧ Ok (f δ) g (.bl b) g' ∧ ∀ F' H', Stp c F H F' H' g' → Q b H'
def tAs (c : C) (f : Es) : TA := fun σ H Q => ∃ H0 F δ g ds g', Wd c H0 F H σ δ g ∧ Ok (f δ) g ds g' ∧ ∀ vs F' H', Stp c F H F' H' g' → RepAll c F' vs ds → Q vs H'
/-- the same with values that are read now -/
inductive RepBs (c : C) (F H : Hp) : List V → List D → Prop
  | nil : RepBs c F H [] []
  | cons {v : V} {vs : List V} {d : D} {ds : List D} : RepB c F H v d → RepBs c F H vs ds → RepBs c F H (v :: vs) (d :: ds)
theorem RepBs.step {c : C} {F H F' H' : Hp} {g : Gs} (s : Stp c F H F' H' g) : ∀ {vs : List V} {ds : List D}, RepBs c F H vs ds → RepBs c F' H' vs ds
  | _, _, .nil => .nil
  | _, _, .cons r t => .cons (r.step s) (RepBs.step s t)
def tRs (c : C) (f : Es) : TA := fun σ H Q => ∃ H0 F δ g ds g', Wd c H0 F H σ δ g ∧ Ok (f δ) g ds g' ∧ ∀ vs F' H', Stp c F H F' H' g' → RepBs c F' H' vs ds → Q vs H'

theorem _root_.L2.PE.imp {X : Cx} {e : Expr} {t t' : TE} (h : PE X e t) (i : ∀ σ H Q, t' σ H Q → t σ H Q) : PE X e t' := ⟨fun pins s σ H Q I q => h.run pins s σ H Q I (i σ H Q q)⟩
theorem _root_.L2.PT.imp {X : Cx} {e : Expr} {t t' : TT} (h : PT X e t) (i : ∀ σ H Q, t' σ H Q → t σ H Q) : PT X e t' := ⟨fun pins s σ H Q I q => h.run pins s σ H Q I (i σ H Q q)⟩
theorem _root_.L2.PA.imp {X : Cx} {e : List Expr} {t t' : TA} (h : PA X e t) (i : ∀ σ H Q, t' σ H Q → t σ H Q) : PA X e t' := ⟨fun pos pins s σ H Q I q => h.run pos pins s σ H Q I (i σ H Q q)⟩
theorem _root_.L2.PS.imp {X : Cx} {e : Stmt} {t t' : TS} (h : PS X e t) (i : ∀ D σ H, t' D σ H → t D σ H) : PS X e t' := ⟨fun pins s σ H D I q => h.run pins s σ H D I (i D σ H q)⟩
theorem _root_.L2.PSs.imp {X : Cx} {e : List Stmt} {t t' : TS} (h : PSs X e t) (i : ∀ D σ H, t' D σ H → t D σ H) : PSs X e t' := ⟨fun pins s σ H D I q => h.run pins s σ H D I (i D σ H q)⟩
section
variable {X : Cx} {c : C} {a b e : Expr} {es : List Expr} {fa fb f : E} {fs : Es}
/-- what is relied on may be read -/
theorem _root_.L2.PE.rd (h : PE X e (tP c f)) : PE X e (tR c f) := h.imp fun σ H Q ⟨H0, F, δ, g, d, g', w, o, q⟩ => ⟨H0, F, δ, g, d, g', w, o, fun v F' H' s r => q v F' H' s r.b⟩
/-- a value that is no list -/
theorem _root_.L2.PE.sol (h : PE X e (tR c f)) : PE X e (tP c (eF (fun d => if d.isLst then stuck else pure d) f)) := h.imp fun σ H Q ⟨H0, F, δ, g, d, g', w, o, q⟩ => by
  obtain ⟨x, g1, o1, o2⟩ := ok_bind.mp o
  cases hx : x.isLst with
  | true => rw [hx] at o2; exact absurd o2 not_ok_stuck
  | false =>
    rw [hx] at o2
    obtain ⟨rfl, rfl⟩ := ok_pure.mp o2
    exact ⟨H0, F, δ, g, x, g1, w, o1, fun v F' H' s r => q v F' H' s (r.rep hx)⟩

theorem d_k {v : V} {d : D} (h : PE X e (tC v)) (r : ∀ F, Rep c F v d) : PE X e (tP c (eK d)) := h.imp fun σ H Q ⟨H0, F, δ, g, x, g', w, o, q⟩ => by
  obtain ⟨rfl, rfl⟩ := ok_pure.mp o
  exact q v F H (.refl w.le w.gen) (r F)
theorem d_non {j pos} : PE X (.Constant .none j pos) (tP c (eK .non)) := d_k pe_non fun _ => .non
theorem d_bl {b j pos} : PE X (.Constant (.bool b) j pos) (tP c (eK (.bl b))) := d_k pe_bl fun _ => .bl b
theorem d_int {i j pos} : PE X (.Constant (.int i) j pos) (tP c (eK (.int i))) := d_k pe_int fun _ => .int i
theorem d_str {x j pos} : PE X (.Constant (.str x) j pos) (tP c (eK (.str x))) := d_k pe_str fun _ => .str x
/-- a name that is read -/
theorem d_rv {i : Nat} (h : PE X e (tVar i)) : PE X e (tR c (eV i)) := h.imp fun σ H Q ⟨H0, F, δ, g, d, g', w, o, q⟩ => by
  unfold eV at o
  split at o
  · rename_i d' e1
    obtain ⟨rfl, rfl⟩ := ok_pure.mp o
    obtain ⟨v, e2, r⟩ := w.val i d' e1
    exact ⟨v, e2, q v F H (.refl w.le w.gen) r.b⟩
  · rename_i xs e1
    obtain ⟨rfl, rfl⟩ := ok_pure.mp o
    obtain ⟨a, vs, e2, e3, e4, e5, e6, r⟩ := w.own i xs e1
    exact ⟨_, e2, q _ F H (.refl w.le w.gen) (.inr ⟨a, vs, xs, rfl, rfl, e3, e6, r⟩)⟩
  · exact absurd o not_ok_stuck
/-- a name whose value is handed on: not a list of one's own -/
def eW (i : Nat) : E := fun δ => match δ[i]? with
  | some (.val d) => pure d
  | _ => stuck
theorem d_v {i : Nat} (h : PE X e (tVar i)) : PE X e (tP c (eW i)) := h.imp fun σ H Q ⟨H0, F, δ, g, d, g', w, o, q⟩ => by
  unfold eW at o
  split at o
  · rename_i d' e1
    obtain ⟨rfl, rfl⟩ := ok_pure.mp o
    obtain ⟨v, e2, r⟩ := w.val i d' e1
    exact ⟨v, e2, q v F H (.refl w.le w.gen) r⟩
  · exact absurd o not_ok_stuck
end
end DL

/-! ## DOps -/
set_option Elab.async false
set_option autoImplicit false
set_option linter.all false
set_option maxRecDepth 100000
set_option maxHeartbeats 2000000
/-! DOps: the operations on values, in terms of plain data. -/
namespace DL
open PySem PySem.Spec PyProof.Rows L2

def uD (c : C) (f : D → M D) : V → Hp → VK → Prop := fun x H Q => ∃ F d d' g g', Same F H ∧ GenOk c F H g ∧ RepB c F H x d ∧ Ok (f d) g d' g' ∧ ∀ v F' H', Stp c F H F' H' g' → Rep c F' v d' → Q v H'
def oD (c : C) (f : D → D → M D) : R2 := fun x y H Q => ∃ F d e d' g g', Same F H ∧ GenOk c F H g ∧ RepB c F H x d ∧ RepB c F H y e ∧ Ok (f d e) g d' g' ∧ ∀ v F' H', Stp c F H F' H' g' → Rep c F' v d' → Q v H'
/-- a call with one value, with two -/
def c1 (c : C) (f : D → M D) : List V → Hp → VK → Prop := fun xs H Q => ∃ x, xs = [x] ∧ uD c f x H Q
def c2 (c : C) (f : D → D → M D) : List V → Hp → VK → Prop := fun xs H Q => ∃ x y, xs = [x, y] ∧ oD c f x y H Q
theorem lim_le {n : Nat} (h : lim n = true) : n ≤ sizeLine := by
  have q : n ≤ 16777216 := of_decide_eq_true h
  rw [sizeLine_eq]; exact q

section
variable {X : Cx} {c : C}
/-! ### arithmetic -/
theorem add_d : OpR X (binaryOp .Add) (oD c dAdd) := by
  intro pins s σ H x y v u Q I rx ry h
  obtain ⟨F, d, e, d', g, g', le, gen, r1, r2, o, q⟩ := h
  unfold dAdd at o
  split at o
  · obtain ⟨rfl, rfl⟩ := ok_pure.mp o
    have a1 := r1.rep rfl
    have a2 := r2.rep rfl
    cases a1; cases a2
    exact op_add pins s σ H _ _ v u Q I rx ry ⟨_, _, rfl, rfl, q _ F H (.refl le gen) (.int _)⟩
  · split at o
    · rename_i hl
      obtain ⟨rfl, rfl⟩ := ok_pure.mp o
      have a1 := r1.rep rfl
      have a2 := r2.rep rfl
      cases a1; cases a2
      exact op_add_str pins s σ H _ _ v u Q I rx ry ⟨_, _, rfl, rfl, lim_le hl, q _ F H (.refl le gen) (.str _)⟩
    · exact absurd o not_ok_stuck
  · split at o
    · rename_i hl
      obtain ⟨rfl, rfl⟩ := ok_pure.mp o
      obtain ⟨a, vs, rfl, ea, ra⟩ := r1.lst le
      obtain ⟨b, us, rfl, eb, rb⟩ := r2.lst le
      refine op_cat pins s σ H _ _ v u Q I rx ry ⟨_, _, vs, us, rfl, rfl, ea, eb, ?_, fun p hp => ?_⟩
      · rw [ra.length, rb.length]; exact lim_le hl
      · have st := Stp.lay (o := .lst (vs ++ us)) le gen hp
        exact q _ _ _ st (.lst upd_same ((ra.append rb).up st.sub))
    · exact absurd o not_ok_stuck
  · exact absurd o not_ok_stuck
theorem sub_d : OpR X (binaryOp .Sub) (oD c dSub) := by
  intro pins s σ H x y v u Q I rx ry h
  obtain ⟨F, d, e, d', g, g', le, gen, r1, r2, o, q⟩ := h
  unfold dSub at o
  split at o
  · obtain ⟨rfl, rfl⟩ := ok_pure.mp o
    have a1 := r1.rep rfl
    have a2 := r2.rep rfl
    cases a1; cases a2
    exact op_sub pins s σ H _ _ v u Q I rx ry ⟨_, _, rfl, rfl, q _ F H (.refl le gen) (.int _)⟩
  · exact absurd o not_ok_stuck
theorem flat_rep {F : Hp} {vs : List V} {ds : List D} (r : RepAll c F vs ds) : ∀ k : Nat, RepAll c F (List.replicate k vs).flatten (List.replicate k ds).flatten
  | 0 => .nil
  | k + 1 => by
    rw [List.replicate_succ, List.replicate_succ, List.flatten_cons, List.flatten_cons]
    exact r.append (flat_rep r k)
theorem mul_d : OpR X (binaryOp .Mult) (oD c dMul) := by
  intro pins s σ H x y v u Q I rx ry h
  obtain ⟨F, d, e, d', g, g', le, gen, r1, r2, o, q⟩ := h
  unfold dMul at o
  split at o
  · split at o
    · rename_i hl
      obtain ⟨rfl, rfl⟩ := ok_pure.mp o
      have a1 := r1.rep rfl
      have a2 := r2.rep rfl
      cases a1; cases a2
      exact op_mulW pins s σ H _ _ v u Q I rx ry ⟨_, _, rfl, rfl, hl, q _ F H (.refl le gen) (.int _)⟩
    · exact absurd o not_ok_stuck
  · split at o
    · rename_i hl
      obtain ⟨h1, h2, h3⟩ := hl
      obtain ⟨rfl, rfl⟩ := ok_pure.mp o
      obtain ⟨a, vs, rfl, ea, ra⟩ := r1.lst le
      have a2 := r2.rep rfl
      cases a2
      refine op_rep pins s σ H _ _ v u Q I rx ry ⟨_, _, vs, rfl, rfl, ea, by omega, by omega, ?_, fun p hp => ?_⟩
      · rw [ra.length]; exact lim_le h3
      · exact q _ _ _ (Stp.lay le gen hp) (.lst upd_same ((flat_rep ra _).up (Stp.lay le gen hp).sub))
    · exact absurd o not_ok_stuck
  · exact absurd o not_ok_stuck
theorem fdiv_d : OpR X (binaryOp .FloorDiv) (oD c dFdiv) := by
  intro pins s σ H x y v u Q I rx ry h
  obtain ⟨F, d, e, d', g, g', le, gen, r1, r2, o, q⟩ := h
  unfold dFdiv at o
  split at o
  · split at o
    · rename_i hl
      obtain ⟨rfl, rfl⟩ := ok_pure.mp o
      have a1 := r1.rep rfl
      have a2 := r2.rep rfl
      cases a1; cases a2
      exact op_fdivW pins s σ H _ _ v u Q I rx ry ⟨_, _, rfl, rfl, hl, q _ F H (.refl le gen) (.int _)⟩
    · exact absurd o not_ok_stuck
  · exact absurd o not_ok_stuck
theorem mod_d : OpR X (binaryOp .Mod) (oD c dMod) := by
  intro pins s σ H x y v u Q I rx ry h
  obtain ⟨F, d, e, d', g, g', le, gen, r1, r2, o, q⟩ := h
  unfold dMod at o
  split at o
  · split at o
    · rename_i hl
      obtain ⟨rfl, rfl⟩ := ok_pure.mp o
      have a1 := r1.rep rfl
      have a2 := r2.rep rfl
      cases a1; cases a2
      exact op_mod pins s σ H _ _ v u Q I rx ry ⟨_, _, rfl, rfl, hl, q _ F H (.refl le gen) (.int _)⟩
    · exact absurd o not_ok_stuck
  · exact absurd o not_ok_stuck

/-! ### data of the library -/
mutual
theorem dp_of (K : PySem.W.Frag) {F H : Hp} (le : Same F H) : ∀ (n : Nat) (d : D) (v : V), d.cl n = true → Rep c F v d → Dp K H v d.py
  | _, .non, _, _, r => by cases r; exact .non
  | _, .bl b, _, _, r => by cases r; exact .bl b
  | _, .int i, _, _, r => by cases r; exact .int i
  | _, .str x, _, _, r => by cases r; exact .str x
  | 0, .lst ds, _, h, _ => by simp [D.cl] at h
  | 0, .tup ds, _, h, _ => by simp [D.cl] at h
  | n + 1, .lst ds, _, h, r => by
    cases r with
    | lst e q => exact .lst (SqL.of (le _ _ e)) (dps_of K le n ds _ (by simpa [D.cl] using h) q)
  | n + 1, .tup ds, _, h, r => by
    cases r with
    | tup e q => exact .tup (SqT.of (le _ _ e)) (dps_of K le n ds _ (by simpa [D.cl] using h) q)
  | _, .dct _, _, h, _ => by simp [D.cl] at h
  | _, .gen, _, h, _ => by simp [D.cl] at h
  | _, .fn _, _, h, _ => by simp [D.cl] at h
  | _, .exc _ _, _, h, _ => by simp [D.cl] at h
  | _, .bor _, _, h, _ => by simp [D.cl] at h
theorem dps_of (K : PySem.W.Frag) {F H : Hp} (le : Same F H) : ∀ (n : Nat) (ds : List D) (vs : List V), (∀ d ∈ ds, d.cl n = true) → RepAll c F vs ds → DpAll K H vs (pys ds)
  | _, [], _, _, r => by cases r; exact .nil
  | n, d :: ds, _, h, r => by
    cases r with
    | cons r1 r2 => exact .cons (dp_of K le n d _ (h d List.mem_cons_self) r1) (dps_of K le n ds _ (fun e he => h e (List.mem_cons_of_mem _ he)) r2)
end
theorem dp_b {K : PySem.W.Frag} {F H : Hp} (le : Same F H) {n : Nat} {d : D} {v : V} (h : d.cl n = true) (r : RepB c F H v d) : Dp K H v d.py := by
  rcases r with r | ⟨a, vs, ds, rfl, rfl, e, _, r⟩
  · exact dp_of K le n d v h r
  · cases n with
    | zero => simp [D.cl] at h
    | succ n => exact .lst (SqL.of e) (dps_of K le n ds _ (by simpa [D.cl] using h) r)
mutual
theorem cl_lay : ∀ (n : Nat) (d : D), d.cl n = true → d.py.canLay0 = true ∧ d.py.depth ≤ n ∧ d.py.showable = true ∧ d.py.hasDict = false
  | _, .non, _ => by simp [D.py, PyData.canLay0, PyData.depth, PyData.showable, PyData.hasDict]
  | _, .bl b, _ => by simp [D.py, PyData.canLay0, PyData.depth, PyData.showable, PyData.hasDict]
  | _, .int i, h => by
    have q : i.natAbs.log2 < 1920 := by simpa [D.cl] using h
    simp [D.py, PyData.canLay0, PyData.depth, PyData.showable, PyData.hasDict, q]
  | _, .str x, h => by
    have q : PyData.strOk x = true := by simpa [D.cl] using h
    simp [D.py, PyData.canLay0, PyData.depth, PyData.showable, PyData.hasDict, q]
  | 0, .lst ds, h => by simp [D.cl] at h
  | 0, .tup ds, h => by simp [D.cl] at h
  | n + 1, .lst ds, h => by
    obtain ⟨h1, h2, h3, h4⟩ := cl_lays n ds (by simpa [D.cl] using h)
    simp only [D.py, PyData.canLay0, PyData.depth, PyData.showable, PyData.hasDict]
    exact ⟨h1, by omega, h3, h4⟩
  | n + 1, .tup ds, h => by
    obtain ⟨h1, h2, h3, h4⟩ := cl_lays n ds (by simpa [D.cl] using h)
    simp only [D.py, PyData.canLay0, PyData.depth, PyData.showable, PyData.hasDict]
    exact ⟨h1, by omega, h3, h4⟩
  | _, .dct _, h => by simp [D.cl] at h
  | _, .gen, h => by simp [D.cl] at h
  | _, .fn _, h => by simp [D.cl] at h
  | _, .exc _ _, h => by simp [D.cl] at h
  | _, .bor _, h => by simp [D.cl] at h
theorem cl_lays : ∀ (n : Nat) (ds : List D), (∀ d ∈ ds, d.cl n = true) → PyData.canLayAll0 (pys ds) = true ∧ PyData.depthAll (pys ds) ≤ n ∧ PyData.showableAll (pys ds) = true ∧ PyData.hasDictAll (pys ds) = false
  | _, [], _ => by simp [pys, PyData.canLayAll0, PyData.depthAll, PyData.showableAll, PyData.hasDictAll]
  | n, d :: ds, h => by
    obtain ⟨h1, h2, h3, h4⟩ := cl_lay n d (h d List.mem_cons_self)
    obtain ⟨k1, k2, k3, k4⟩ := cl_lays n ds fun e he => h e (List.mem_cons_of_mem _ he)
    simp only [pys, PyData.canLayAll0, PyData.depthAll, PyData.showableAll, PyData.hasDictAll, h1, k1, h3, k3, h4, k4]
    exact ⟨rfl, by omega, rfl, rfl⟩
end
theorem cl_shaped {n : Nat} {d : D} (h : d.cl n = true) (hn : n ≤ 64) : SeqAt.shaped d.py = true := by
  obtain ⟨h1, h2, _⟩ := cl_lay n d h
  unfold SeqAt.shaped
  rw [h1, decide_eq_true (show d.py.depth ≤ 64 by omega)]
  rfl

/-! ### order -/
theorem reads_of {F : Hp} {H : Hp} {pins : List (Addr × Obj)} {s : Shared} {σ : L2.St} (I : Inv X pins σ H s) (le : Same F H) {n : Nat} {d : D} {v : V} {u : Value} (h : d.cl n = true) (r : RepB c F H v d) (rv : RelV v u) : ∃ as, Reads s.heap u d.py as :=
  Dp.reads I d.py v u (dp_b le h r) rv
theorem py_non {d : D} {n : Nat} (h : d.cl n = true) (hn : d.isNon = false) : d.py ≠ .none := by
  cases d with
  | non => cases hn
  | dct _ => simp [D.cl] at h
  | gen => simp [D.cl] at h
  | fn _ => simp [D.cl] at h
  | exc _ _ => simp [D.cl] at h
  | bor _ => simp [D.cl] at h
  | bl _ => simp [D.py]
  | int _ => simp [D.py]
  | str _ => simp [D.py]
  | lst _ => simp [D.py]
  | tup _ => simp [D.py]
theorem cmp_run {op : CmpOp} {p : Int → Int → Bool} {k : PyData → PyData → Bool} {f : D → D → M D} (ho : OpR X (compareOp op) (rI0 fun i j => .bl (p i j)))
    (hd : ∀ (A : Around) (E : Value → Shared → Prop) (s : Shared) (a b : Value) (da db : PyData) (as bs : List Addr) (Q : Value → Shared → Prop), Reads s.heap a da as → Reads s.heap b db bs → PySem.W.alike da db = true → da ≠ .none →
      A.units + min da.depth db.depth < cLine → Q (.bool (k da db)) s → wpAny (model X.prog X.w) A (compareOp op a b) Q E s)
    (hu : X.A.units + 64 < cLine)
    (hf : ∀ d e g d' g', Ok (f d e) g d' g' → (∃ i j, d = .int i ∧ e = .int j ∧ d' = .bl (p i j) ∧ g = g') ∨ (cmpB d e = true ∧ d' = .bl (k d.py e.py) ∧ g = g')) : OpR X (compareOp op) (oD c f) := by
  intro pins s σ H x y v u Q I rx ry h
  obtain ⟨F, d, e, d', g, g', le, gen, r1, r2, o, q⟩ := h
  rcases hf _ _ _ _ _ o with ⟨i, j, rfl, rfl, rfl, rfl⟩ | ⟨hc, rfl, rfl⟩
  · have a1 := r1.rep rfl
    have a2 := r2.rep rfl
    cases a1; cases a2
    exact ho pins s σ H _ _ v u Q I rx ry ⟨_, _, rfl, rfl, q _ F H (.refl le gen) (.bl _)⟩
  · simp only [cmpB, Bool.and_eq_true, Bool.not_eq_true'] at hc
    obtain ⟨⟨⟨h1, h2⟩, h3⟩, h4⟩ := hc
    obtain ⟨as, ra⟩ := reads_of I le h1 r1 rx
    obtain ⟨bs, rb⟩ := reads_of I le h2 r2 ry
    have dd := (cl_lay 60 d h1).2.1
    exact hd X.A X.xe s v u _ _ as bs _ ra rb h3 (py_non h1 h4) (by have := Nat.min_le_left d.py.depth e.py.depth; omega) ⟨.bl _, H, I, rfl, q _ F H (.refl le gen) (.bl _)⟩
theorem lt_d (hu : X.A.units + 64 < cLine) : OpR X (compareOp .Lt) (oD c dLt) := cmp_run (k := PySem.W.dataLt) op_lt (fun _ _ _ _ _ _ _ _ _ _ a b h1 h2 h3 h4 => PySem.W.lt_data a b h1 h2 h3 h4) hu fun d e g d' g' o => by
  unfold dLt at o
  split at o
  · obtain ⟨rfl, rfl⟩ := ok_pure.mp o
    exact .inl ⟨_, _, rfl, rfl, rfl, rfl⟩
  · split at o
    · rename_i hc
      obtain ⟨rfl, rfl⟩ := ok_pure.mp o
      exact .inr ⟨hc, rfl, rfl⟩
    · exact absurd o not_ok_stuck
theorem gt_d (hu : X.A.units + 64 < cLine) : OpR X (compareOp .Gt) (oD c dGt) := cmp_run (k := fun a b => PySem.W.dataLt b a) op_gt (fun _ _ _ _ _ _ _ _ _ _ a b h1 h2 h3 h4 => PySem.W.gt_data a b h1 h2 h3 h4) hu fun d e g d' g' o => by
  unfold dGt at o
  split at o
  · obtain ⟨rfl, rfl⟩ := ok_pure.mp o
    exact .inl ⟨_, _, rfl, rfl, rfl, rfl⟩
  · split at o
    · rename_i hc
      obtain ⟨rfl, rfl⟩ := ok_pure.mp o
      exact .inr ⟨hc, rfl, rfl⟩
    · exact absurd o not_ok_stuck
theorem le_d (hu : X.A.units + 64 < cLine) : OpR X (compareOp .LtE) (oD c dLe) := cmp_run (k := fun a b => !PySem.W.dataLt b a) op_le (fun _ _ _ _ _ _ _ _ _ _ a b h1 h2 h3 h4 => PySem.W.le_data a b h1 h2 h3 h4) hu fun d e g d' g' o => by
  unfold dLe at o
  split at o
  · obtain ⟨rfl, rfl⟩ := ok_pure.mp o
    exact .inl ⟨_, _, rfl, rfl, rfl, rfl⟩
  · split at o
    · rename_i hc
      obtain ⟨rfl, rfl⟩ := ok_pure.mp o
      exact .inr ⟨hc, rfl, rfl⟩
    · exact absurd o not_ok_stuck
theorem ge_d (hu : X.A.units + 64 < cLine) : OpR X (compareOp .GtE) (oD c dGe) := cmp_run (k := fun a b => !PySem.W.dataLt a b) op_ge (fun _ _ _ _ _ _ _ _ _ _ a b h1 h2 h3 h4 => PySem.W.ge_data a b h1 h2 h3 h4) hu fun d e g d' g' o => by
  unfold dGe at o
  split at o
  · obtain ⟨rfl, rfl⟩ := ok_pure.mp o
    exact .inl ⟨_, _, rfl, rfl, rfl, rfl⟩
  · split at o
    · rename_i hc
      obtain ⟨rfl, rfl⟩ := ok_pure.mp o
      exact .inr ⟨hc, rfl, rfl⟩
    · exact absurd o not_ok_stuck

/-! ### == -/
theorem eqB_run {op : CmpOp} {k : Bool → Bool} (hs : OpR X (compareOp op) (fun x y H Q => scal x y = true ∧ Q (.bl (k (decide (x = y)))) H))
    (hd : OpR X (compareOp op) (fun x y H Q => ∃ d e, Dp X.K H x d ∧ Dp X.K H y e ∧ SeqAt.shaped d = true ∧ SeqAt.shaped e = true ∧ Q (.bl (k (PyData.eqv d e))) H)) :
    OpR X (compareOp op) (oD c fun d e => liftB ((dEqB d e).map k)) := by
  intro pins s σ H x y v u Q I rx ry h
  obtain ⟨F, d, e, d', g, g', le, gen, r1, r2, o, q⟩ := h
  have o : Ok (liftB ((dEqB d e).map k)) g d' g' := o
  cases hb : dEqB d e with
  | none => rw [hb] at o; exact absurd o not_ok_stuck
  | some b =>
    rw [hb] at o
    obtain ⟨rfl, rfl⟩ := ok_pure.mp o
    unfold dEqB at hb
    split at hb
    · cases hb
      have a1 := r1.rep rfl
      have a2 := r2.rep rfl
      cases a1; cases a2
      refine hs pins s σ H _ _ v u Q I rx ry ⟨rfl, ?_⟩
      have q' := q (.bl (k (decide (_ = _)))) F H (.refl le gen) (.bl _)
      rw [show decide (V.str _ = V.str _) = decide (_ = _) from decide_eq_decide.mpr ⟨fun e => V.str.inj e, fun e => by rw [e]⟩]
      exact q'
    · cases hb
      have a1 := r1.rep rfl
      have a2 := r2.rep rfl
      cases a1; cases a2
      refine hs pins s σ H _ _ v u Q I rx ry ⟨rfl, ?_⟩
      have q' := q (.bl (k (decide (_ = _)))) F H (.refl le gen) (.bl _)
      rw [show decide (V.int _ = V.int _) = decide (_ = _) from decide_eq_decide.mpr ⟨fun e => V.int.inj e, fun e => by rw [e]⟩]
      exact q'
    · cases hb
      have a1 := r1.rep rfl
      have a2 := r2.rep rfl
      cases a1; cases a2
      refine hs pins s σ H _ _ v u Q I rx ry ⟨rfl, ?_⟩
      have q' := q (.bl (k (decide (_ = _)))) F H (.refl le gen) (.bl _)
      rw [show decide (V.bl _ = V.bl _) = decide (_ = _) from decide_eq_decide.mpr ⟨fun e => V.bl.inj e, fun e => by rw [e]⟩]
      exact q'
    · split at hb
      · rename_i hc
        rw [Bool.and_eq_true] at hc
        cases hb
        exact hd pins s σ H _ _ v u Q I rx ry ⟨d.py, e.py, dp_b le hc.1 r1, dp_b le hc.2 r2, cl_shaped hc.1 (by decide), cl_shaped hc.2 (by decide), q _ F H (.refl le gen) (.bl _)⟩
      · cases hb
theorem eq_d (hu : X.A.units + 64 < cLine) : OpR X (compareOp .Eq) (oD c dEq) := by
  have h := eqB_run (c := c) (k := id) (X := X) (op := .Eq) op_eq (op_eqD hu)
  have e : (fun d e => liftB ((dEqB d e).map id)) = dEq := by
    funext d e
    unfold dEq
    cases dEqB d e <;> rfl
  rw [e] at h
  exact h
theorem ne_d (hu : X.A.units + 64 < cLine) : OpR X (compareOp .NotEq) (oD c dNe) := eqB_run (c := c) (k := (!·)) (X := X) (op := .NotEq) op_ne (op_neD hu)
end
end DL

/-! ## DOps2 -/
set_option Elab.async false
set_option autoImplicit false
set_option linter.all false
set_option maxRecDepth 100000
set_option maxHeartbeats 2000000
/-! DOps2: subscripts, slices, in, calls of built-ins, in terms of plain data. -/
namespace DL
open PySem PySem.Spec PyProof.Rows L2
section
variable {X : Cx} {c : C}

/-! ### subscripts, slices -/
theorem ix_d : IxR X (oD c dIx) := by
  intro value slice pins s σ H x y v u Q I rx ry h hs
  obtain ⟨F, d, e, d', g, g', le, gen, r1, r2, o, q⟩ := h
  unfold dIx at o
  split at o
  · rename_i xs i
    split at o
    · rename_i w hw
      obtain ⟨rfl, rfl⟩ := ok_pure.mp o
      obtain ⟨a, vs, rfl, ea, ra⟩ := r1.lst le
      have a2 := r2.rep rfl
      cases a2
      obtain ⟨j, hj, hw⟩ := Option.bind_eq_some_iff.mp hw
      obtain ⟨z, hz, rz⟩ := ra.get hw
      refine ix_list value slice pins s σ H _ _ v u Q I rx ry ⟨a, vs, i, z, rfl, rfl, SqL.of ea, ?_, q z F H (.refl le gen) rz⟩ hs
      show (ixN vs.length i).bind _ = _
      rw [ra.length]
      exact (congrArg (fun o => Option.bind o fun j => vs[j]?) hj).trans hz
    · exact absurd o not_ok_stuck
  · rename_i xs i
    split at o
    · rename_i w hw
      obtain ⟨rfl, rfl⟩ := ok_pure.mp o
      have a1 := r1.rep rfl
      have a2 := r2.rep rfl
      cases a2
      cases a1 with
      | @tup _ a vs _ ea ra =>
        obtain ⟨j, hj, hw⟩ := Option.bind_eq_some_iff.mp hw
        obtain ⟨z, hz, rz⟩ := ra.get hw
        refine ix_tup value slice pins s σ H _ _ v u Q I rx ry ⟨a, vs, i, z, rfl, rfl, SqT.of (le _ _ ea), ?_, q z F H (.refl le gen) rz⟩ hs
        show (ixN vs.length i).bind _ = _
        rw [ra.length]
        exact (congrArg (fun o => Option.bind o fun j => vs[j]?) hj).trans hz
    · exact absurd o not_ok_stuck
  · exact absurd o not_ok_stuck
theorem cut_eq (vs : List V) (lo hi : Option Int) : cutV vs lo hi = cut vs lo hi := by
  have e : ∀ n d o, HT.sIx n d o = cutEnd n d o := fun n d o => by cases o <;> rfl
  unfold cutV cut
  rw [e, e]
theorem cut_rep {F : Hp} {vs : List V} {ds : List D} (r : RepAll c F vs ds) (lo hi : Option Int) : RepAll c F (cut vs lo hi) (cut ds lo hi) := by
  unfold cut
  rw [r.length]
  exact (r.drop _).take _
def sD (c : C) : V → Option Int → Option Int → Hp → VK → Prop := fun x lo hi H Q => ∃ F d d' g g', Same F H ∧ GenOk c F H g ∧ RepB c F H x d ∧ Ok (dCut d lo hi) g d' g' ∧ ∀ v F' H', Stp c F H F' H' g' → Rep c F' v d' → Q v H'
theorem sl_d : SlR X (sD c) := by
  intro pins s σ H x v vl vu lo hi sl Q I rx hs pl pu h
  obtain ⟨F, d, d', g, g', le, gen, r1, o, q⟩ := h
  unfold dCut at o
  split at o
  · obtain ⟨rfl, rfl⟩ := ok_pure.mp o
    obtain ⟨a, vs, rfl, ea, ra⟩ := r1.lst le
    refine sl_list pins s σ H _ v vl vu lo hi sl Q I rx hs pl pu ⟨a, vs, rfl, SqL.of ea, fun p hp => ?_⟩
    rw [cut_eq]
    exact q _ _ _ (Stp.lay le gen hp) (.lst upd_same ((cut_rep ra lo hi).up (Stp.lay (o := .lst (cut vs lo hi)) le gen hp).sub))
  · exact absurd o not_ok_stuck

/-! ### in -/
theorem imm_flat {F : Hp} {v : V} {d : D} (h : d.imm = true) (r : Rep c F v d) : flatV v = true := by
  cases d <;> first | (cases h; done) | (cases r; rfl)
theorem imm_rep {F H : Hp} {v : V} {d : D} (h : d.imm = true) (r : RepB c F H v d) : Rep c F v d := r.rep (by cases d <;> first | rfl | (cases h; done))
theorem imms_flat {F : Hp} : ∀ {vs : List V} {ds : List D}, ds.all D.imm = true → RepAll c F vs ds → vs.all flatV = true
  | _, [], _, r => by cases r; rfl
  | _, d :: ds, h, r => by
    cases r with
    | cons r1 r2 =>
      rw [List.all_cons, Bool.and_eq_true] at h ⊢
      exact ⟨imm_flat h.1 r1, imms_flat h.2 r2⟩
theorem eqV_py {F : Hp} {y x : V} {e d : D} (he : e.imm = true) (hd : d.imm = true) (ry : Rep c F y e) (rx : Rep c F x d) : eqV y x = PyData.eqv e.py d.py := by
  cases e <;> first | (cases he; done) | (cases ry <;> cases d <;> first | (cases hd; done) | (cases rx <;> simp [eqV, D.py, PyData.eqv]))
theorem inV_py {F : Hp} {x : V} {d : D} (hd : d.imm = true) (rx : Rep c F x d) : ∀ {vs : List V} {ds : List D}, ds.all D.imm = true → RepAll c F vs ds → inV x vs = ds.any fun y => PyData.eqv y.py d.py
  | _, [], _, r => by cases r; rfl
  | _, e :: ds, h, r => by
    cases r with
    | cons r1 r2 =>
      rw [List.all_cons, Bool.and_eq_true] at h
      have ih := inV_py hd rx h.2 r2
      unfold inV at ih ⊢
      rw [List.any_cons, List.any_cons, eqV_py h.1 hd r1 rx, ih]
theorem any_pys (d : PyData) : ∀ ys : List D, ((pys ys).any fun z => PyData.eqv z d) = ys.any fun y => PyData.eqv y.py d
  | [] => rfl
  | y :: ys => by rw [pys, List.any_cons, List.any_cons, any_pys d ys]
theorem in_run {op : CmpOp} {neg : Bool} {k : Bool → Bool} (hk : ∀ b, (if neg then !b else b) = k b) (hf : OpR X (compareOp op) (rIn X.K neg))
    (hd : OpR X (compareOp op) (fun x y H Q => ∃ d ds, Dp X.K H x d ∧ Dp X.K H y (.list ds) ∧ SeqAt.shaped d = true ∧ SeqAt.shaped (.list ds) = true ∧ Q (.bl (k (ds.any fun z => PyData.eqv z d))) H))
    {f : D → D → M D} (ff : ∀ x d, f x d = match d with
      | .lst ys => liftB ((inB x ys).map k)
      | .tup ys => if x.imm && ys.all D.imm then liftB ((inB x ys).map k) else stuck
      | _ => stuck) : OpR X (compareOp op) (oD c f) := by
  intro pins s σ H x y v u Q I rx ry h
  obtain ⟨F, d, e, d', g, g', le, gen, r1, r2, o, q⟩ := h
  rw [ff] at o
  split at o
  · rename_i ys
    cases hb : inB d ys with
    | none => rw [hb] at o; exact absurd o not_ok_stuck
    | some b =>
      rw [hb] at o
      obtain ⟨rfl, rfl⟩ := ok_pure.mp o
      unfold inB at hb
      obtain ⟨a, vs, rfl, ea, ra⟩ := r2.lst le
      split at hb
      · rename_i hc
        rw [Bool.and_eq_true] at hc
        cases hb
        have a1 := imm_rep hc.1 r1
        refine hf pins s σ H _ _ v u Q I rx ry ⟨a, vs, rfl, .inl (SqL.of ea), imm_flat hc.1 a1, imms_flat hc.2 ra, ?_⟩
        rw [inV_py hc.1 a1 hc.2 ra, hk]
        exact q _ F H (.refl le gen) (.bl _)
      · split at hb
        · rename_i hc
          rw [Bool.and_eq_true] at hc
          cases hb
          have hl : (D.lst ys).cl 60 = true := by simpa [D.cl] using hc.2
          refine hd pins s σ H _ _ v u Q I rx ry ⟨d.py, pys ys, dp_b le hc.1 r1, dp_b le hl r2, cl_shaped hc.1 (by decide), cl_shaped hl (by decide), ?_⟩
          rw [any_pys]
          exact q _ F H (.refl le gen) (.bl _)
        · cases hb
  · rename_i ys
    split at o
    · rename_i hc
      cases hb : inB d ys with
      | none => rw [hb] at o; exact absurd o not_ok_stuck
      | some b =>
        rw [hb] at o
        obtain ⟨rfl, rfl⟩ := ok_pure.mp o
        unfold inB at hb
        rw [if_pos hc] at hb
        rw [Bool.and_eq_true] at hc
        cases hb
        have a1 := imm_rep hc.1 r1
        have a2 := r2.rep rfl
        cases a2 with
        | tup ea ra =>
          refine hf pins s σ H _ _ v u Q I rx ry ⟨_, _, rfl, .inr (SqT.of (le _ _ ea)), imm_flat hc.1 a1, imms_flat hc.2 ra, ?_⟩
          rw [inV_py hc.1 a1 hc.2 ra, hk]
          exact q _ F H (.refl le gen) (.bl _)
    · exact absurd o not_ok_stuck
  · exact absurd o not_ok_stuck
theorem in_d (hu : X.A.units + 65 < cLine) : OpR X (compareOp .In) (oD c dIn) := in_run (k := id) (neg := false) (fun b => rfl) op_in_seq (op_inD hu) fun x d => by
  have e : ∀ o : Option Bool, o.map id = o := fun o => by cases o <;> rfl
  simp only [e, dIn]
  all_goals (cases d <;> rfl)
theorem notIn_d (hu : X.A.units + 65 < cLine) : OpR X (compareOp .NotIn) (oD c dNotIn) := in_run (k := (!·)) (neg := true) (fun b => rfl) op_notIn_seq (op_notInD hu) fun x d => by
  unfold dNotIn
  cases d <;> rfl

/-! ### is None -/
theorem isN_rep : ∀ (d : D) {F : Hp} {v : V}, Rep c F v d → decide (v = V.non) = d.isNon
  | .bor d, _, _, r => by
    cases r with
    | bor q => exact isN_rep d q
  | .non, _, _, r => by cases r; rfl
  | .bl _, _, _, r => by cases r; rfl
  | .int _, _, _, r => by cases r; rfl
  | .str _, _, _, r => by cases r; rfl
  | .lst _, _, _, r => by cases r; rfl
  | .tup _, _, _, r => by cases r; rfl
  | .dct _, _, _, r => by cases r; rfl
  | .gen, _, _, r => by cases r; rfl
  | .fn _, _, _, r => by cases r; rfl
  | .exc _ _, _, _, r => by cases r
theorem isN_val {F H : Hp} {v : V} {d : D} (r : RepB c F H v d) : decide (v = V.non) = d.isNon := by
  rcases r with r | ⟨a, vs, ds, rfl, rfl, _⟩
  · exact isN_rep d r
  · rfl

/-! ### calls of built-ins -/
theorem len_c : CallR X (.builtin "len") (c1 c dLen) := by
  intro pins s σ H xs us Q I r h
  obtain ⟨x, rfl, F, d, d', g, g', le, gen, rb, o, q⟩ := h
  unfold dLen at o
  split at o
  · obtain ⟨rfl, rfl⟩ := ok_pure.mp o
    obtain ⟨a, vs, rfl, ea, ra⟩ := rb.lst le
    refine call_len_seq pins s σ H _ us Q I r ⟨a, vs, rfl, .inl (SqL.of ea), ?_⟩
    rw [ra.length]
    exact q _ F H (.refl le gen) (.int _)
  · obtain ⟨rfl, rfl⟩ := ok_pure.mp o
    have a1 := rb.rep rfl
    cases a1 with
    | tup ea ra =>
      refine call_len_seq pins s σ H _ us Q I r ⟨_, _, rfl, .inr (SqT.of (le _ _ ea)), ?_⟩
      rw [ra.length]
      exact q _ F H (.refl le gen) (.int _)
  · split at o
    · rename_i hl
      obtain ⟨rfl, rfl⟩ := ok_pure.mp o
      have a1 := rb.rep rfl
      cases a1
      exact call_len_str pins s σ H _ us Q I r ⟨_, rfl, lim_le hl, q _ F H (.refl le gen) (.int _)⟩
    · exact absurd o not_ok_stuck
  · exact absurd o not_ok_stuck
theorem abs_c : CallR X (.builtin "abs") (c1 c dAbs) := by
  intro pins s σ H xs us Q I r h
  obtain ⟨x, rfl, F, d, d', g, g', le, gen, rb, o, q⟩ := h
  unfold dAbs at o
  split at o
  · obtain ⟨rfl, rfl⟩ := ok_pure.mp o
    have a1 := rb.rep rfl
    cases a1
    exact call_abs pins s σ H _ us Q I r ⟨_, rfl, q _ F H (.refl le gen) (.int _)⟩
  · exact absurd o not_ok_stuck
/-- int(n) -/
def dInt (d : D) : M D := match d with
  | .int i => pure (.int i)
  | _ => stuck
theorem int_c : CallR X (.type "int") (c1 c dInt) := by
  intro pins s σ H xs us Q I r h
  obtain ⟨x, rfl, F, d, d', g, g', le, gen, rb, o, q⟩ := h
  unfold dInt at o
  split at o
  · obtain ⟨rfl, rfl⟩ := ok_pure.mp o
    have a1 := rb.rep rfl
    cases a1
    exact call_int1 pins s σ H _ us Q I r (.inl ⟨_, rfl, q _ F H (.refl le gen) (.int _)⟩)
  · exact absurd o not_ok_stuck
def dMax2 (d e : D) : M D := match d, e with
  | .int i, .int j => pure (.int (if j > i then j else i))
  | _, _ => stuck
def dMin2 (d e : D) : M D := match d, e with
  | .int i, .int j => pure (.int (if j < i then j else i))
  | _, _ => stuck
theorem max2_c (hc : X.calm = true) : CallR X (.builtin "max") (c2 c dMax2) := by
  intro pins s σ H xs us Q I r h
  obtain ⟨x, y, rfl, F, d, e, d', g, g', le, gen, r1, r2, o, q⟩ := h
  unfold dMax2 at o
  split at o
  · obtain ⟨rfl, rfl⟩ := ok_pure.mp o
    have a1 := r1.rep rfl
    have a2 := r2.rep rfl
    cases a1; cases a2
    exact call_max2 hc pins s σ H _ us Q I r ⟨_, _, rfl, q _ F H (.refl le gen) (.int _)⟩
  · exact absurd o not_ok_stuck
theorem min2_c (hc : X.calm = true) : CallR X (.builtin "min") (c2 c dMin2) := by
  intro pins s σ H xs us Q I r h
  obtain ⟨x, y, rfl, F, d, e, d', g, g', le, gen, r1, r2, o, q⟩ := h
  unfold dMin2 at o
  split at o
  · obtain ⟨rfl, rfl⟩ := ok_pure.mp o
    have a1 := r1.rep rfl
    have a2 := r2.rep rfl
    cases a1; cases a2
    exact call_min2 hc pins s σ H _ us Q I r ⟨_, _, rfl, q _ F H (.refl le gen) (.int _)⟩
  · exact absurd o not_ok_stuck
theorem all_c (hc : X.calm = true) : CallR X (.builtin "all") (c1 c dAll) := by
  intro pins s σ H xs us Q I r h
  obtain ⟨x, rfl, F, d, d', g, g', le, gen, rb, o, q⟩ := h
  unfold dAll at o
  split at o
  · split at o
    · rename_i bs hb
      obtain ⟨rfl, rfl⟩ := ok_pure.mp o
      obtain ⟨a, vs, rfl, ea, ra⟩ := rb.lst le
      rw [bools_map hb] at ra
      obtain rfl := ra.ofBools
      exact cr_all hc pins s σ H _ us Q I r ⟨a, bs, rfl, SqL.of ea, q _ F H (.refl le gen) (.bl _)⟩
    · exact absurd o not_ok_stuck
  · exact absurd o not_ok_stuck
theorem any_c (hc : X.calm = true) : CallR X (.builtin "any") (c1 c dAny) := by
  intro pins s σ H xs us Q I r h
  obtain ⟨x, rfl, F, d, d', g, g', le, gen, rb, o, q⟩ := h
  unfold dAny at o
  split at o
  · split at o
    · rename_i bs hb
      obtain ⟨rfl, rfl⟩ := ok_pure.mp o
      obtain ⟨a, vs, rfl, ea, ra⟩ := rb.lst le
      rw [bools_map hb] at ra
      obtain rfl := ra.ofBools
      exact cr_any hc pins s σ H _ us Q I r ⟨a, bs, rfl, SqL.of ea, q _ F H (.refl le gen) (.bl _)⟩
    · exact absurd o not_ok_stuck
  · exact absurd o not_ok_stuck
theorem sum_c (hc : X.calm = true) : CallR X (.builtin "sum") (c1 c dSum) := by
  intro pins s σ H xs us Q I r h
  obtain ⟨x, rfl, F, d, d', g, g', le, gen, rb, o, q⟩ := h
  unfold dSum at o
  split at o
  · split at o
    · rename_i bs hb
      obtain ⟨rfl, rfl⟩ := ok_pure.mp o
      obtain ⟨a, vs, rfl, ea, ra⟩ := rb.lst le
      rw [ints_map hb] at ra
      obtain rfl := ra.ofInts
      exact cr_sum hc pins s σ H _ us Q I r ⟨a, bs, rfl, SqL.of ea, q _ F H (.refl le gen) (.int _)⟩
    · exact absurd o not_ok_stuck
  · exact absurd o not_ok_stuck
theorem list_c : CallR X (.type "list") (c1 c dList) := by
  intro pins s σ H xs us Q I r h
  obtain ⟨x, rfl, F, d, d', g, g', le, gen, rb, o, q⟩ := h
  unfold dList at o
  split at o
  · obtain ⟨rfl, rfl⟩ := ok_pure.mp o
    obtain ⟨a, vs, rfl, ea, ra⟩ := rb.lst le
    exact call_list_of pins s σ H _ us Q I r ⟨a, vs, rfl, .inl (SqL.of ea), fun p hp => q _ _ _ (Stp.lay le gen hp) (.lst upd_same (ra.up (Stp.lay (o := .lst vs) le gen hp).sub))⟩
  · obtain ⟨rfl, rfl⟩ := ok_pure.mp o
    have a1 := rb.rep rfl
    cases a1 with
    | tup ea ra => exact call_list_of pins s σ H _ us Q I r ⟨_, _, rfl, .inr (SqT.of (le _ _ ea)), fun p hp => q _ _ _ (Stp.lay le gen hp) (.lst upd_same (ra.up (Stp.lay (o := .lst _) le gen hp).sub))⟩
  · exact absurd o not_ok_stuck
theorem tuple_c : CallR X (.type "tuple") (c1 c dTuple) := by
  intro pins s σ H xs us Q I r h
  obtain ⟨x, rfl, F, d, d', g, g', le, gen, rb, o, q⟩ := h
  unfold dTuple at o
  split at o
  · obtain ⟨rfl, rfl⟩ := ok_pure.mp o
    obtain ⟨a, vs, rfl, ea, ra⟩ := rb.lst le
    exact call_tuple_of pins s σ H _ us Q I r ⟨a, vs, rfl, .inl ⟨SqL.of ea, fun p hp => q _ _ _ (Stp.lay le gen hp) (.tup upd_same (ra.up (Stp.lay (o := .tup vs) le gen hp).sub))⟩⟩
  · obtain ⟨rfl, rfl⟩ := ok_pure.mp o
    have a1 := rb.rep rfl
    cases a1 with
    | tup ea ra => exact call_tuple_of pins s σ H _ us Q I r ⟨_, _, rfl, .inr ⟨SqT.of (le _ _ ea), q _ F H (.refl le gen) (.tup ea ra)⟩⟩
  · exact absurd o not_ok_stuck

/-! ### repr -/
theorem repr_c (hg : X.A.guards = some []) (hu : X.A.units + 65 < cLine) : CallR X (.builtin "repr") (c1 c dRepr) := by
  intro pins s σ H xs us Q I rv h
  obtain ⟨x, rfl, F, d, d', g, g', le, gen, r, o, q⟩ := h
  obtain ⟨u, rfl, rx⟩ := Vals.one rv
  unfold dRepr at o
  split at o
  · rename_i hh
    obtain ⟨rfl, rfl⟩ := ok_pure.mp o
    rw [Bool.and_eq_true] at hh
    have hz : d.py.shown.length ≤ sizeLine := lim_le hh.2
    have q : Q (.str d.py.shown) H := q _ F H (.refl le gen) (.str _)
    have big : ∀ a, u = .ref a → d.cl 60 = true → wpAny (model X.prog X.w) X.A (call (.builtin "repr") [u]) (EP X pins σ Q) X.xe s := fun a e hc => by
      obtain ⟨as, ra⟩ := reads_of I le hc r rx
      obtain ⟨_, h2, h3, h4⟩ := cl_lay 60 d hc
      subst e
      exact repr_of_reads' ra h3 (PyData.noDict_hsm h4) hg (by omega) (fun _ _ e => e) (fun h' w tk hk => ⟨.str d.py.shown, H, I.kept hk, ⟨_, rfl⟩, q⟩) hz
    cases d with
    | lst ds =>
      obtain ⟨a, vs, rfl, _⟩ := r.lst le
      exact big a rx hh.1
    | tup ds =>
      have a1 := r.rep rfl
      cases a1
      exact big _ rx hh.1
    | non =>
      have a1 := r.rep rfl
      cases a1
      cases rx
      exact PySem.P.repr_of_none ⟨.str D.non.py.shown, H, I.tok _, ⟨_, rfl⟩, q⟩
    | bl b =>
      have a1 := r.rep rfl
      cases a1
      cases rx
      refine PySem.P.repr_of_bool ⟨.str (D.bl b).py.shown, H, I.tok _, ⟨s.toks, ?_⟩, q⟩
      cases b <;> rfl
    | int i =>
      have a1 := r.rep rfl
      cases a1
      obtain ⟨t, rfl⟩ := rx
      have hc : i.natAbs.log2 < 1920 := by simpa [D.rp, D.cl] using hh.1
      exact PySem.P.repr_of_int hc ⟨.str (D.int i).py.shown, H, I.tok _, ⟨_, rfl⟩, q⟩
    | str z =>
      have a1 := r.rep rfl
      cases a1
      obtain ⟨t, rfl⟩ := rx
      exact PySem.P.repr_of_str ⟨.str (D.str z).py.shown, H, I.tok _, ⟨_, rfl⟩, q⟩ hz
    | dct kvs =>
      have a1 := r.rep rfl
      cases a1 with
      | @dct0 _ a ea =>
        obtain ⟨_, hs, vs, kv, o, es, ep, e1, e2, e3, _, e4, _⟩ := I.hok a _ (le _ _ ea)
        cases rx
        cases kv
        have en : es.toList = [] := by
          cases e5 : es.toList with
          | nil => rfl
          | cons x r => rw [e5] at e4; cases e4
        have rd : Reads s.heap (.ref a) (.dict []) ([a] ++ [] ++ []) := Reads.dict e1 e2.1 e3 (by rw [en]; exact .nil) (by rw [en]; exact .nil)
        refine repr_of_reads' rd rfl (fun _ hm => ?_) hg (by simp [PyData.depth, PyData.depthKv]; omega) (fun _ _ e => e) (fun h' w tk hk => ⟨.str (D.dct []).py.shown, H, I.kept hk, ⟨_, rfl⟩, q⟩) hz
        have ha : sysModules = a := by simpa using hm
        rw [ha] at hs
        simp at hs
    | gen => simp [D.rp, D.cl] at hh
    | fn _ => simp [D.rp, D.cl] at hh
    | exc _ _ => simp [D.rp, D.cl] at hh
    | bor _ => simp [D.rp, D.cl] at hh
  · exact absurd o not_ok_stuck

/-! ### isinstance -/
theorem kitB_of : ∀ (a b : String), a ∈ ["NoneType", "bool", "int", "str", "list", "tuple", "dict"] → b ∈ ["bool", "int", "str", "list", "tuple", "dict"] → ∃ r, kitB a b = some r ∧ (∀ d : D, d.ty = some a → r = isTy d b) := by
  intro a b ha hb
  simp only [List.mem_cons, List.mem_nil_iff, or_false] at ha hb
  rcases ha with rfl | rfl | rfl | rfl | rfl | rfl | rfl <;> rcases hb with rfl | rfl | rfl | rfl | rfl | rfl <;>
    first
    | exact ⟨true, by decide +kernel, fun d hd => by cases d <;> first | rfl | (simp [D.ty] at hd)⟩
    | exact ⟨false, by decide +kernel, fun d hd => by cases d <;> first | rfl | (simp [D.ty] at hd)⟩
end
end DL

/-! ## DOps3 -/
set_option Elab.async false
set_option autoImplicit false
set_option linter.all false
set_option maxRecDepth 100000
set_option maxHeartbeats 2000000
/-! DOps3: isinstance, list.index, sorted, in terms of plain data. -/
namespace DL
open PySem PySem.Spec PyProof.Rows L2
section
variable {X : Cx} {c : C}
/-! ### isinstance -/
theorem tyx_of (K : PySem.W.Frag) {F H : Hp} (le : Same F H) {v : V} {d : D} {t : String} (h : d.ty = some t) (r : RepB c F H v d) : TyX K H v (.type t) := by
  rcases r with r | ⟨a, vs, ds, rfl, rfl, e, _⟩
  · cases r with
    | non => cases h; exact .base .non
    | bl b => cases h; exact .base (.bl b)
    | int i => cases h; exact .base (.int i)
    | str x => cases h; exact .base (.str x)
    | lst e _ => cases h; exact .base (.lst (le _ _ e))
    | tup e _ => cases h; exact .base (.tup (le _ _ e))
    | dct0 e => cases h; exact .base (.dK (le _ _ e))
    | gen _ => cases h
    | fn _ => cases h
    | bor _ => cases h
  · cases h; exact .base (.lst e)
theorem ty_mem {d : D} {t : String} (h : d.ty = some t) : t ∈ ["NoneType", "bool", "int", "str", "list", "tuple", "dict"] := by
  cases d <;> first | (cases h; done) | (cases h; decide)
/-- isinstance(x, T) -/
def isi1 (c : C) (t : String) : List V → Hp → VK → Prop := fun xs H Q => ∃ x, xs = [x, .ty t] ∧ uD c (fun d => dIsI d t) x H Q
theorem isi_c {t : String} (ht : t ∈ ["bool", "int", "str", "list", "tuple", "dict"]) : CallR X (.builtin "isinstance") (isi1 c t) := by
  intro pins s σ H xs us Q I rv h
  obtain ⟨x, rfl, F, d, d', g, g', le, gen, r, o, q⟩ := h
  have o : Ok (dIsI d t) g d' g' := o
  unfold dIsI at o
  split at o
  · rename_i ty hty
    obtain ⟨rfl, rfl⟩ := ok_pure.mp o
    obtain ⟨b, hb, hb2⟩ := kitB_of ty t (ty_mem hty) ht
    refine call_isi pins s σ H _ us Q I rv ⟨x, .ty t, .type ty, .type t, b, rfl, .ty t, tyx_of X.K le hty r, kit_ty hb, ?_⟩
    rw [hb2 d hty]
    exact q _ F H (.refl le gen) (.bl _)
  · exact absurd o not_ok_stuck
/-- isinstance(x, (T, U)) -/
def isi2 (c : C) (t u : String) : List V → Hp → VK → Prop := fun xs H Q => ∃ x p, xs = [x, .ref p] ∧ H p = some (.tup [.ty t, .ty u]) ∧ uD c (fun d => dIsI2 d t u) x H Q
theorem isi2_c {t u : String} (ht : t ∈ ["bool", "int", "str", "list", "tuple", "dict"]) (hu : u ∈ ["bool", "int", "str", "list", "tuple", "dict"]) : CallR X (.builtin "isinstance") (isi2 c t u) := by
  intro pins s σ H xs us Q I rv h
  obtain ⟨x, p, rfl, hp, F, d, d', g, g', le, gen, r, o, q⟩ := h
  have o : Ok (dIsI2 d t u) g d' g' := o
  unfold dIsI2 at o
  split at o
  · rename_i ty hty
    obtain ⟨rfl, rfl⟩ := ok_pure.mp o
    obtain ⟨b, hb, hb2⟩ := kitB_of ty t (ty_mem hty) ht
    obtain ⟨b', hb', hb2'⟩ := kitB_of ty u (ty_mem hty) hu
    have e1 := hb2 d hty
    have e2 := hb2' d hty
    refine call_isiT pins s σ H _ us Q I rv ⟨x, p, [.ty t, .ty u], .type ty, [.type t, .type u], isTy d t || isTy d u, rfl, hp, .cons (.ty t) (.cons (.ty u) .nil), tyx_of X.K le hty r, ?_, q _ F H (.refl le gen) (.bl _)⟩
    refine kitAny_cons (kit_ty hb) (fun e => kitAny_cons (kit_ty hb') (fun e' => ?_) (fun e' => ?_)) fun e => ?_
    · rw [← e1, ← e2, e, e']; exact kitAny_nil
    · rw [← e1, ← e2, e']; simp
    · rw [← e1, e]; rfl
  · exact absurd o not_ok_stuck

/-! ### list.index -/
theorem idxOf_spec {x : D} : ∀ {ys : List D} {j : Nat}, idxOf? x ys = some j → ∃ y, ys[j]? = some y ∧ PyData.eqv y.py x.py = true ∧ ∀ (m : Nat) (z : D), m < j → ys[m]? = some z → PyData.eqv z.py x.py = false
  | [], _, h => by cases h
  | y :: ys, j, h => by
    unfold idxOf? at h
    split at h
    · rename_i e
      cases h
      exact ⟨y, rfl, e, fun m z hm => absurd hm (Nat.not_lt_zero _)⟩
    · rename_i e
      obtain ⟨k, hk, rfl⟩ := Option.map_eq_some_iff.mp h
      obtain ⟨z, h1, h2, h3⟩ := idxOf_spec hk
      refine ⟨z, by simpa using h1, h2, fun m w hm hw => ?_⟩
      cases m with
      | zero =>
        have e2 : y = w := by simpa using hw
        subst e2
        simpa using e
      | succ m => exact h3 m w (by omega) (by simpa using hw)
def m1 (c : C) (f : D → D → M D) : V → List V → Hp → VK → Prop := fun x xs H Q => ∃ y, xs = [y] ∧ oD c f x y H Q
theorem index_m : MtR X "list.index" (m1 c dIndex) := by
  intro pins s σ H x xs v us Q I rx rxs h
  obtain ⟨y, rfl, F, d, e, d', g, g', le, gen, r1, r2, o, q⟩ := h
  unfold dIndex at o
  split at o
  · rename_i ys
    split at o
    · rename_i hc
      rw [Bool.and_eq_true] at hc
      split at o
      · rename_i j hj
        obtain ⟨rfl, rfl⟩ := ok_pure.mp o
        obtain ⟨a, vs, rfl, ea, ra⟩ := r1.lst le
        have a2 := imm_rep hc.1 r2
        obtain ⟨z, h1, h2, h3⟩ := idxOf_spec hj
        obtain ⟨w, hw, rw⟩ := ra.get h1
        have mem : ∀ {k : Nat} {u : D}, ys[k]? = some u → u.imm = true := fun {k u} hk => List.all_eq_true.mp hc.2 u (List.mem_of_getElem? hk)
        refine mt_index pins s σ H _ _ v us Q I rx rxs ⟨a, vs, y, j, w, rfl, rfl, SqL.of ea, imm_flat hc.1 a2, imms_flat hc.2 ra, hw, ?_, fun m u hm hu => ?_, q _ F H (.refl le gen) (.int _)⟩
        · rw [eqV_py (mem h1) hc.1 rw a2]; exact h2
        · obtain ⟨t, ht, rt⟩ := ra.getV hu
          rw [eqV_py (mem ht) hc.1 rt a2]; exact h3 m t hm ht
      · exact absurd o not_ok_stuck
    · exact absurd o not_ok_stuck
  · exact absurd o not_ok_stuck

/-! ### sorted -/
theorem repAll_of {F : Hp} : ∀ {ps : List (V × D)}, (∀ p ∈ ps, Rep c F p.1 p.2) → RepAll c F (ps.map (·.1)) (ps.map (·.2))
  | [], _ => .nil
  | p :: ps, h => .cons (h p List.mem_cons_self) (repAll_of fun q hq => h q (List.mem_cons_of_mem _ hq))
theorem repAll_mem {F : Hp} : ∀ {vs : List V} {ds : List D}, RepAll c F vs ds → ∀ p ∈ vs.zip ds, Rep c F p.1 p.2
  | _, _, .nil, p, hp => by simp at hp
  | _, _, .cons r t, p, hp => by
    rcases List.mem_cons.mp hp with rfl | hp
    · exact r
    · exact repAll_mem t p hp
theorem each_of : ∀ {vs : List V} {ds : List D} {its : List Value}, vs.length = ds.length → Vals vs its → PySem.W.EachIs (fun (v : Value) (b : V × D) => RelV b.1 v) its (vs.zip ds)
  | [], [], _, _, .nil => .nil
  | v :: vs, d :: ds, _, h, .cons r t => .cons r (each_of (by simpa using h) t)
theorem each_vals : ∀ {its : List Value} {bs : List (V × D)}, PySem.W.EachIs (fun (v : Value) (b : V × D) => RelV b.1 v) its bs → Vals (bs.map (·.1)) its
  | _, _, .nil => .nil
  | _, _, .cons r t => .cons r (each_vals t)
theorem each_both {α β : Type} {R S : α → β → Prop} : ∀ {as : List α} {bs : List β}, PySem.W.EachIs R as bs → (∀ a b, a ∈ as → b ∈ bs → R a b → S a b) → PySem.W.EachIs S as bs
  | _, _, .nil, _ => .nil
  | _, _, .cons r t, h => .cons (h _ _ List.mem_cons_self List.mem_cons_self r) (each_both t fun a b ha hb => h a b (List.mem_cons_of_mem _ ha) (List.mem_cons_of_mem _ hb))
theorem sorted_c (hu : X.A.units + 65 < cLine) : CallR X (.builtin "sorted") (c1 c dSorted) := by
  intro pins s σ H xs us Q I rv h
  obtain ⟨x, rfl, F, d, d', g, g', le, gen, r, o, q⟩ := h
  unfold dSorted at o
  split at o
  · rename_i ds
    split at o
    · rename_i hs
      obtain ⟨rfl, rfl⟩ := ok_pure.mp o
      obtain ⟨a, vs, rfl, ea, ra⟩ := r.lst le
      rw [Vals.ref1 rv]
      obtain ⟨its, rvs, pl, hz⟩ := I.list (SqL.of ea)
      unfold sortableB at hs
      rw [Bool.and_eq_true, Bool.and_eq_true] at hs
      obtain ⟨⟨h1, h2⟩, h3⟩ := hs
      have cl : ∀ e ∈ ds, e.cl 60 = true := fun e he => List.all_eq_true.mp h1 e he
      have hal : PySem.W.AllAlike ((vs.zip ds).map fun b => b.2.py) := by
        intro e he f hf
        obtain ⟨p, hp, rfl⟩ := List.mem_map.mp he
        obtain ⟨p', hp', rfl⟩ := List.mem_map.mp hf
        exact List.all_eq_true.mp (List.all_eq_true.mp h2 _ (List.of_mem_zip hp).2) _ (List.of_mem_zip hp').2
      have hk : PySem.W.Sortable ((vs.zip ds).map fun b => b.2.py) := by
        rw [Bool.or_eq_true] at h3
        rcases h3 with h3 | h3
        · refine .inl fun e he => ?_
          obtain ⟨p, hp, rfl⟩ := List.mem_map.mp he
          have t := List.all_eq_true.mp h3 _ (List.of_mem_zip hp).2
          generalize p.2 = z at t
          cases z with
          | tup l => cases l with
            | nil => cases t
            | cons y l => exact ⟨y.py, pys l, by simp [D.py, pys]⟩
          | _ => cases t
        · refine .inr fun e he => ?_
          obtain ⟨p, hp, rfl⟩ := List.mem_map.mp he
          have t := List.all_eq_true.mp h3 _ (List.of_mem_zip hp).2
          have k := cl _ (List.of_mem_zip hp).2
          generalize p.2 = z at t k
          cases z with
          | tup l => cases t
          | non => cases t
          | dct _ => simp [D.cl] at k
          | gen => simp [D.cl] at k
          | fn _ => simp [D.cl] at k
          | exc _ _ => simp [D.cl] at k
          | bor _ => simp [D.cl] at k
          | bl _ => simp [D.py]
          | int _ => simp [D.py]
          | str _ => simp [D.py]
          | lst _ => simp [D.py]
      have er := each_of ra.length rvs
      refine PySem.W.sorted_data (R := fun v (b : V × D) => RelV b.1 v) (enc := fun b : V × D => b.2.py) (bs := vs.zip ds) pl.isList er (each_both er fun v b _ hb rb => ?_) hal hk ?_ (fun b hb => ?_) fun out hl eo => ?_
      · exact reads_of I le (cl _ (List.of_mem_zip hb).2) (.inl (repAll_mem ra b hb)) rb
      · rw [List.length_zip, ra.length, Nat.min_self, ← ra.length]; exact hz
      · have := (cl_lay 60 b.2 (cl _ (List.of_mem_zip hb).2)).2.1
        show X.A.units + 2 + b.2.py.depth < cLine
        omega
      · obtain ⟨e, he⟩ := sortedAll_at s.heap its out.toArray
        have lenb : ((vs.zip ds).mergeSort (PySem.W.dataLe false fun b : V × D => b.2.py)).length ≤ sizeLine := by
          rw [List.length_mergeSort, List.length_zip, ra.length, Nat.min_self, ← ra.length]; exact hz
        have hp : H (s.heap.objs.size + 1) = none := I.hok.fresh (Nat.le_succ _)
        have st := Stp.lay (o := .lst (((vs.zip ds).mergeSort (PySem.W.dataLe false fun b : V × D => b.2.py)).map (·.1))) le gen hp
        refine ⟨.ref (s.heap.objs.size + 1), _, I.laid (t' := s.toks) (o := .lst (((vs.zip ds).mergeSort (PySem.W.dataLe false fun b : V × D => b.2.py)).map (·.1))) (fun b o e => sortedAll_old e) (Nat.le_succ _) ⟨by rw [List.length_map]; exact lenb, out, e, each_vals eo, he⟩, rfl, q _ _ _ st (.lst upd_same ?_)⟩
        have fin := repAll_of (c := c) (F := F) (ps := (vs.zip ds).mergeSort (PySem.W.dataLe false fun b : V × D => b.2.py)) fun p hp => repAll_mem ra p (List.mem_mergeSort.mp hp)
        have e2 : ((vs.zip ds).mergeSort (PySem.W.dataLe false fun b : V × D => b.2.py)).map (·.2) = ds.mergeSort leD := by
          rw [List.map_mergeSort (s := leD) (f := fun b : V × D => b.2)]
          · congr 1
            rw [List.map_snd_zip]
            exact Nat.le_of_eq ra.length.symm
          · intro p _ p' _
            rfl
        rw [e2] at fin
        exact fin.up st.sub
    · exact absurd o not_ok_stuck
  · exact absurd o not_ok_stuck
end
end DL

/-! ## DExp -/
set_option Elab.async false
set_option autoImplicit false
set_option linter.all false
set_option maxRecDepth 100000
set_option maxHeartbeats 2000000
/-! DExp: expressions, by plain data. -/
namespace DL
open PySem PySem.Spec PyProof.Rows L2
section
variable {X : Cx} {c : C} {a b e : Expr} {es : List Expr} {fa fb f : E} {fs : Es} {pos : Pos}

/-! ### two operands, one -/
theorem two_imp {h : D → D → M D} : ∀ σ H Q, tP c (eO h fa fb) σ H Q → tOp (oD c h) (tR c fa) (tR c fb) σ H Q := fun σ H Q ⟨H0, F, δ, g, d, g', w, o, q⟩ => by
  obtain ⟨x, g1, o1, o⟩ := ok_bind.mp o
  obtain ⟨y, g2, o2, o3⟩ := ok_bind.mp o
  exact ⟨H0, F, δ, g, x, g1, w, o1, fun v F1 H1 s1 r1 => ⟨H0, F1, δ, g1, y, g2, w.step s1, o2, fun u F2 H2 s2 r2 =>
    ⟨F2, x, y, d, g2, g', s2.le, s2.gen, r1.step s2, r2, o3, fun z F3 H3 s3 r3 => q z F3 H3 ((s1.trans s2).trans s3) r3⟩⟩⟩
theorem d_op {op : Operator} {h : D → D → M D} (ho : OpR X (binaryOp op) (oD c h)) (ha : PE X a (tR c fa)) (hb : PE X b (tR c fb)) : PE X (.BinOp a op b pos) (tP c (eO h fa fb)) := (pe_op ho ha hb).imp two_imp
theorem d_cmp {op : CmpOp} {h : D → D → M D} (ho : OpR X (compareOp op) (oD c h)) (ha : PE X a (tR c fa)) (hb : PE X b (tR c fb)) (hm : behindInMarks op b = false := by rfl) : PE X (.Compare a [op] [b] pos) (tP c (eO h fa fb)) := (pe_cmpR ho ha hb hm).imp two_imp
theorem d_ix (ha : PE X a (tR c fa)) (hb : PE X b (tR c fb)) (hs : PlainIx b := by exact fun _ _ => rfl) : PE X (.Subscript a b pos) (tP c (eO dIx fa fb)) := (pe_ix ix_d ha hb hs).imp two_imp
/-- a test: a value that is True or False -/
theorem d_test (h : PE X e (tR c f)) (he : ∀ whole, isTrue e X.env whole = (do let v ← whole; standAt e.pos; holding [v] (truthy v)) := by intro _; rfl) : PT X e (tT c f) := (pt_val h he).imp fun σ H Q ⟨H0, F, δ, g, d, g', w, o, q⟩ =>
  ⟨H0, F, δ, g, .bl d, g', w, o, fun v F' H' s r => by
    have r := r.rep rfl
    cases r
    exact ⟨d, rfl, q F' H' s⟩⟩
theorem dt_cmp {op : CmpOp} {h : D → D → M D} (ho : OpR X (compareOp op) (oD c h)) (ha : PE X a (tR c fa)) (hb : PE X b (tR c fb)) (hm : behindInMarks op b = false := by rfl) : PT X (.Compare a [op] [b] pos) (tT c (eO h fa fb)) := (pt_cmpR ho ha hb hm).imp fun σ H Q ⟨H0, F, δ, g, d, g', w, o, q⟩ =>
  two_imp σ H _ ⟨H0, F, δ, g, .bl d, g', w, o, fun v F' H' s r => by
    cases r
    exact ⟨d, rfl, q F' H' s⟩⟩
theorem dt_not (ha : PT X a (tT c fa)) : PT X (.UnaryOp .Not a pos) (tT c (eF dNot fa)) := (pt_not ha).imp fun σ H Q ⟨H0, F, δ, g, d, g', w, o, q⟩ => by
  obtain ⟨x, g1, o1, o2⟩ := ok_bind.mp o
  unfold dNot at o2
  split at o2
  · obtain ⟨e, rfl⟩ := ok_pure.mp o2
    cases e
    exact ⟨H0, F, δ, g, _, g1, w, o1, q⟩
  · exact absurd o2 not_ok_stuck
theorem dw_one_and (ha : PT X a (tT c fa)) : PW X (.BoolOp .And [a] pos) (tT c fa) := pw_and1 ha
theorem dw_one_or (ha : PT X a (tT c fa)) : PW X (.BoolOp .Or [a] pos) (tT c fa) := pw_or1 ha
theorem _root_.L2.PW.imp {X : Cx} {e : Expr} {t t' : TT} (h : PW X e t) (i : ∀ σ H Q, t' σ H Q → t σ H Q) : PW X e t' := ⟨fun wh pins s σ H Q I q => h.run wh pins s σ H Q I (i σ H Q q)⟩
theorem dw_and {b : Expr} {rest : List Expr} (ha : PT X a (tT c fa)) (hb : PW X (.BoolOp .And (b :: rest) pos) (tT c fb)) : PW X (.BoolOp .And (a :: b :: rest) pos) (tT c (eAnd fa fb)) := (pw_and ha hb).imp fun σ H Q ⟨H0, F, δ, g, d, g', w, o, q⟩ => by
  obtain ⟨x, g1, o1, o2⟩ := ok_bind.mp o
  split at o2
  · exact ⟨H0, F, δ, g, true, g1, w, o1, fun F1 H1 s1 => by
      refine iteT ?_
      exact ⟨H0, F1, δ, g1, d, g', w.step s1, o2, fun F2 H2 s2 => q F2 H2 (s1.trans s2)⟩⟩
  · obtain ⟨e, rfl⟩ := ok_pure.mp o2
    cases e
    exact ⟨H0, F, δ, g, false, g1, w, o1, fun F1 H1 s1 => by
      refine iteF ?_
      exact q F1 H1 s1⟩
  · exact absurd o2 not_ok_stuck
theorem dw_or {b : Expr} {rest : List Expr} (ha : PT X a (tT c fa)) (hb : PW X (.BoolOp .Or (b :: rest) pos) (tT c fb)) : PW X (.BoolOp .Or (a :: b :: rest) pos) (tT c (eOr fa fb)) := (pw_or ha hb).imp fun σ H Q ⟨H0, F, δ, g, d, g', w, o, q⟩ => by
  obtain ⟨x, g1, o1, o2⟩ := ok_bind.mp o
  split at o2
  · exact ⟨H0, F, δ, g, false, g1, w, o1, fun F1 H1 s1 => by
      refine iteF ?_
      exact ⟨H0, F1, δ, g1, d, g', w.step s1, o2, fun F2 H2 s2 => q F2 H2 (s1.trans s2)⟩⟩
  · obtain ⟨e, rfl⟩ := ok_pure.mp o2
    cases e
    exact ⟨H0, F, δ, g, true, g1, w, o1, fun F1 H1 s1 => by
      refine iteT ?_
      exact q F1 H1 s1⟩
  · exact absurd o2 not_ok_stuck
/-- and, or, not as values -/
theorem d_one {op} (ha : PE X a (tP c fa)) : PE X (.BoolOp op [a] pos) (tP c fa) := pe_one ha
theorem d_and {b : Expr} {rest : List Expr} (ha : PE X a (tR c fa)) (hb : PE X (.BoolOp .And (b :: rest) pos) (tP c fb)) : PE X (.BoolOp .And (a :: b :: rest) pos) (tP c (eAnd fa fb)) := (pe_and ha hb).imp fun σ H Q ⟨H0, F, δ, g, d, g', w, o, q⟩ => by
  obtain ⟨x, g1, o1, o2⟩ := ok_bind.mp o
  split at o2
  · exact ⟨H0, F, δ, g, .bl true, g1, w, o1, fun v F1 H1 s1 r => by
      have r := r.rep rfl
      cases r
      refine ⟨true, rfl, ?_⟩
      refine iteT ?_
      exact ⟨H0, F1, δ, g1, d, g', w.step s1, o2, fun v F2 H2 s2 r => q v F2 H2 (s1.trans s2) r⟩⟩
  · obtain ⟨e, rfl⟩ := ok_pure.mp o2
    cases e
    exact ⟨H0, F, δ, g, .bl false, g1, w, o1, fun v F1 H1 s1 r => by
      have r := r.rep rfl
      cases r
      refine ⟨false, rfl, ?_⟩
      refine iteF ?_
      exact q _ F1 H1 s1 (.bl false)⟩
  · exact absurd o2 not_ok_stuck
theorem d_or {b : Expr} {rest : List Expr} (ha : PE X a (tR c fa)) (hb : PE X (.BoolOp .Or (b :: rest) pos) (tP c fb)) : PE X (.BoolOp .Or (a :: b :: rest) pos) (tP c (eOr fa fb)) := (pe_or ha hb).imp fun σ H Q ⟨H0, F, δ, g, d, g', w, o, q⟩ => by
  obtain ⟨x, g1, o1, o2⟩ := ok_bind.mp o
  split at o2
  · exact ⟨H0, F, δ, g, .bl false, g1, w, o1, fun v F1 H1 s1 r => by
      have r := r.rep rfl
      cases r
      refine ⟨false, rfl, ?_⟩
      refine iteF ?_
      exact ⟨H0, F1, δ, g1, d, g', w.step s1, o2, fun v F2 H2 s2 r => q v F2 H2 (s1.trans s2) r⟩⟩
  · obtain ⟨e, rfl⟩ := ok_pure.mp o2
    cases e
    exact ⟨H0, F, δ, g, .bl true, g1, w, o1, fun v F1 H1 s1 r => by
      have r := r.rep rfl
      cases r
      refine ⟨true, rfl, ?_⟩
      refine iteT ?_
      exact q _ F1 H1 s1 (.bl true)⟩
  · exact absurd o2 not_ok_stuck
theorem d_not (ha : PE X a (tR c fa)) : PE X (.UnaryOp .Not a pos) (tP c (eF dNot fa)) := (pe_not ha).imp fun σ H Q ⟨H0, F, δ, g, d, g', w, o, q⟩ => by
  obtain ⟨x, g1, o1, o2⟩ := ok_bind.mp o
  unfold dNot at o2
  split at o2
  · obtain ⟨e, rfl⟩ := ok_pure.mp o2
    subst e
    exact ⟨H0, F, δ, g, _, g1, w, o1, fun v F1 H1 s1 r => by
      have r := r.rep rfl
      cases r
      exact ⟨_, rfl, q _ F1 H1 s1 (.bl _)⟩⟩
  · exact absurd o2 not_ok_stuck
theorem d_if {t : Expr} {ft : E} (ht : PT X t (tT c ft)) (ha : PE X a (tP c fa)) (hb : PE X b (tP c fb)) : PE X (.IfExp t a b pos) (tP c (eIf ft fa fb)) := (pe_ifExp ht ha hb).imp fun σ H Q ⟨H0, F, δ, g, d, g', w, o, q⟩ => by
  obtain ⟨x, g1, o1, o2⟩ := ok_bind.mp o
  split at o2
  · exact ⟨H0, F, δ, g, true, g1, w, o1, fun F1 H1 s1 => by
      refine iteT ?_
      exact ⟨H0, F1, δ, g1, d, g', w.step s1, o2, fun v F2 H2 s2 r => q v F2 H2 (s1.trans s2) r⟩⟩
  · exact ⟨H0, F, δ, g, false, g1, w, o1, fun F1 H1 s1 => by
      refine iteF ?_
      exact ⟨H0, F1, δ, g1, d, g', w.step s1, o2, fun v F2 H2 s2 r => q v F2 H2 (s1.trans s2) r⟩⟩
  · exact absurd o2 not_ok_stuck
def dIsN (d : D) : M D := pure (.bl d.isNon)
def dNotN (d : D) : M D := pure (.bl (!d.isNon))
theorem d_isN {j pos'} (ha : PE X a (tR c fa)) : PE X (.Compare a [.Is] [.Constant .none j pos'] pos) (tP c (eF dIsN fa)) := (pe_cmp (pc_isN ha) rfl).imp fun σ H Q ⟨H0, F, δ, g, d, g', w, o, q⟩ => by
  obtain ⟨x, g1, o1, o2⟩ := ok_bind.mp o
  obtain ⟨rfl, rfl⟩ := ok_pure.mp o2
  exact ⟨H0, F, δ, g, x, g1, w, o1, fun v F1 H1 s1 r => by dsimp only; rw [isN_val r]; exact q _ F1 H1 s1 (.bl _)⟩
theorem d_notN {j pos'} (ha : PE X a (tR c fa)) : PE X (.Compare a [.IsNot] [.Constant .none j pos'] pos) (tP c (eF dNotN fa)) := (pe_cmp (pc_notN ha) rfl).imp fun σ H Q ⟨H0, F, δ, g, d, g', w, o, q⟩ => by
  obtain ⟨x, g1, o1, o2⟩ := ok_bind.mp o
  obtain ⟨rfl, rfl⟩ := ok_pure.mp o2
  exact ⟨H0, F, δ, g, x, g1, w, o1, fun v F1 H1 s1 r => by dsimp only; rw [isN_val r]; exact q _ F1 H1 s1 (.bl _)⟩
theorem dt_isN {j pos'} (ha : PE X a (tR c fa)) : PT X (.Compare a [.Is] [.Constant .none j pos'] pos) (tT c (eF dIsN fa)) := (pt_cmp (pc_isN ha) rfl).imp fun σ H Q ⟨H0, F, δ, g, d, g', w, o, q⟩ => by
  obtain ⟨x, g1, o1, o2⟩ := ok_bind.mp o
  obtain ⟨e, rfl⟩ := ok_pure.mp o2
  cases e
  exact ⟨H0, F, δ, g, x, g1, w, o1, fun v F1 H1 s1 r => by dsimp only; rw [isN_val r]; exact ⟨_, rfl, q F1 H1 s1⟩⟩
theorem dt_notN {j pos'} (ha : PE X a (tR c fa)) : PT X (.Compare a [.IsNot] [.Constant .none j pos'] pos) (tT c (eF dNotN fa)) := (pt_cmp (pc_notN ha) rfl).imp fun σ H Q ⟨H0, F, δ, g, d, g', w, o, q⟩ => by
  obtain ⟨x, g1, o1, o2⟩ := ok_bind.mp o
  obtain ⟨e, rfl⟩ := ok_pure.mp o2
  cases e
  exact ⟨H0, F, δ, g, x, g1, w, o1, fun v F1 H1 s1 r => by dsimp only; rw [isN_val r]; exact ⟨_, rfl, q F1 H1 s1⟩⟩

/-! ### displays, arguments -/
theorem das_nil : PA X [] (tAs c esN) := pa_nil.imp fun σ H Q ⟨H0, F, δ, g, d, g', w, o, q⟩ => by
  obtain ⟨rfl, rfl⟩ := ok_pure.mp o
  exact q [] F H (.refl w.le w.gen) .nil
theorem das_cons (ha : PE X e (tP c f)) (hr : PA X es (tAs c fs)) (hs : starEach (e :: es) X.env = (false, eval e X.env) :: starEach es X.env := by rfl) : PA X (e :: es) (tAs c (esC f fs)) := (pa_cons ha hr hs).imp fun σ H Q ⟨H0, F, δ, g, d, g', w, o, q⟩ => by
  obtain ⟨x, g1, o1, o⟩ := ok_bind.mp o
  obtain ⟨xs, g2, o2, o⟩ := ok_bind.mp o
  obtain ⟨rfl, rfl⟩ := ok_pure.mp o
  exact ⟨H0, F, δ, g, x, g1, w, o1, fun v F1 H1 s1 r1 => ⟨H0, F1, δ, g1, xs, g2, w.step s1, o2, fun vs F2 H2 s2 r2 => q _ F2 H2 (s1.trans s2) (.cons (r1.up s2.sub) r2)⟩⟩
theorem d_lst (h : PA X es (tAs c fs)) : PE X (.List es pos) (tP c (eLst fs)) := (pe_lst h).imp fun σ H Q ⟨H0, F, δ, g, d, g', w, o, q⟩ => by
  obtain ⟨xs, g1, o1, o⟩ := ok_bind.mp o
  split at o
  · rename_i hl
    obtain ⟨rfl, rfl⟩ := ok_pure.mp o
    refine ⟨H0, F, δ, g, xs, g1, w, o1, fun vs F1 H1 s1 r1 => ⟨by rw [r1.length]; exact lim_le hl, fun p hp => ?_⟩⟩
    have st := Stp.lay (o := .lst vs) s1.le s1.gen hp
    exact q _ _ _ (s1.trans st) (.lst upd_same (r1.up st.sub))
  · exact absurd o not_ok_stuck
theorem d_tup {x1} (h : PA X es (tAs c fs)) : PE X (.Tuple es x1 pos) (tP c (eTup fs)) := (pe_tup h).imp fun σ H Q ⟨H0, F, δ, g, d, g', w, o, q⟩ => by
  obtain ⟨xs, g1, o1, o⟩ := ok_bind.mp o
  split at o
  · rename_i hl
    obtain ⟨rfl, rfl⟩ := ok_pure.mp o
    refine ⟨H0, F, δ, g, xs, g1, w, o1, fun vs F1 H1 s1 r1 => ⟨by rw [r1.length]; exact lim_le hl, fun p hp => ?_⟩⟩
    have st := Stp.lay (o := .tup vs) s1.le s1.gen hp
    exact q _ _ _ (s1.trans st) (.tup upd_same (r1.up st.sub))
  · exact absurd o not_ok_stuck
/-- {} -/
theorem d_dct0 : PE X (.Dict [] [] pos) (tP c (eK (.dct []))) := pe_dnewK.imp fun σ H Q ⟨H0, F, δ, g, d, g', w, o, q⟩ => by
  obtain ⟨rfl, rfl⟩ := ok_pure.mp o
  intro p hp
  exact q _ _ _ (Stp.lay w.le w.gen hp) (.dct0 upd_same)

/-! ### slices -/
def tOs (c : C) (f : Dlt → M (Option Int)) : TO := fun σ H Q => ∃ H0 F δ g d g', Wd c H0 F H σ δ g ∧ Ok (f δ) g d g' ∧ ∀ F' H', Stp c F H F' H' g' → Q d H'
theorem _root_.L2.PO.imp {X : Cx} {e : Option Expr} {t t' : TO} (h : PO X e t) (i : ∀ σ H Q, t' σ H Q → t σ H Q) : PO X e t' := ⟨fun pins s σ H Q I q => h.run pins s σ H Q I (i σ H Q q)⟩
theorem do_none : PO X none (tOs c eNo) := po_none.imp fun σ H Q ⟨H0, F, δ, g, d, g', w, o, q⟩ => by
  obtain ⟨rfl, rfl⟩ := ok_pure.mp o
  exact q F H (.refl w.le w.gen)
theorem do_some (ha : PE X e (tR c f)) : PO X (some e) (tOs c (eAt f)) := (po_some ha).imp fun σ H Q ⟨H0, F, δ, g, d, g', w, o, q⟩ => by
  obtain ⟨x, g1, o1, o⟩ := ok_bind.mp o
  split at o
  · obtain ⟨rfl, rfl⟩ := ok_pure.mp o
    exact ⟨H0, F, δ, g, _, g1, w, o1, fun v F1 H1 s1 r1 => by
      have r := r1.rep rfl
      cases r
      exact ⟨_, rfl, q F1 H1 s1⟩⟩
  · exact absurd o not_ok_stuck
theorem d_cut {lo hi : Option Expr} {fl fh : Dlt → M (Option Int)} {p2 : Pos} (ha : PE X e (tR c f)) (hl : PO X lo (tOs c fl)) (hh : PO X hi (tOs c fh)) : PE X (.Subscript e (.Slice lo hi none p2) pos) (tP c (eCut f fl fh)) := (pe_slice sl_d ha hl hh).imp fun σ H Q ⟨H0, F, δ, g, d, g', w, o, q⟩ => by
  obtain ⟨x, g1, o1, o⟩ := ok_bind.mp o
  obtain ⟨l, g2, o2, o⟩ := ok_bind.mp o
  obtain ⟨u, g3, o3, o⟩ := ok_bind.mp o
  exact ⟨H0, F, δ, g, x, g1, w, o1, fun v F1 H1 s1 r1 => ⟨H0, F1, δ, g1, l, g2, w.step s1, o2, fun F2 H2 s2 => ⟨H0, F2, δ, g2, u, g3, (w.step s1).step s2, o3, fun F3 H3 s3 =>
    ⟨F3, x, d, g3, g', s3.le, s3.gen, (r1.step s2).step s3, o, fun z F4 H4 s4 r4 => q z F4 H4 (((s1.trans s2).trans s3).trans s4) r4⟩⟩⟩⟩
theorem d_rev {k : Nat} {p1 p2 p3 : Pos} (ha : PE X e (tR c f)) : PE X (.Subscript e (.Slice none none (some (.UnaryOp .USub (.Constant (.int 1) k p1) p2)) p3) pos) (tP c (eF dRev f)) := (pe_revL ha).imp fun σ H Q ⟨H0, F, δ, g, d, g', w, o, q⟩ => by
  obtain ⟨x, g1, o1, o⟩ := ok_bind.mp o
  unfold dRev at o
  split at o
  · obtain ⟨rfl, rfl⟩ := ok_pure.mp o
    refine ⟨H0, F, δ, g, _, g1, w, o1, fun v F1 H1 s1 r1 => ?_⟩
    obtain ⟨a, vs, rfl, ea, ra⟩ := r1.lst s1.le
    refine ⟨a, vs, rfl, SqL.of ea, fun p hp => ?_⟩
    have st := Stp.lay (o := .lst vs.reverse) s1.le s1.gen hp
    exact q _ _ _ (s1.trans st) (.lst upd_same (ra.reverse.up st.sub))
  · exact absurd o not_ok_stuck

/-! ### calls of built-ins -/
theorem one_imp {h : D → M D} : ∀ σ H Q, tP c (eF h fa) σ H Q → tCB (c1 c h) (tCons (tR c fa) tNil) σ H Q := fun σ H Q ⟨H0, F, δ, g, d, g', w, o, q⟩ => by
  obtain ⟨x, g1, o1, o⟩ := ok_bind.mp o
  exact ⟨H0, F, δ, g, x, g1, w, o1, fun v F1 H1 s1 r1 => ⟨v, rfl, F1, x, d, g1, g', s1.le, s1.gen, r1, o, fun z F2 H2 s2 r2 => q z F2 H2 (s1.trans s2) r2⟩⟩
theorem pair_imp {h : D → D → M D} : ∀ σ H Q, tP c (eO h fa fb) σ H Q → tCB (c2 c h) (tCons (tR c fa) (tCons (tR c fb) tNil)) σ H Q := fun σ H Q ⟨H0, F, δ, g, d, g', w, o, q⟩ => by
  obtain ⟨x, g1, o1, o⟩ := ok_bind.mp o
  obtain ⟨y, g2, o2, o⟩ := ok_bind.mp o
  exact ⟨H0, F, δ, g, x, g1, w, o1, fun v F1 H1 s1 r1 => ⟨H0, F1, δ, g1, y, g2, w.step s1, o2, fun u F2 H2 s2 r2 => ⟨v, u, rfl, F2, x, y, d, g2, g', s2.le, s2.gen, r1.step s2, r2, o, fun z F3 H3 s3 r3 => q z F3 H3 ((s1.trans s2).trans s3) r3⟩⟩⟩
variable {x : Str} {p : Pos} {id T : String}
theorem d_b1 {h : D → M D} (hc : CallR X (.builtin id) (c1 c h)) (hm : X.mg x = none) (hv : bootBuiltins x = some (.builtin id)) (ha : PE X a (tR c fa)) (hg : Gl X x := by rfl) (hn : x ≠ "__name__" := by decide) (hdb : (x == ("__debug__" : Str)) = false := by decide)
    (he : starEach [a] X.env = (false, eval a X.env) :: starEach [] X.env := by rfl) : PE X (.Call (.Name x p) [a] [] pos) (tP c (eF h fa)) := (pe_callB hc hg hm hv (pa_cons ha pa_nil he) hn hdb he rfl).imp one_imp
theorem d_b2 {h : D → D → M D} (hc : CallR X (.builtin id) (c2 c h)) (hm : X.mg x = none) (hv : bootBuiltins x = some (.builtin id)) (ha : PE X a (tR c fa)) (hb : PE X b (tR c fb)) (hg : Gl X x := by rfl) (hn : x ≠ "__name__" := by decide) (hdb : (x == ("__debug__" : Str)) = false := by decide)
    (he : starEach [a, b] X.env = (false, eval a X.env) :: starEach [b] X.env := by rfl) (he2 : starEach [b] X.env = (false, eval b X.env) :: starEach [] X.env := by rfl) (hpl : (backTo pos (starEach [b] X.env)).any (·.1) = false := by rfl) :
    PE X (.Call (.Name x p) [a, b] [] pos) (tP c (eO h fa fb)) := (pe_callB hc hg hm hv (pa_cons ha (pa_cons hb pa_nil he2) he) hn hdb he hpl).imp pair_imp
theorem d_t1 {h : D → M D} (hc : CallR X (.type T) (c1 c h)) (hm : X.mg x = none) (hv : bootBuiltins x = some (.type T)) (ha : PE X a (tR c fa)) (hg : Gl X x := by rfl) (hn : x ≠ "__name__" := by decide) (hdb : (x == ("__debug__" : Str)) = false := by decide)
    (he : starEach [a] X.env = (false, eval a X.env) :: starEach [] X.env := by rfl) : PE X (.Call (.Name x p) [a] [] pos) (tP c (eF h fa)) := (pe_callTy hc hg hm hv (pa_cons ha pa_nil he) hn hdb he rfl).imp one_imp
/-- isinstance(a, T) -/
theorem d_isi {t : String} {y : Str} {p2 : Pos} (ht : t ∈ ["bool", "int", "str", "list", "tuple", "dict"]) (hm : X.mg "isinstance" = none) (hv : bootBuiltins "isinstance" = some (.builtin "isinstance")) (hy : X.mg y = none) (hvy : bootBuiltins y = some (.type t))
    (ha : PE X a (tR c fa)) (hg : Gl X "isinstance" := by rfl) (hgy : Gl X y := by rfl) (hn : y ≠ "__name__" := by decide) (hdb : (y == ("__debug__" : Str)) = false := by decide)
    (he : starEach [a, .Name y p2] X.env = (false, eval a X.env) :: starEach [.Name y p2] X.env := by rfl) :
    PE X (.Call (.Name "isinstance" p) [a, .Name y p2] [] pos) (tP c (eF (fun d => dIsI d t) fa)) :=
  (pe_callB (isi_c (c := c) ht) hg hm hv (pa_cons ha (pa_cons (pe_bltn (v := .ty t) hgy hy hvy rfl hn hdb) pa_nil) he) (by decide) (by decide) he rfl).imp fun σ H Q ⟨H0, F, δ, g, d, g', w, o, q⟩ => by
    obtain ⟨x, g1, o1, o⟩ := ok_bind.mp o
    exact ⟨H0, F, δ, g, x, g1, w, o1, fun v F1 H1 s1 r1 => ⟨v, rfl, F1, x, d, g1, g', s1.le, s1.gen, r1, o, fun z F2 H2 s2 r2 => q z F2 H2 (s1.trans s2) r2⟩⟩
/-- isinstance(a, (T, U)) -/
theorem d_isi2 {t u : String} {y z : Str} {p2 p3 p4 : Pos} {k} (ht : t ∈ ["bool", "int", "str", "list", "tuple", "dict"]) (hu : u ∈ ["bool", "int", "str", "list", "tuple", "dict"]) (hm : X.mg "isinstance" = none) (hv : bootBuiltins "isinstance" = some (.builtin "isinstance"))
    (hy : X.mg y = none) (hvy : bootBuiltins y = some (.type t)) (hz : X.mg z = none) (hvz : bootBuiltins z = some (.type u))
    (ha : PE X a (tR c fa)) (hg : Gl X "isinstance" := by rfl) (hgy : Gl X y := by rfl) (hgz : Gl X z := by rfl) (hn : y ≠ "__name__" := by decide) (hdb : (y == ("__debug__" : Str)) = false := by decide) (hnz : z ≠ "__name__" := by decide) (hdbz : (z == ("__debug__" : Str)) = false := by decide)
    (he : starEach [a, .Tuple [.Name y p2, .Name z p3] k p4] X.env = (false, eval a X.env) :: starEach [.Tuple [.Name y p2, .Name z p3] k p4] X.env := by rfl) :
    PE X (.Call (.Name "isinstance" p) [a, .Tuple [.Name y p2, .Name z p3] k p4] [] pos) (tP c (eF (fun d => dIsI2 d t u) fa)) :=
  (pe_callB (isi2_c (c := c) ht hu) hg hm hv (pa_cons ha (pa_cons (pe_tup (pa_cons (pe_bltn (v := .ty t) hgy hy hvy rfl hn hdb) (pa_cons (pe_bltn (v := .ty u) hgz hz hvz rfl hnz hdbz) pa_nil))) pa_nil) he) (by decide) (by decide) he rfl).imp fun σ H Q ⟨H0, F, δ, g, d, g', w, o, q⟩ => by
    obtain ⟨x, g1, o1, o⟩ := ok_bind.mp o
    exact ⟨H0, F, δ, g, x, g1, w, o1, fun v F1 H1 s1 r1 => ⟨by show 2 ≤ sizeLine; decide, fun p hp => ⟨v, p, rfl, upd_same, F1, x, d, g1, g', (Stp.tmp s1.le s1.gen hp).le, (Stp.tmp s1.le s1.gen hp).gen, r1.step (Stp.tmp s1.le s1.gen hp), o,
      fun z F2 H2 s2 r2 => q z F2 H2 ((s1.trans (Stp.tmp s1.le s1.gen hp)).trans s2) r2⟩⟩⟩
/-- xs.index(e) -/
theorem d_index {apos : Pos} (ha : PE X a (tR c fa)) (hb : PE X b (tR c fb)) (hbase : attributeBase a "index" X.env (eval a X.env) = eval a X.env := by rfl)
    (hfew : ((backTo pos (starEach [b] X.env)).all (fun x => !x.1) && (backToKw pos (keywordEach [] X.env)).all (fun x => x.1.isSome) && decide ([b].length + ([] : List Keyword).length + (if ([] : List Keyword).isEmpty then 0 else 1) < 30)) = true := by rfl)
    (hline : (apos.endLine == pos.line) = true := by rfl) (hs : starEach [b] X.env = (false, eval b X.env) :: starEach [] X.env := by rfl) :
    PE X (.Call (.Attribute a "index" apos) [b] [] pos) (tP c (eO dIndex fa fb)) :=
  (pe_bm PySem.F.plainAttrs_list PySem.F.slot_list_index PySem.F.type_list_index (index_m (c := c)) ha (pa_cons hb pa_nil hs) hbase hfew hline hs rfl).imp fun σ H Q ⟨H0, F, δ, g, d, g', w, o, q⟩ => by
    obtain ⟨x, g1, o1, o⟩ := ok_bind.mp o
    obtain ⟨y, g2, o2, o⟩ := ok_bind.mp o
    refine ⟨H0, F, δ, g, x, g1, w, o1, fun v F1 H1 s1 r1 => ⟨?_, ⟨H0, F1, δ, g1, y, g2, w.step s1, o2, fun u F2 H2 s2 r2 => ⟨u, rfl, F2, x, y, d, g2, g', s2.le, s2.gen, r1.step s2, r2, o, fun z F3 H3 s3 r3 => q z F3 H3 ((s1.trans s2).trans s3) r3⟩⟩⟩⟩
    cases x with
    | lst ds =>
      obtain ⟨a, vs, rfl, ea, _⟩ := r1.lst s1.le
      exact .inl ⟨rfl, _, SqL.of ea⟩
    | _ => exact absurd o not_ok_stuck
end
end DL

/-! ## DIt -/
set_option Elab.async false
set_option autoImplicit false
set_option linter.all false
set_option maxRecDepth 100000
set_option maxHeartbeats 2000000
/-! DIt: targets, what a loop walks, list comprehensions, by plain data. -/
namespace DL
open PySem PySem.Spec PyProof.Rows L2

/-! ### targets -/
theorem wipe_set {σ : L2.St} {i : Nat} {x : Option V} : ∀ {vs : List Nat}, i ∈ vs → wipe (σ.set i x) vs = wipe σ vs
  | [], h => by cases h
  | j :: vs, h => by
    unfold wipe
    by_cases hi : i ∈ vs
    · rw [wipe_set hi]
    · have e : i = j := by
        rcases List.mem_cons.mp h with e | e
        · exact e
        · exact absurd e hi
      subst e
      have comm : ∀ (ws : List Nat), i ∉ ws → wipe (σ.set i x) ws = (wipe σ ws).set i x := by
        intro ws
        induction ws with
        | nil => intro _; rfl
        | cons k ws ih =>
          intro hk
          simp only [List.mem_cons, not_or] at hk
          show (wipe (σ.set i x) ws).set k none = ((wipe σ ws).set k none).set i x
          rw [ih hk.2, List.set_comm _ _ (fun e => hk.1 (by rw [e]))]
      rw [comm vs hi, List.set_set]
theorem wipe_wipe (σ : L2.St) : ∀ vs : List Nat, wipe (wipe σ vs) vs = wipe σ vs
  | [] => rfl
  | i :: vs => by
    show (wipe ((wipe σ vs).set i none) vs).set i none = (wipe σ vs).set i none
    have h : ∀ (τ : L2.St), (wipe (τ.set i none) vs).set i none = (wipe τ vs).set i none := fun τ => by
      by_cases hi : i ∈ vs
      · rw [wipe_set hi]
      · have comm : ∀ (ws : List Nat), i ∉ ws → wipe (τ.set i none) ws = (wipe τ ws).set i none := by
          intro ws
          induction ws with
          | nil => intro _; rfl
          | cons k ws ih =>
            intro hk
            simp only [List.mem_cons, not_or] at hk
            show (wipe (τ.set i none) ws).set k none = ((wipe τ ws).set k none).set i none
            rw [ih hk.2, List.set_comm _ _ (fun e => hk.1 (by rw [e]))]
        rw [comm vs hi, List.set_set]
    rw [h, wipe_wipe σ vs]

/-- what a target's slots are; the datum goes to them -/
def gD (c : C) (gd : G) (is : List Nat) : TG := fun v σ H Q => ∃ H0 F δ g d δ', Wd c H0 F H σ δ g ∧ Rep c F v d ∧ gd d δ = some δ' ∧
  ∀ σ', Wd c H0 F H σ' δ' g → (∀ vs : List Nat, (∀ i ∈ is, i ∈ vs) → wipe σ' vs = wipe σ vs) → (∀ (i : Nat) (xs : List D), δ'[i]? = some (Sl.own xs) → δ[i]? = some (Sl.own xs) ∧ σ'[i]? = σ[i]?) → Q σ' H
def gsD (c : C) (gs : List G) (is : List Nat) : TGs := fun us σ H Q => ∃ H0 F δ g ds δ', Wd c H0 F H σ δ g ∧ RepAll c F us ds ∧ gGo gs ds δ = some δ' ∧
  ∀ σ', Wd c H0 F H σ' δ' g → (∀ vs : List Nat, (∀ i ∈ is, i ∈ vs) → wipe σ' vs = wipe σ vs) → (∀ (i : Nat) (xs : List D), δ'[i]? = some (Sl.own xs) → δ[i]? = some (Sl.own xs) ∧ σ'[i]? = σ[i]?) → Q σ' H
theorem _root_.L2.PG.imp {X : Cx} {e : Expr} {t t' : TG} (h : PG X e t) (i : ∀ v σ H Q, t' v σ H Q → t v σ H Q) : PG X e t' := ⟨fun pins s σ H v u Q I r q => h.run pins s σ H v u Q I r (i v σ H Q q)⟩
theorem _root_.L2.PGs.imp {X : Cx} {e : List Expr} {t t' : TGs} (h : PGs X e t) (i : ∀ v σ H Q, t' v σ H Q → t v σ H Q) : PGs X e t' := ⟨fun pins s σ H v u Q I r q => h.run pins s σ H v u Q I r (i v σ H Q q)⟩
section
variable {X : Cx} {c : C} {e : Expr} {es : List Expr} {pos : Pos}
theorem dg_name {i : Nat} (h : PG X e (gName i)) : PG X e (gD c (gN i) [i]) := h.imp fun v σ H Q ⟨H0, F, δ, g, d, δ', w, r, o, q⟩ => by
  cases o
  refine q _ (w.set r) (fun vs hv => wipe_set (hv i (List.mem_singleton.mpr rfl))) fun j xs hj => ?_
  by_cases e : i = j
  · subst e
    by_cases hl : i < δ.length
    · rw [List.getElem?_set_self hl] at hj; cases hj
    · rw [List.getElem?_eq_none (by simpa using hl)] at hj; cases hj
  · rw [List.getElem?_set_ne e] at hj ⊢
    exact ⟨hj, rfl⟩
theorem dgs_nil : PGs X [] (gsD c [] []) := pgs_nil.imp fun vs σ H Q ⟨H0, F, δ, g, ds, δ', w, r, o, q⟩ => by
  cases ds with
  | nil =>
    cases r
    cases o
    exact ⟨rfl, q σ w (fun _ _ => rfl) fun i xs h => ⟨h, rfl⟩⟩
  | cons d ds => cases o
theorem dgs_cons {gd : G} {gs : List G} {is js : List Nat} (h1 : PG X e (gD c gd is)) (h2 : PGs X es (gsD c gs js)) (hs : (assignEach (e :: es) X.env).map (·.2) = assign e X.env :: (assignEach es X.env).map (·.2) := by rfl) : PGs X (e :: es) (gsD c (gd :: gs) (is ++ js)) :=
  (pgs_cons h1 h2 hs).imp fun us σ H Q ⟨H0, F, δ, g, ds, δ', w, r, o, q⟩ => by
    cases r with
    | nil => cases o
    | @cons _ v vs d ds r rs =>
      unfold gGo at o
      obtain ⟨δ1, o1, o2⟩ := Option.bind_eq_some_iff.mp o
      refine ⟨v, vs, rfl, H0, F, δ, g, d, δ1, w, r, o1, fun σ1 w1 k1 l1 => ⟨H0, F, δ1, g, ds, δ', w1, rs, o2, fun σ2 w2 k2 l2 => q σ2 w2 (fun vs hv => ?_) fun i xs hi => ?_⟩⟩
      · rw [k2 vs fun i hi => hv i (List.mem_append_right _ hi), k1 vs fun i hi => hv i (List.mem_append_left _ hi)]
      · obtain ⟨a1, a2⟩ := l2 i xs hi
        obtain ⟨b1, b2⟩ := l1 i xs a1
        exact ⟨b1, a2.trans b2⟩
theorem dg_tup {gs : List G} {is : List Nat} {k : Nat} (hc : X.calm = true) (h : PGs X es (gsD c gs is)) (hn : (assignEach es X.env).length = gs.length := by rfl) (hst : (assignEach es X.env).findIdx? (·.1) = none := by rfl) : PG X (.Tuple es k pos) (gD c (gT gs) is) :=
  (pg_tup hc h hn hst).imp fun v σ H Q ⟨H0, F, δ, g, d, δ', w, r, o, q⟩ => by
    unfold gT at o
    split at o
    · rename_i ds
      cases r with
      | @tup _ a vs _ ea ra =>
        refine ⟨a, vs, rfl, SqT.of (w.le _ _ ea), ?_, H0, F, δ, g, ds, δ', w, ra, o, q⟩
        have hl : ∀ (gs : List G) (ds : List D) (δ δ' : Dlt), gGo gs ds δ = some δ' → gs.length = ds.length := by
          intro gs
          induction gs with
          | nil => intro ds δ δ' h; cases ds with
            | nil => rfl
            | cons _ _ => cases h
          | cons g gs ih =>
            intro ds δ δ' h
            cases ds with
            | nil => cases h
            | cons d ds =>
              unfold gGo at h
              obtain ⟨δ1, _, o2⟩ := Option.bind_eq_some_iff.mp h
              simp [ih ds δ1 δ' o2]
        rw [ra.length, hl gs ds δ δ' o]
    · cases o
end

/-! ### what is walked -/
/-- J gives ds one by one, as long as what is relied on stands, and the objects at bs -/
structure WalkD (c : C) (J : It) (bs : List Addr) (F H : Hp) (ds : List D) : Prop where
  bk : ∀ b ∈ bs, H b ≠ none ∧ c.ga ≠ some b
  goes : ∀ (i : Nat) (F1 H1 : Hp), i < ds.length → Same F F1 → Same F1 H1 → (∀ b ∈ bs, H1 b = H b) → Same c.bo H1 → J.go i H1
  stops : ∀ (F1 H1 : Hp), Same F F1 → Same F1 H1 → (∀ b ∈ bs, H1 b = H b) → Same c.bo H1 → J.stop ds.length H1
  yields : ∀ (i : Nat) (F1 H1 : Hp) (g : Gs) (x : V) (H2 : Hp), i < ds.length → Same F F1 → Same F1 H1 → (∀ b ∈ bs, H1 b = H b) → GenOk c F1 H1 g → J.yld i H1 x H2 → ∃ F2 d, ds[i]? = some d ∧ Stp c F1 H1 F2 H2 g ∧ Rep c F2 x d
def iD (c : C) (src : Es) : TI := fun σ H R => ∃ H0 F δ g ds g', Wd c H0 F H σ δ g ∧ Ok (src δ) g ds g' ∧ ∀ J F' H', Stp c F H F' H' g' → WalkD c J [] F' H' ds → R J H'
def iB (c : C) (src : Es) : TI := fun σ H R => ∃ H0 F δ g ds g', Wd c H0 F H σ δ g ∧ Ok (src δ) g ds g' ∧ ∀ J bs F' H', Stp c F H F' H' g' → WalkD c J bs F' H' ds → R J H'
theorem _root_.L2.PI.imp {X : Cx} {tg e : Expr} {t t' : TI} (h : PI X tg e t) (i : ∀ σ H Q, t' σ H Q → t σ H Q) : PI X tg e t' := ⟨fun pins s σ H Q I q => h.run pins s σ H Q I (i σ H Q q)⟩
section
variable {X : Cx} {c : C} {tg e e2 : Expr} {f f2 : E} {src : Es} {pos p tpos : Pos} {elts : List Expr} {kk : Nat}
theorem _root_.L2.PI.b (h : PI X tg e (iD c src)) : PI X tg e (iB c src) := h.imp fun σ H R ⟨H0, F, δ, g, ds, g', w, o, q⟩ => ⟨H0, F, δ, g, ds, g', w, o, fun J F' H' s k => q J [] F' H' s k⟩
theorem walk_lst {K : PySem.W.Frag} {a : Addr} {vs : List V} {F H : Hp} {ds : List D} {bs : List Addr} (h : ∀ F1 H1, Same F F1 → Same F1 H1 → (∀ b ∈ bs, H1 b = H b) → H1 a = some (.lst vs)) (hb : ∀ b ∈ bs, H b ≠ none ∧ c.ga ≠ some b) (r : RepAll c F vs ds) : WalkD c (Itl K a) bs F H ds := by
  refine ⟨hb, fun i F1 H1 hi s1 s2 s3 _ => ?_, fun F1 H1 s1 s2 s3 _ => ⟨vs, SqL.of (h F1 H1 s1 s2 s3), Nat.le_of_eq r.length⟩, fun i F1 H1 g x H2 hi s1 s2 s3 gen hy => ?_⟩
  · obtain ⟨v, hv, _⟩ := r.get (List.getElem?_eq_getElem hi)
    exact ⟨vs, v, SqL.of (h F1 H1 s1 s2 s3), hv⟩
  · obtain ⟨rfl, hx⟩ := hy
    obtain ⟨d, hd, rd⟩ := r.getV (hx vs (SqL.of (h F1 _ s1 s2 s3)))
    exact ⟨F1, d, hd, .refl s2 gen, rd.up s1⟩
theorem wrapB_rep {F : Hp} : ∀ {vs : List V} {ds : List D}, RepAll c c.bo vs ds → RepAll c F vs (ds.map wrapB)
  | _, _, .nil => .nil
  | _, _, .cons (d := d) r t => by
    refine .cons ?_ (wrapB_rep t)
    unfold wrapB
    split
    · rename_i h
      cases d with
      | non => cases r; exact .non
      | bl b => cases r; exact .bl b
      | int i => cases r; exact .int i
      | str x => cases r; exact .str x
      | _ => cases h
    · exact .bor r
theorem walk_bor {K : PySem.W.Frag} {a : Addr} {vs : List V} {F H : Hp} {ds : List D} (h : c.bo a = some (.lst vs)) (r : RepAll c c.bo vs ds) : WalkD c (Itl K a) [] F H (ds.map wrapB) := by
  have r2 : RepAll c F vs (ds.map wrapB) := wrapB_rep r
  refine ⟨fun _ z => (nomatch z), fun i F1 H1 hi s1 s2 s3 sb => ?_, fun F1 H1 s1 s2 s3 sb => ⟨vs, SqL.of (sb _ _ h), Nat.le_of_eq r2.length⟩, fun i F1 H1 g x H2 hi s1 s2 s3 gen hy => ?_⟩
  · obtain ⟨v, hv, _⟩ := r2.get (List.getElem?_eq_getElem hi)
    exact ⟨vs, v, SqL.of (sb _ _ h), hv⟩
  · obtain ⟨rfl, hx⟩ := hy
    obtain ⟨d, hd, rd⟩ := r2.getV (hx vs (SqL.of (gen.bo _ _ h)))
    exact ⟨F1, d, hd, .refl s2 gen, rd.up s1⟩
/-- for x in xs -/
theorem di_lst (h : PE X e (tP c f)) : PI X tg e (iD c (xL f)) := (pi_list h).imp fun σ H R ⟨H0, F, δ, g, ds, g', w, o, q⟩ => by
  obtain ⟨x, g1, o1, o⟩ := ok_bind.mp o
  unfold rowOf at o
  split at o
  · obtain ⟨rfl, rfl⟩ := ok_pure.mp o
    refine ⟨H0, F, δ, g, _, g1, w, o1, fun v F1 H1 s1 r1 => ?_⟩
    cases r1 with
    | @lst _ a vs _ ea ra => exact ⟨a, rfl, ⟨vs, SqL.of (s1.le _ _ ea)⟩, q _ F1 H1 s1 (walk_lst (fun F2 H2 t1 t2 _ => t2 _ _ (t1 _ _ ea)) (fun _ z => nomatch z) ra)⟩
  · obtain ⟨rfl, rfl⟩ := ok_pure.mp o
    refine ⟨H0, F, δ, g, _, g1, w, o1, fun v F1 H1 s1 r1 => ?_⟩
    cases r1 with
    | bor r1 =>
      cases r1 with
      | @lst _ a vs _ ea ra => exact ⟨a, rfl, ⟨vs, SqL.of (s1.gen.bo _ _ ea)⟩, q _ F1 H1 s1 (walk_bor ea ra)⟩
  · exact absurd o not_ok_stuck
theorem di_rd (h : PE X e (tR c f)) : PI X tg e (iB c (xL f)) := (pi_list h).imp fun σ H R ⟨H0, F, δ, g, ds, g', w, o, q⟩ => by
  obtain ⟨x, g1, o1, o⟩ := ok_bind.mp o
  unfold rowOf at o
  split at o
  · obtain ⟨rfl, rfl⟩ := ok_pure.mp o
    refine ⟨H0, F, δ, g, _, g1, w, o1, fun v F1 H1 s1 r1 => ?_⟩
    rcases r1 with r1 | ⟨a, vs, ds', rfl, e2, ea, na, ra⟩
    · cases r1 with
      | @lst _ a vs _ ea ra => exact ⟨a, rfl, ⟨vs, SqL.of (s1.le _ _ ea)⟩, q _ [] F1 H1 s1 (walk_lst (fun F2 H2 t1 t2 _ => t2 _ _ (t1 _ _ ea)) (fun _ z => nomatch z) ra)⟩
    · cases e2
      exact ⟨a, rfl, ⟨vs, SqL.of ea⟩, q _ [a] F1 H1 s1 (walk_lst (fun F2 H2 t1 t2 t3 => (t3 a (List.mem_singleton.mpr rfl)).trans ea) (fun b hb => by
        rw [List.mem_singleton.mp hb]
        exact ⟨(fun z => by rw [ea] at z; cases z), na⟩) ra)⟩
  · obtain ⟨rfl, rfl⟩ := ok_pure.mp o
    refine ⟨H0, F, δ, g, _, g1, w, o1, fun v F1 H1 s1 r1 => ?_⟩
    have r1 := r1.rep rfl
    cases r1 with
    | bor r1 =>
      cases r1 with
      | @lst _ a vs _ ea ra => exact ⟨a, rfl, ⟨vs, SqL.of (s1.gen.bo _ _ ea)⟩, q _ [] F1 H1 s1 (walk_bor ea ra)⟩
  · exact absurd o not_ok_stuck
/-- for x in t -/
theorem di_tup (h : PE X e (tP c f)) : PI X tg e (iD c (xT f)) := (pi_tup h).imp fun σ H R ⟨H0, F, δ, g, ds, g', w, o, q⟩ => by
  obtain ⟨x, g1, o1, o⟩ := ok_bind.mp o
  unfold rowOfT at o
  split at o
  · obtain ⟨rfl, rfl⟩ := ok_pure.mp o
    refine ⟨H0, F, δ, g, _, g1, w, o1, fun v F1 H1 s1 r1 => ?_⟩
    cases r1 with
    | @tup _ a vs _ ea ra =>
      refine ⟨a, rfl, ⟨vs, SqT.of (s1.le _ _ ea)⟩, q _ F1 H1 s1 ⟨fun _ z => (nomatch z), fun i F2 H2 hi t1 t2 _ _ => ?_, fun F2 H2 t1 t2 _ _ => ⟨vs, SqT.of (t2 _ _ (t1 _ _ ea)), Nat.le_of_eq ra.length⟩, fun i F2 H2 g x H3 hi t1 t2 _ gen hy => ?_⟩⟩
      · obtain ⟨v, hv, _⟩ := ra.get (List.getElem?_eq_getElem hi)
        exact ⟨vs, v, SqT.of (t2 _ _ (t1 _ _ ea)), hv⟩
      · obtain ⟨rfl, hx⟩ := hy
        obtain ⟨d, hd, rd⟩ := ra.getV (hx vs (SqT.of (t2 _ _ (t1 _ _ ea))))
        exact ⟨F2, d, hd, .refl t2 gen, rd.up t1⟩
  · exact absurd o not_ok_stuck
theorem walk_rng {lo : Int} {n : Nat} {F H : Hp} : WalkD c (Itr lo n) [] F H ((List.range n).map fun k => .int (lo + (k : Nat))) := by
  refine ⟨fun _ z => (nomatch z), fun i F1 H1 hi _ _ _ _ => (show i < n by simpa using hi), fun F1 H1 _ _ _ _ => ?_, fun i F1 H1 g x H2 hi s1 s2 _ gen hy => ?_⟩
  · show n ≤ _
    simp
  · obtain ⟨rfl, rfl⟩ := hy
    have hi' : i < n := by simpa using hi
    exact ⟨F1, .int (lo + i), by simp [hi'], .refl s2 gen, .int _⟩
/-- for k in range(n) -/
theorem di_r1 (hm : X.mg "range" = none) (h : PE X e (tR c f)) (hg : Gl X "range" := by rfl) (hs : starEach [e] X.env = [(false, eval e X.env)] := by rfl) : PI X tg (.Call (.Name "range" p) [e] [] pos) (iD c (xR f)) :=
  (pi_range1 hg hm (pa_cons h pa_nil (by rw [hs]; rfl)) hs).imp fun σ H R ⟨H0, F, δ, g, ds, g', w, o, q⟩ => by
    obtain ⟨x, g1, o1, o⟩ := ok_bind.mp o
    split at o
    · split at o
      · rename_i hj
        obtain ⟨rfl, rfl⟩ := ok_pure.mp o
        refine ⟨H0, F, δ, g, _, g1, w, o1, fun v F1 H1 s1 r1 => ?_⟩
        have r1 := r1.rep rfl
        cases r1
        refine ⟨_, rfl, by omega, by omega, q _ F1 H1 s1 ?_⟩
        have wk := fun n => walk_rng (c := c) (lo := 0) (n := n) (F := F1) (H := H1)
        simp only [Int.zero_add] at wk
        exact wk _
      · exact absurd o not_ok_stuck
    · exact absurd o not_ok_stuck
/-- for k in range(a, b) -/
theorem di_r2 (hm : X.mg "range" = none) (h : PE X e (tR c f)) (h2 : PE X e2 (tR c f2)) (hg : Gl X "range" := by rfl) (hs : starEach [e, e2] X.env = [(false, eval e X.env), (false, eval e2 X.env)] := by rfl)
    (hs2 : starEach [e2] X.env = [(false, eval e2 X.env)] := by rfl) : PI X tg (.Call (.Name "range" p) [e, e2] [] pos) (iD c (xR2 f f2)) :=
  (pi_range2 hg hm (pa_cons h (pa_cons h2 pa_nil (by rw [hs2]; rfl)) (by rw [hs, hs2])) hs hs2).imp fun σ H R ⟨H0, F, δ, g, ds, g', w, o, q⟩ => by
    obtain ⟨x, g1, o1, o⟩ := ok_bind.mp o
    obtain ⟨y, g2, o2, o⟩ := ok_bind.mp o
    split at o
    · split at o
      · rename_i hj
        obtain ⟨rfl, rfl⟩ := ok_pure.mp o
        refine ⟨H0, F, δ, g, _, g1, w, o1, fun v F1 H1 s1 r1 => ⟨H0, F1, δ, g1, _, g2, w.step s1, o2, fun u F2 H2 s2 r2 => ?_⟩⟩
        have r1 := r1.rep rfl
        have r2 := r2.rep rfl
        cases r1; cases r2
        exact ⟨_, _, rfl, by omega, q _ F2 H2 (s1.trans s2) walk_rng⟩
      · exact absurd o not_ok_stuck
    · exact absurd o not_ok_stuck
theorem numFrom_get : ∀ (ds : List D) (n i : Nat), (numFrom n ds)[i]? = (ds[i]?).map fun d => .tup [.int ((n + i : Nat) : Int), d]
  | [], _, _ => by simp [numFrom]
  | d :: ds, n, 0 => by simp [numFrom]
  | d :: ds, n, i + 1 => by
    show (numFrom (n + 1) ds)[i]? = (ds[i]?).map _
    rw [numFrom_get ds (n + 1) i]
    congr 1
    funext d
    rw [show n + 1 + i = n + (i + 1) by omega]
theorem numFrom_len : ∀ (ds : List D) (n : Nat), (numFrom n ds).length = ds.length
  | [], _ => rfl
  | d :: ds, n => by simp [numFrom, numFrom_len ds (n + 1)]
theorem walk_num {K : PySem.W.Frag} {a : Addr} {vs : List V} {F H : Hp} {ds : List D} (h : F a = some (.lst vs)) (r : RepAll c F vs ds) : WalkD c (Ite K a) [] F H (numFrom 0 ds) := by
  have at' : ∀ F1 H1, Same F F1 → Same F1 H1 → H1 a = some (.lst vs) := fun F1 H1 t1 t2 => t2 _ _ (t1 _ _ h)
  refine ⟨fun _ z => (nomatch z), fun i F1 H1 hi s1 s2 _ _ => ?_, fun F1 H1 s1 s2 _ _ => ⟨vs, SqL.of (at' F1 H1 s1 s2), by rw [numFrom_len]; exact Nat.le_of_eq r.length⟩, fun i F1 H1 g x H2 hi s1 s2 _ gen hy => ?_⟩
  · rw [numFrom_len] at hi
    obtain ⟨v, hv, _⟩ := r.get (List.getElem?_eq_getElem hi)
    exact ⟨vs, v, SqL.of (at' F1 H1 s1 s2), hv⟩
  · obtain ⟨T, y, rfl, hT, rfl, hx⟩ := hy
    obtain ⟨d, hd, rd⟩ := r.getV (hx vs (SqL.of (at' F1 H1 s1 s2)))
    refine ⟨upd F1 T _, .tup [.int (i : Nat), d], ?_, Stp.lay s2 gen hT, .tup upd_same (.cons (.int _) (.cons ((rd.up s1).up (Stp.lay (o := .tup [.int (i : Nat), y]) s2 gen hT).sub) .nil))⟩
    rw [numFrom_get, hd]
    simp
/-- for i, x in enumerate(xs) -/
theorem di_enum (hm : X.mg "enumerate" = none) (h : PE X e (tP c f)) (hg : Gl X "enumerate" := by rfl) (hs : starEach [e] X.env = [(false, eval e X.env)] := by rfl) : PI X (.Tuple elts kk tpos) (.Call (.Name "enumerate" p) [e] [] pos) (iD c (xE f)) :=
  (pi_enum hg hm (pa_cons h pa_nil (by rw [hs]; rfl)) hs).imp fun σ H R ⟨H0, F, δ, g, ds, g', w, o, q⟩ => by
    obtain ⟨x, g1, o1, o⟩ := ok_bind.mp o
    split at o
    · obtain ⟨rfl, rfl⟩ := ok_pure.mp o
      refine ⟨H0, F, δ, g, _, g1, w, o1, fun v F1 H1 s1 r1 => ?_⟩
      cases r1 with
      | @lst _ a vs _ ea ra => exact ⟨a, vs, rfl, SqL.of (s1.le _ _ ea), q _ F1 H1 s1 (walk_num ea ra)⟩
    · exact absurd o not_ok_stuck
theorem zip2_get : ∀ (xs ys : List D) (i : Nat), (zip2 xs ys)[i]? = match xs[i]?, ys[i]? with
    | some x, some y => some (.tup [x, y])
    | _, _ => none
  | [], ys, i => by simp [zip2]
  | x :: xs, [], i => by
    simp only [zip2, List.getElem?_nil]
    cases (x :: xs)[i]? <;> rfl
  | x :: xs, y :: ys, 0 => by simp [zip2]
  | x :: xs, y :: ys, i + 1 => by
    show (zip2 xs ys)[i]? = _
    rw [zip2_get xs ys i]
    rfl
theorem zip2_len : ∀ (xs ys : List D), (zip2 xs ys).length = min xs.length ys.length
  | [], ys => by simp [zip2]
  | x :: xs, [] => by simp [zip2]
  | x :: xs, y :: ys => by simp [zip2, zip2_len xs ys, Nat.succ_min_succ]
theorem walk_zip2 {K : PySem.W.Frag} {a b : Addr} {vs us : List V} {F H : Hp} {xs ys : List D} (h : F a = some (.lst vs)) (h' : F b = some (.lst us)) (r : RepAll c F vs xs) (r' : RepAll c F us ys) : WalkD c (Itz K a b) [] F H (zip2 xs ys) := by
  have at' : ∀ F1 H1, Same F F1 → Same F1 H1 → H1 a = some (.lst vs) ∧ H1 b = some (.lst us) := fun F1 H1 t1 t2 => ⟨t2 _ _ (t1 _ _ h), t2 _ _ (t1 _ _ h')⟩
  refine ⟨fun _ z => (nomatch z), fun i F1 H1 hi s1 s2 _ _ => ?_, fun F1 H1 s1 s2 _ _ => ⟨vs, us, SqL.of (at' F1 H1 s1 s2).1, SqL.of (at' F1 H1 s1 s2).2, ?_⟩, fun i F1 H1 g x H2 hi s1 s2 _ gen hy => ?_⟩
  · rw [zip2_len] at hi
    obtain ⟨v, hv, _⟩ := r.get (List.getElem?_eq_getElem (show i < xs.length by omega))
    obtain ⟨u, hu, _⟩ := r'.get (List.getElem?_eq_getElem (show i < ys.length by omega))
    exact ⟨vs, us, v, u, SqL.of (at' F1 H1 s1 s2).1, SqL.of (at' F1 H1 s1 s2).2, hv, hu⟩
  · rw [zip2_len, r.length, r'.length]
    omega
  · obtain ⟨T, y, z, rfl, hT, rfl, hx, hz⟩ := hy
    obtain ⟨d, hd, rd⟩ := r.getV (hx vs (SqL.of (at' F1 H1 s1 s2).1))
    obtain ⟨e, he, re⟩ := r'.getV (hz us (SqL.of (at' F1 H1 s1 s2).2))
    have st := Stp.lay (o := .tup [y, z]) s2 gen hT
    refine ⟨upd F1 T (.tup [y, z]), .tup [d, e], ?_, st, .tup upd_same (.cons ((rd.up s1).up st.sub) (.cons ((re.up s1).up st.sub) .nil))⟩
    rw [zip2_get, hd, he]
/-- for x, y in zip(xs, ys) -/
theorem di_zip (hm : X.mg "zip" = none) (h : PE X e (tP c f)) (h2 : PE X e2 (tP c f2)) (hg : Gl X "zip" := by rfl) (hs : starEach [e, e2] X.env = (false, eval e X.env) :: starEach [e2] X.env := by rfl) (hs2 : starEach [e2] X.env = (false, eval e2 X.env) :: starEach [] X.env := by rfl)
    (hpl : (backTo pos (starEach [e2] X.env)).any (·.1) = false := by rfl) : PI X (.Tuple elts kk tpos) (.Call (.Name "zip" p) [e, e2] [] pos) (iD c (xZ f f2)) :=
  (pi_zip hg hm (pa_cons h (pa_cons h2 pa_nil hs2) hs) hs hpl).imp fun σ H R ⟨H0, F, δ, g, ds, g', w, o, q⟩ => by
    obtain ⟨x, g1, o1, o⟩ := ok_bind.mp o
    obtain ⟨y, g2, o2, o⟩ := ok_bind.mp o
    split at o
    · obtain ⟨rfl, rfl⟩ := ok_pure.mp o
      refine ⟨H0, F, δ, g, _, g1, w, o1, fun v F1 H1 s1 r1 => ⟨H0, F1, δ, g1, _, g2, w.step s1, o2, fun u F2 H2 s2 r2 => ?_⟩⟩
      cases r1 with
      | @lst _ a vs _ ea ra =>
        cases r2 with
        | @lst _ b us _ eb rb => exact ⟨a, b, vs, us, rfl, SqL.of (s2.le _ _ (s2.sub _ _ ea)), SqL.of (s2.le _ _ eb), q _ F2 H2 (s1.trans s2) (walk_zip2 (s2.sub _ _ ea) eb (ra.up s2.sub) rb)⟩
    · exact absurd o not_ok_stuck
/-- for x in reversed(xs) -/
theorem di_revd (hm : X.mg "reversed" = none) (h : PE X e (tP c f)) (hg : Gl X "reversed" := by rfl) (hs : starEach [e] X.env = [(false, eval e X.env)] := by rfl) : PI X tg (.Call (.Name "reversed" p) [e] [] pos) (iD c (xV f)) :=
  (pi_reversed hg hm (pa_cons h pa_nil (by rw [hs]; rfl)) hs).imp fun σ H R ⟨H0, F, δ, g, ds, g', w, o, q⟩ => by
    obtain ⟨x, g1, o1, o⟩ := ok_bind.mp o
    split at o
    · rename_i zs
      obtain ⟨rfl, rfl⟩ := ok_pure.mp o
      refine ⟨H0, F, δ, g, _, g1, w, o1, fun v F1 H1 s1 r1 => ?_⟩
      cases r1 with
      | @lst _ a vs _ ea ra =>
        have at' : ∀ F2 H2, Same F1 F2 → Same F2 H2 → H2 a = some (.lst vs) := fun F2 H2 t1 t2 => t2 _ _ (t1 _ _ ea)
        have hl := ra.length
        refine ⟨a, vs, rfl, SqL.of (s1.le _ _ ea), q _ F1 H1 s1 ⟨fun _ z => (nomatch z), fun i F2 H2 hi t1 t2 _ _ => ?_, fun F2 H2 t1 t2 _ _ => ?_, fun i F2 H2 g x H3 hi t1 t2 _ gen hy => ?_⟩⟩
        · rw [List.length_reverse] at hi
          obtain ⟨v, hv, _⟩ := ra.get (List.getElem?_eq_getElem (show zs.length - 1 - i < zs.length by omega))
          exact ⟨by omega, vs, v, SqL.of (at' F2 H2 t1 t2), by rw [hl]; exact hv⟩
        · show vs.length ≤ _
          rw [List.length_reverse, hl]
          exact Nat.le_refl _
        · obtain ⟨rfl, hx⟩ := hy
          obtain ⟨d, hd, rd⟩ := ra.getV (hx vs (SqL.of (at' F2 _ t1 t2)))
          refine ⟨F2, d, ?_, .refl t2 gen, rd.up t1⟩
          rw [List.length_reverse] at hi
          rw [List.getElem?_reverse hi, ← hl]
          exact hd
    · exact absurd o not_ok_stuck
end
end DL

/-! ## DComp -/
set_option Elab.async false
set_option autoImplicit false
set_option linter.all false
set_option maxRecDepth 100000
set_option maxHeartbeats 4000000
/-! DComp: list comprehensions, by plain data. -/
namespace DL
open PySem PySem.Spec PyProof.Rows L2

/-- as Stp, but for the list at L that is being filled -/
structure StpX (c : C) (L : Addr) (F H F' H' : Hp) (g : Gs) : Prop where
  sub : Same F F'
  ext : ∀ a o, a ≠ L → c.ga ≠ some a → H a = some o → H' a = some o
  new : ∀ a, F' a ≠ none → F a = none → H a = none
  le : Same F' H'
  gen : GenOk c F' H' g
  fd : F' L = none
  bl : c.bo L = none
section
variable {c : C} {L : Addr} {F H F1 H1 F2 H2 : Hp} {g g1 g2 : Gs}
theorem StpX.refl (le : Same F H) (gen : GenOk c F H g) (h : F L = none) (hb : c.bo L = none) : StpX c L F H F H g := ⟨Same.refl F, fun _ _ _ _ e => e, fun _ h1 h2 => absurd h2 h1, le, gen, h, hb⟩
theorem StpX.andThen (x : StpX c L F H F1 H1 g1) (y : Stp c F1 H1 F2 H2 g2) (hL : H1 L ≠ none) : StpX c L F H F2 H2 g2 := by
  refine ⟨x.sub.trans y.sub, fun a o n1 n2 e => y.ext a o n2 (x.ext a o n1 n2 e), fun a h1 h2 => ?_, y.le, y.gen, ?_, x.bl⟩
  · by_cases h : F1 a = none
    · have q := y.new a h1 h
      cases e : H a with
      | none => rfl
      | some o =>
        by_cases n : c.ga = some a
        · exact absurd (y.gen.gen a n).1 h1
        · by_cases m : a = L
          · subst m; exact absurd q hL
          · rw [x.ext a o m n e] at q; cases q
    · exact x.new a h h2
  · by_cases h : F2 L = none
    · exact h
    · exact absurd (y.new L h x.fd) hL
theorem StpX.put {o : HO} (x : StpX c L F H F1 H1 g1) (n : c.ga ≠ some L) : StpX c L F H F1 (upd H1 L o) g1 := by
  refine ⟨x.sub, fun a u n1 n2 e => ?_, x.new, fun b u e => ?_, ⟨fun a e => ?_, fun b u e => by rw [upd_ne (ne_of_none e x.bl)]; exact x.gen.bo b u e, x.gen.nb⟩, x.fd, x.bl⟩
  · rw [upd_ne n1]; exact x.ext a u n1 n2 e
  · rw [upd_ne (ne_of_none e x.fd)]; exact x.le b u e
  · obtain ⟨q1, q2⟩ := x.gen.gen a e
    rw [upd_ne (fun z => n (by rw [← z]; exact e))]
    exact ⟨q1, q2⟩
theorem StpX.trans (x : StpX c L F H F1 H1 g1) (y : StpX c L F1 H1 F2 H2 g2) (hL : H L ≠ none) (hL1 : H1 L ≠ none) : StpX c L F H F2 H2 g2 := by
  refine ⟨x.sub.trans y.sub, fun a o n1 n2 e => y.ext a o n1 n2 (x.ext a o n1 n2 e), fun a h1 h2 => ?_, y.le, y.gen, y.fd, x.bl⟩
  by_cases h : F1 a = none
  · have q := y.new a h1 h
    cases e : H a with
    | none => rfl
    | some o =>
      by_cases n : c.ga = some a
      · exact absurd (y.gen.gen a n).1 h1
      · by_cases m : a = L
        · subst m; exact absurd q hL1
        · rw [x.ext a o m n e] at q; cases q
  · exact x.new a h h2
/-- the list is full, and relied on -/
theorem StpX.close {o o0 : HO} (x : StpX c L F (upd H L o0) F1 H1 g1) (hL : H L = none) (hn : c.ga ≠ some L) (e : H1 L = some o) : Stp c F H (upd F1 L o) H1 g1 := by
  refine ⟨fun b u eb => ?_, fun a u n eb => ?_, fun a h1 h2 => ?_, fun b u eb => ?_, ⟨fun a n => ?_, x.gen.bo, x.gen.nb⟩⟩
  · have q := x.sub b u eb
    rw [upd_ne (ne_of_none q x.fd)]; exact q
  · have ne : a ≠ L := ne_of_none eb hL
    exact x.ext a u ne n (by rw [upd_ne ne]; exact eb)
  · by_cases m : a = L
    · rw [m]; exact hL
    · rw [upd_ne m] at h1
      have q := x.new a h1 h2
      rw [upd_ne m] at q
      exact q
  · by_cases m : b = L
    · subst m; rw [upd_same] at eb; rw [← eb]; exact e
    · rw [upd_ne m] at eb; exact x.le b u eb
  · obtain ⟨q1, q2⟩ := x.gen.gen a n
    have m : a ≠ L := fun z => hn (by rw [← z]; exact n)
    rw [upd_ne m]
    exact ⟨q1, q2⟩
end
theorem Wd.stepX {c : C} {L : Addr} {H0 F H F' H' : Hp} {σ : L2.St} {δ : Dlt} {g g' : Gs} (w : Wd c H0 F H σ δ g) (nd : ∀ (i : Nat) (xs : List D), δ[i]? = some (Sl.own xs) → σ[i]? ≠ some (some (V.ref L))) (s : StpX c L F H F' H' g') : Wd c H0 F' H' σ δ g' := by
  refine ⟨s.le, s.gen, w.len, fun i d e => ?_, fun i xs e => ?_, w.apart, w.bo0⟩
  · obtain ⟨v, e1, r⟩ := w.val i d e
    exact ⟨v, e1, r.up s.sub⟩
  · obtain ⟨a, vs, e1, e2, e3, e4, e5, r⟩ := w.own i xs e
    have ne : a ≠ L := fun z => nd i xs e (by rw [e1, z])
    refine ⟨a, vs, e1, s.ext _ _ ne e5 e2, ?_, e4, e5, r.up s.sub⟩
    by_cases h : F' a = none
    · exact h
    · have q := s.new a h e3
      rw [e2] at q; cases q
theorem wipeD_len (δ : Dlt) : ∀ vs : List Nat, (wipeD δ vs).length = δ.length
  | [] => rfl
  | v :: vs => by unfold wipeD; rw [List.length_set, wipeD_len δ vs]
theorem wipe_own {σ : L2.St} {δ : Dlt} {i : Nat} {xs : List D} (hl : δ.length = σ.length) : ∀ {vs : List Nat}, (wipeD δ vs)[i]? = some (Sl.own xs) → δ[i]? = some (Sl.own xs) ∧ (wipe σ vs)[i]? = σ[i]?
  | [], h => ⟨h, rfl⟩
  | v :: vs, h => by
    unfold wipeD at h
    by_cases hi : v = i
    · subst hi
      by_cases hv : v < (wipeD δ vs).length
      · rw [List.getElem?_set_self hv] at h; cases h
      · rw [List.getElem?_eq_none (by simpa using hv)] at h; cases h
    · rw [List.getElem?_set_ne hi] at h
      obtain ⟨h1, h2⟩ := wipe_own hl h
      refine ⟨h1, ?_⟩
      unfold wipe
      rw [List.getElem?_set_ne hi]
      exact h2

section
variable {c : C}
/-- one list comprehension's loop: it fills the list at L -/
theorem lc_loop {J : It} {bs : List Addr} {F1 H1 : Hp} {ds : List D} {gd : G} {is : List Nat} {ft fe : E} {vs : List Nat} {H0 : Hp} {σ : L2.St} {δ : Dlt} {g1 g2 : Gs} {L : Addr} {us0 : List V} {ys0 ys : List D} {Nx : Hp → Prop}
    (his : ∀ i ∈ is, i ∈ vs) (wk : WalkD c J bs F1 H1 ds) (hbL : ∀ b ∈ bs, b ≠ L) (w : Wd c H0 F1 H1 σ δ g1) (nd : ∀ (i : Nat) (xs : List D), δ[i]? = some (Sl.own xs) → σ[i]? ≠ some (some (V.ref L))) (nga : c.ga ≠ some L)
    (hL : H1 L = some (.lst us0)) (hF : F1 L = none) (hbo : c.bo L = none) (r0 : RepAll c F1 us0 ys0) (hz : ys0.length + ys.length ≤ sizeLine) (ok : Ok (lcGo gd ft fe (wipeD δ vs) ds) g1 ys g2)
    (fin : ∀ F' H' us, StpX c L F1 H1 F' H' g2 → H' L = some (.lst us) → RepAll c F' us (ys0 ++ ys) → Nx H') :
    ∃ W : Nat → Nat → Hp → Prop, (∃ m, W 0 m H1) ∧ ∀ i m H, W i m H →
      (J.stop i H ∧ Nx H) ∨ (J.go i H ∧ ∃ N1 : Hp → Prop, (∀ H', N1 H' → ∃ m', m' < m ∧ W (i + 1) m' H') ∧ ∀ x H', J.yld i H x H' → gD c gd is x (wipe σ vs) H' fun σ2 H2 => wipe σ2 vs = wipe σ vs ∧ tT c ft σ2 H2 fun b H3 =>
        if b = true then tP c fe σ2 H3 fun y H4 => ∃ acc, H4 L = some (.lst acc) ∧ acc.length < sizeLine ∧ N1 (upd H4 L (.lst (acc ++ [y]))) else N1 H3) := by
  let Pv : Nat → Hp → Prop := fun i H' => ∃ F' g' us ys1 ys2, StpX c L F1 H1 F' H' g' ∧ H' L = some (.lst us) ∧ RepAll c F' us (ys0 ++ ys1) ∧ Ok (lcGo gd ft fe (wipeD δ vs) (ds.drop i)) g' ys2 g2 ∧ ys = ys1 ++ ys2
  refine ⟨fun i m H => m = ds.length - i ∧ i ≤ ds.length ∧ Pv i H, ⟨ds.length, by simp, Nat.zero_le _, F1, g1, us0, [], ys, .refl w.le w.gen hF hbo, hL, by simpa using r0, ok, rfl⟩, ?_⟩
  rintro i m H ⟨rfl, hi, F', g', us, ys1, ys2, sx, eL, ra, ok', rfl⟩
  have keepb : ∀ b ∈ bs, H b = H1 b := fun b hb => by
    obtain ⟨k1, k2⟩ := wk.bk b hb
    cases e : H1 b with
    | none => exact absurd e k1
    | some o => exact sx.ext b o (hbL b hb) k2 e
  by_cases hlt : i < ds.length
  · refine .inr ⟨wk.goes i F' H hlt sx.sub sx.le keepb sx.gen.bo, Pv (i + 1), fun H' p' => ⟨ds.length - (i + 1), by omega, rfl, hlt, p'⟩, fun x H' hy => ?_⟩
    obtain ⟨F2, d, hd, st, rx⟩ := wk.yields i F' H g' x H' hlt sx.sub sx.le keepb sx.gen hy
    rw [List.drop_eq_getElem_cons hlt] at ok'
    rw [List.getElem?_eq_getElem hlt] at hd
    cases hd
    unfold lcGo at ok'
    obtain ⟨δ', g'', ok1, ok2⟩ := ok_bind.mp ok'
    have hgd : gd ds[i] (wipeD δ vs) = some δ' ∧ g' = g'' := by
      unfold liftG at ok1
      split at ok1
      · rename_i e
        obtain ⟨rfl, rfl⟩ := ok_pure.mp ok1
        exact ⟨e, rfl⟩
      · exact absurd ok1 not_ok_stuck
    obtain ⟨hgd, rfl⟩ := hgd
    obtain ⟨b, g3, ok3, ok4⟩ := ok_bind.mp ok2
    have w2 : Wd c H0 F2 H' (wipe σ vs) (wipeD δ vs) g' := ((w.wipe vs).stepX (fun j xs hj => by
      obtain ⟨a1, a2⟩ := wipe_own w.len hj
      rw [a2]
      exact nd j xs a1) sx).step st
    have eL' : H' L = some (.lst us) := st.ext _ _ nga eL
    refine ⟨H0, F2, wipeD δ vs, g', ds[i], δ', w2, rx, hgd, fun σ' w3 k l => ⟨by rw [k vs his, wipe_wipe], ?_⟩⟩
    have sx2 : StpX c L F1 H1 F2 H' g' := sx.andThen st (by rw [eL]; simp)
    cases b with
    | bl b =>
      refine ⟨H0, F2, δ', g', b, g3, w3, ok3, fun F3 H3 s3 => ?_⟩
      have eL3 : H3 L = some (.lst us) := s3.ext _ _ nga eL'
      cases b with
      | true =>
        obtain ⟨y, g4, ok5, ok6⟩ := ok_bind.mp ok4
        obtain ⟨rest, g5, ok7, ok8⟩ := ok_bind.mp ok6
        obtain ⟨rfl, rfl⟩ := ok_pure.mp ok8
        refine iteT ⟨H0, F3, δ', g3, y, g4, w3.step s3, ok5, fun v F4 H4 s4 r4 => ?_⟩
        have eL4 : H4 L = some (.lst us) := s4.ext _ _ nga eL3
        have lus := ra.length
        simp only [List.length_append, List.length_cons] at hz lus
        refine ⟨us, eL4, by omega, F4, g4, us ++ [v], ys1 ++ [y], rest, ?_, upd_same, ?_, ok7, by simp⟩
        · exact ((sx2.andThen s3 (by rw [eL']; simp)).andThen s4 (by rw [eL3]; simp)).put nga
        · rw [← List.append_assoc]
          exact (((ra.up st.sub).up s3.sub).up s4.sub).append (.cons r4 .nil)
      | false =>
        refine iteF ?_
        exact ⟨F3, g3, us, ys1, ys2, sx2.andThen s3 (by rw [eL']; simp), eL3, (ra.up st.sub).up s3.sub, ok4, rfl⟩
    | _ => exact absurd ok4 not_ok_stuck
  · have e : i = ds.length := by omega
    subst e
    rw [List.drop_length] at ok'
    obtain ⟨rfl, rfl⟩ := ok_pure.mp ok'
    refine .inl ⟨wk.stops F' H sx.sub sx.le keepb sx.gen.bo, fin F' H us sx eL ?_⟩
    simpa using ra
theorem lc_imp {src : Es} {gd : G} {is : List Nat} {ft fe : E} {vs : List Nat} (his : ∀ i ∈ is, i ∈ vs) : ∀ σ H Q, tP c (eLc vs gd src ft fe) σ H Q → tLc (iB c src) (gD c gd is) (tT c ft) (tP c fe) vs σ H Q := fun σ H Q ⟨H0, F, δ, g, d, g', w, o, q⟩ => by
  obtain ⟨ds, g1, o1, o⟩ := ok_bind.mp o
  obtain ⟨ys, g2, o2, o⟩ := ok_bind.mp o
  split at o
  · rename_i hl
    obtain ⟨rfl, rfl⟩ := ok_pure.mp o
    refine ⟨H0, F, δ, g, ds, g1, w, o1, fun J bs F1 H1 s1 wk L hL => ?_⟩
    have nga : c.ga ≠ some L := fun e => by
      obtain ⟨_, q2⟩ := s1.gen.gen L e
      rw [hL] at q2; cases q2
    have hbo : c.bo L = none := by
      cases e : c.bo L with
      | none => rfl
      | some u => rw [s1.gen.bo L u e] at hL; cases hL
    have st := Stp.tmp (o := .lst []) s1.le s1.gen hL
    have w1 := (w.step s1)
    have hbL : ∀ b ∈ bs, b ≠ L := fun b hb z => (wk.bk b hb).1 (by rw [z]; exact hL)
    have wk' : WalkD c J bs F1 (upd H1 L (.lst [])) ds := ⟨fun b hb => ⟨by rw [upd_ne (hbL b hb)]; exact (wk.bk b hb).1, (wk.bk b hb).2⟩, fun i F2 H2 hi t1 t2 t3 => wk.goes i F2 H2 hi t1 t2 (fun b hb => by rw [t3 b hb, upd_ne (hbL b hb)]),
      fun F2 H2 t1 t2 t3 => wk.stops F2 H2 t1 t2 (fun b hb => by rw [t3 b hb, upd_ne (hbL b hb)]), fun i F2 H2 g x H3 hi t1 t2 t3 => wk.yields i F2 H2 g x H3 hi t1 t2 fun b hb => by rw [t3 b hb, upd_ne (hbL b hb)]⟩
    have fL : F1 L = none := by
      cases e : F1 L with
      | none => rfl
      | some u => rw [s1.le L u e] at hL; cases hL
    refine lc_loop his wk' hbL (w1.step st) (fun i xs e => ?_) nga upd_same fL hbo .nil (by simpa using lim_le hl) o2 fun F' H' us sx eL ra => ?_
    · obtain ⟨a, _, e1, e2, _⟩ := w1.own i xs e
      rw [e1]
      intro z
      cases z
      rw [hL] at e2; cases e2
    · have fin := sx.close hL nga eL
      exact q _ _ _ (s1.trans fin) (.lst upd_same (ra.up fun b u e => by rw [upd_ne (ne_of_none e sx.fd)]; exact e))
  · exact absurd o not_ok_stuck
theorem lc2_imp {src src1 : Es} {gd gd1 : G} {is is1 : List Nat} {ft ft1 fe : E} {vs vs1 : List Nat} (his : ∀ i ∈ is, i ∈ vs) (his1 : ∀ i ∈ is1, i ∈ vs1) :
    ∀ σ H Q, tP c (eLc2 vs vs1 gd src ft gd1 src1 ft1 fe) σ H Q → tLc2 (iB c src) (gD c gd is) (tT c ft) (iD c src1) (gD c gd1 is1) (tT c ft1) (tP c fe) vs vs1 σ H Q := fun σ H Q ⟨H0, F, δ, g, d, g', w, o, q⟩ => by
  obtain ⟨ds, g1, o1, o⟩ := ok_bind.mp o
  obtain ⟨ys, g2, o2, o⟩ := ok_bind.mp o
  split at o
  · rename_i hl
    obtain ⟨rfl, rfl⟩ := ok_pure.mp o
    refine ⟨H0, F, δ, g, ds, g1, w, o1, fun J bs F1 H1 s1 wk L hL => ?_⟩
    have nga : c.ga ≠ some L := fun e => by
      obtain ⟨_, q2⟩ := s1.gen.gen L e
      rw [hL] at q2; cases q2
    have hbo : c.bo L = none := by
      cases e : c.bo L with
      | none => rfl
      | some u => rw [s1.gen.bo L u e] at hL; cases hL
    have st0 := Stp.tmp (o := .lst []) s1.le s1.gen hL
    have w1 := (w.step s1)
    have hbL : ∀ b ∈ bs, b ≠ L := fun b hb z => (wk.bk b hb).1 (by rw [z]; exact hL)
    have fL : F1 L = none := by
      cases e : F1 L with
      | none => rfl
      | some u => rw [s1.le L u e] at hL; cases hL
    have nd : ∀ (i : Nat) (xs : List D), δ[i]? = some (Sl.own xs) → σ[i]? ≠ some (some (V.ref L)) := fun i xs e => by
      obtain ⟨a, _, e1, e2, _⟩ := w1.own i xs e
      rw [e1]
      intro z
      cases z
      rw [hL] at e2; cases e2
    let Pv : Nat → Hp → Prop := fun i H' => ∃ F' g' us ys1 ys2, StpX c L F1 (upd H1 L (.lst [])) F' H' g' ∧ H' L = some (.lst us) ∧ RepAll c F' us ys1 ∧
      Ok (lc2Go gd ft (fun δ' => src1 δ' >>= fun zs => lcGo gd1 ft1 fe (wipeD δ' vs1) zs) (wipeD δ vs) (ds.drop i)) g' ys2 g2 ∧ ys = ys1 ++ ys2
    refine ⟨fun i m H => m = ds.length - i ∧ i ≤ ds.length ∧ Pv i H, ⟨ds.length, by simp, Nat.zero_le _, F1, g1, [], [], ys, .refl st0.le st0.gen fL hbo, upd_same, .nil, o2, rfl⟩, ?_⟩
    rintro i m H ⟨rfl, hi, F', g', us, ys1, ys2, sx, eL, ra, ok', rfl⟩
    have keepb : ∀ b ∈ bs, H b = H1 b := fun b hb => by
      obtain ⟨k1, k2⟩ := wk.bk b hb
      cases e : H1 b with
      | none => exact absurd e k1
      | some o => exact sx.ext b o (hbL b hb) k2 (by rw [upd_ne (hbL b hb)]; exact e)
    by_cases hlt : i < ds.length
    · refine .inr ⟨wk.goes i F' H hlt sx.sub sx.le keepb sx.gen.bo, Pv (i + 1), fun H' p' => ⟨ds.length - (i + 1), by omega, rfl, hlt, p'⟩, fun x H' hy => ?_⟩
      obtain ⟨F2, d, hd, st, rx⟩ := wk.yields i F' H g' x H' hlt sx.sub sx.le keepb sx.gen hy
      rw [List.drop_eq_getElem_cons hlt] at ok'
      rw [List.getElem?_eq_getElem hlt] at hd
      cases hd
      unfold lc2Go at ok'
      obtain ⟨δ', g'', ok1, ok2⟩ := ok_bind.mp ok'
      have hgd : gd ds[i] (wipeD δ vs) = some δ' ∧ g' = g'' := by
        unfold liftG at ok1
        split at ok1
        · rename_i e
          obtain ⟨rfl, rfl⟩ := ok_pure.mp ok1
          exact ⟨e, rfl⟩
        · exact absurd ok1 not_ok_stuck
      obtain ⟨hgd, rfl⟩ := hgd
      obtain ⟨b, g3, ok3, ok4⟩ := ok_bind.mp ok2
      have w2 : Wd c H0 F2 H' (wipe σ vs) (wipeD δ vs) g' := (((w1.step st0).wipe vs).stepX (fun j xs hj => by
        obtain ⟨a1, a2⟩ := wipe_own w.len hj
        rw [a2]
        exact nd j xs a1) sx).step st
      have eL' : H' L = some (.lst us) := st.ext _ _ nga eL
      refine ⟨H0, F2, wipeD δ vs, g', ds[i], δ', w2, rx, hgd, fun σ' w3 k l => ⟨by rw [k vs his, wipe_wipe], ?_⟩⟩
      have sx2 : StpX c L F1 (upd H1 L (.lst [])) F2 H' g' := sx.andThen st (by rw [eL]; simp)
      have nd3 : ∀ (j : Nat) (xs : List D), δ'[j]? = some (Sl.own xs) → σ'[j]? ≠ some (some (V.ref L)) := fun j xs hj => by
        obtain ⟨a1, a2⟩ := l j xs hj
        rw [a2]
        obtain ⟨b1, b2⟩ := wipe_own w.len a1
        rw [b2]
        exact nd j xs b1
      cases b with
      | bl b =>
        refine ⟨H0, F2, δ', g', b, g3, w3, ok3, fun F3 H3 s3 => ?_⟩
        have eL3 : H3 L = some (.lst us) := s3.ext _ _ nga eL'
        cases b with
        | true =>
          obtain ⟨zs, g4, ok5, ok6⟩ := ok_bind.mp ok4
          obtain ⟨rest, g5, ok7, ok8⟩ := ok_bind.mp ok6
          obtain ⟨rfl, rfl⟩ := ok_pure.mp ok8
          obtain ⟨es, g6, ok9, ok10⟩ := ok_bind.mp ok5
          refine iteT ⟨H0, F3, δ', g3, es, g6, w3.step s3, ok9, fun J1 F4 H4 s4 wk1 => ?_⟩
          have eL4 : H4 L = some (.lst us) := s4.ext _ _ nga eL3
          have lus := ra.length
          have hz := lim_le hl
          simp only [List.length_append] at hz
          have sx4 : StpX c L F1 (upd H1 L (.lst [])) F4 H4 g6 := (sx2.andThen s3 (by rw [eL']; simp)).andThen s4 (by rw [eL3]; simp)
          refine lc_loop his1 wk1 (fun _ z => nomatch z) ((w3.step s3).step s4) nd3 nga eL4 sx4.fd hbo (((ra.up st.sub).up s3.sub).up s4.sub) (by omega) ok10 fun F5 H5 us5 sx5 eL5 ra5 => ?_
          exact ⟨F5, g4, us5, ys1 ++ zs, rest, sx4.trans sx5 (by rw [upd_same]; simp) (by rw [eL4]; simp), eL5, ra5, ok7, by simp⟩
        | false =>
          refine iteF ?_
          exact ⟨F3, g3, us, ys1, ys2, sx2.andThen s3 (by rw [eL']; simp), eL3, (ra.up st.sub).up s3.sub, ok4, rfl⟩
      | _ => exact absurd ok4 not_ok_stuck
    · have e : i = ds.length := by omega
      subst e
      rw [List.drop_length] at ok'
      obtain ⟨rfl, rfl⟩ := ok_pure.mp ok'
      refine .inl ⟨wk.stops F' H sx.sub sx.le keepb sx.gen.bo, ?_⟩
      have fin := sx.close hL nga eL
      rw [List.append_nil] at q
      exact q _ _ _ (s1.trans fin) (.lst upd_same (ra.up fun b u e => by rw [upd_ne (ne_of_none e sx.fd)]; exact e))
  · exact absurd o not_ok_stuck
section
variable {X : Cx} {elt tg iter tg1 iter1 : Expr} {ifs ifs1 : List Expr} {scope : Scope} {own : List (Str × Nat)} {vs1 : List Nat} {pos : Pos} {src src1 : Es} {gd gd1 : G} {is is1 : List Nat} {ft ft1 fe : E}
theorem _root_.L2.PTs.imp {X : Cx} {e : List Expr} {t t' : TT} (h : PTs X e t) (i : ∀ σ H Q, t' σ H Q → t σ H Q) : PTs X e t' := ⟨fun pins s σ H Q I q => h.run pins s σ H Q I (i σ H Q q)⟩
theorem dts_nil : PTs X [] (tT c (eK (.bl true))) := pts_nil.imp fun σ H Q ⟨H0, F, δ, g, b, g', w, o, q⟩ => by
  obtain ⟨e, rfl⟩ := ok_pure.mp o
  cases e
  exact q F H (.refl w.le w.gen)
theorem dts_one {e : Expr} {f : E} (h : PT X e (tT c f)) : PTs X [e] (tT c f) := pts_one h
/-- [elt for tg in iter if ..] -/
theorem d_lc (hc : X.calm = true) (hN : X.N.Nodup) (ok : BlkOk X.N X.env.scope scope own) (hi : PI X tg iter (iB c src)) (hg : ∀ (s : Shared) (H : Hp) (C : Addr) (cl : List (Str × Addr)) (fp : List Addr), PG (X.blk s H scope (compEnvC scope cl C X.env) fp) tg (gD c gd is))
    (ht : ∀ (s : Shared) (H : Hp) (C : Addr) (cl : List (Str × Addr)) (fp : List Addr), PTs (X.blk s H scope (compEnvC scope cl C X.env) fp) ifs (tT c ft)) (he : ∀ (s : Shared) (H : Hp) (C : Addr) (cl : List (Str × Addr)) (fp : List Addr), PE (X.blk s H scope (compEnvC scope cl C X.env) fp) elt (tP c fe))
    (his : ∀ i ∈ is, i ∈ own.map (·.2) := by decide) (hs : ∀ x, foldedSetIterable iter X.env x = pure x := by intro _; rfl) : PE X (.ListComp elt [⟨tg, iter, ifs, 0⟩] scope pos) (tP c (eLc (own.map (·.2)) gd src ft fe)) :=
  (pe_lc hc hN hi ok hg ht he hs).imp (lc_imp his)
/-- [elt for tg in iter if .. for tg1 in iter1 if ..] -/
theorem d_lc2 (vs1 : List Nat) (hc : X.calm = true) (hN : X.N.Nodup) (ok : BlkOk X.N X.env.scope scope own) (hi : PI X tg iter (iB c src)) (hg : ∀ (s : Shared) (H : Hp) (C : Addr) (cl : List (Str × Addr)) (fp : List Addr), PG (X.blk s H scope (compEnvC scope cl C X.env) fp) tg (gD c gd is))
    (ht : ∀ (s : Shared) (H : Hp) (C : Addr) (cl : List (Str × Addr)) (fp : List Addr), PTs (X.blk s H scope (compEnvC scope cl C X.env) fp) ifs (tT c ft))
    (hi1 : ∀ (s : Shared) (H : Hp) (C : Addr) (cl : List (Str × Addr)) (fp : List Addr), PI (X.blk s H scope (compEnvC scope cl C X.env) fp) tg1 iter1 (iD c src1))
    (hg1 : ∀ (s : Shared) (H : Hp) (C : Addr) (cl : List (Str × Addr)) (fp : List Addr), PG (X.blk s H scope (compEnvC scope cl C X.env) fp) tg1 (gD c gd1 is1)) (ht1 : ∀ (s : Shared) (H : Hp) (C : Addr) (cl : List (Str × Addr)) (fp : List Addr), PTs (X.blk s H scope (compEnvC scope cl C X.env) fp) ifs1 (tT c ft1))
    (he : ∀ (s : Shared) (H : Hp) (C : Addr) (cl : List (Str × Addr)) (fp : List Addr), PE (X.blk s H scope (compEnvC scope cl C X.env) fp) elt (tP c fe))
    (his : ∀ i ∈ is, i ∈ own.map (·.2) := by decide) (his1 : ∀ i ∈ is1, i ∈ vs1 := by decide) (hv : ∀ i ∈ vs1, i ∈ own.map (·.2) := by decide) (hs : ∀ x, foldedSetIterable iter X.env x = pure x := by intro _; rfl) (hs1 : ∀ env x, foldedSetIterable iter1 env x = pure x := by intro _ _; rfl) :
    PE X (.ListComp elt [⟨tg, iter, ifs, 0⟩, ⟨tg1, iter1, ifs1, 0⟩] scope pos) (tP c (eLc2 (own.map (·.2)) vs1 gd src ft gd1 src1 ft1 fe)) :=
  (pe_lc2 hc hN hi ok hv hg ht hi1 hg1 ht1 he hs hs1).imp (lc2_imp his his1)
end
end
end DL

/-! ## DStm -/
set_option Elab.async false
set_option autoImplicit false
set_option linter.all false
set_option maxRecDepth 100000
set_option maxHeartbeats 4000000
/-! DStm: statements, loops, defs and their calls, by plain data. -/
namespace DL
open PySem PySem.Spec PyProof.Rows L2

/-- behind a statement: F0, H0 at the def's entry -/
def tS (c : C) (s : S) : TS := fun D σ H => ∃ F0 H0 F δ g r g', Wd c H0 F H σ δ g ∧ Stp c F0 H0 F H g ∧ Ok (s δ) g r g' ∧ match r with
  | .nx δ' => ∀ σ' F' H', Wd c H0 F' H' σ' δ' g' → Stp c F0 H0 F' H' g' → Same F F' → D.nx σ' H'
  | .rt d => ∀ v F' H', Stp c F0 H0 F' H' g' → Rep c F' v d → D.rt v H'
  | .bk δ' => ∀ σ' F' H', Wd c H0 F' H' σ' δ' g' → Stp c F0 H0 F' H' g' → Same F F' → D.bk σ' H'
  | .ct δ' => ∀ σ' F' H', Wd c H0 F' H' σ' δ' g' → Stp c F0 H0 F' H' g' → Same F F' → D.ct σ' H'
section
variable {X : Cx} {c : C} {a b e : Expr} {st : Stmt} {sts : List Stmt} {s t : S} {f fa fb : E} {pos : Pos}
theorem ds_nil : PSs X [] (tS c sSkip) := pss_nil.imp fun D σ H ⟨F0, H0, F, δ, g, r, g', w, sp, o, q⟩ => by
  obtain ⟨rfl, rfl⟩ := ok_pure.mp o
  exact q σ F H w sp (.refl F)
theorem ds_skip : PS X (.Pass pos) (tS c sSkip) := ps_pass.imp fun D σ H ⟨F0, H0, F, δ, g, r, g', w, sp, o, q⟩ => by
  obtain ⟨rfl, rfl⟩ := ok_pure.mp o
  exact q σ F H w sp (.refl F)
theorem ds_break : PS X (.Break pos) (tS c sBreak) := ps_break.imp fun D σ H ⟨F0, H0, F, δ, g, r, g', w, sp, o, q⟩ => by
  obtain ⟨rfl, rfl⟩ := ok_pure.mp o
  exact q σ F H w sp (.refl F)
theorem ds_cont : PS X (.Continue pos) (tS c sCont) := ps_continue.imp fun D σ H ⟨F0, H0, F, δ, g, r, g', w, sp, o, q⟩ => by
  obtain ⟨rfl, rfl⟩ := ok_pure.mp o
  exact q σ F H w sp (.refl F)
/-- never reached -/
theorem ds_no : PS X st (tS c fun _ => stuck) := ps_never.imp fun D σ H ⟨F0, H0, F, δ, g, r, g', w, sp, o, q⟩ => absurd o not_ok_stuck
theorem dss_no : PSs X sts (tS c fun _ => stuck) := pss_never.imp fun D σ H ⟨F0, H0, F, δ, g, r, g', w, sp, o, q⟩ => absurd o not_ok_stuck
theorem ds_one (h : PS X st (tS c s)) : PSs X [st] (tS c s) := pss_one h
theorem seq_imp : ∀ D σ H, tS c (sSeq s t) D σ H → tSeq (tS c s) (tS c t) D σ H := fun D σ H ⟨F0, H0, F, δ, g, r, g', w, sp, o, q⟩ => by
  obtain ⟨r1, g1, o1, o2⟩ := ok_bind.mp o
  refine ⟨F0, H0, F, δ, g, r1, g1, w, sp, o1, ?_⟩
  cases r1 with
  | nx δ1 =>
    intro σ1 F1 H1 w1 sp1 sm1
    refine ⟨F0, H0, F1, δ1, g1, r, g', w1, sp1, o2, ?_⟩
    cases r with
    | nx δ' => exact fun σ' F' H' w' sp' sm' => q σ' F' H' w' sp' (sm1.trans sm')
    | rt d => exact q
    | bk δ' => exact fun σ' F' H' w' sp' sm' => q σ' F' H' w' sp' (sm1.trans sm')
    | ct δ' => exact fun σ' F' H' w' sp' sm' => q σ' F' H' w' sp' (sm1.trans sm')
  | rt d =>
    obtain ⟨rfl, rfl⟩ := ok_pure.mp o2
    exact q
  | bk δ1 =>
    obtain ⟨rfl, rfl⟩ := ok_pure.mp o2
    exact q
  | ct δ1 =>
    obtain ⟨rfl, rfl⟩ := ok_pure.mp o2
    exact q
theorem ds_cons (h1 : PS X st (tS c s)) (h2 : PSs X sts (tS c t)) : PSs X (st :: sts) (tS c (sSeq s t)) := (pss_cons h1 h2).imp seq_imp
/-- x, (x, y) = e -/
theorem asg_imp {gd : G} {is : List Nat} : ∀ D σ H, tS c (sAsg gd f) D σ H → tAsg (tP c f) (gD c gd is) D σ H := fun D σ H ⟨F0, H0, F, δ, g, r, g', w, sp, o, q⟩ => by
  obtain ⟨d, g1, o1, o⟩ := ok_bind.mp o
  obtain ⟨δ1, g2, o2, o⟩ := ok_bind.mp o
  obtain ⟨rfl, rfl⟩ := ok_pure.mp o
  have hgd : gd d δ = some δ1 ∧ g1 = g2 := by
    unfold liftG at o2
    split at o2
    · rename_i e
      obtain ⟨rfl, rfl⟩ := ok_pure.mp o2
      exact ⟨e, rfl⟩
    · exact absurd o2 not_ok_stuck
  obtain ⟨hgd, rfl⟩ := hgd
  exact ⟨H0, F, δ, g, d, g1, w, o1, fun v F1 H1 s1 r1 => ⟨H0, F1, δ, g1, d, δ1, w.step s1, r1, hgd, fun σ' w' _ _ => q σ' F1 H1 w' (sp.trans s1) s1.sub⟩⟩
theorem ds_asg {tg : Expr} {gd : G} {is : List Nat} (he : PE X e (tP c f)) (hg : PG X tg (gD c gd is)) (hs : swapsWithSole [tg] e pos.line X.env = pure false := by rfl) (hw : swappedStores [tg] e X.env = pure none := by rfl) (h1 : (assignEach [tg] X.env).map (·.2) = [assign tg X.env] := by rfl) : PS X (.Assign [tg] e pos) (tS c (sAsg gd f)) := (ps_asg he hg hs hw h1).imp asg_imp
/-- x = [..] that is a comprehension -/
theorem name_imp {te : TE} {i : Nat} (h : ∀ σ H Q, tP c f σ H Q → te σ H Q) : ∀ D σ H, tS c (sAsg (gN i) f) D σ H → tAsg te (gName i) D σ H := fun D σ H q => by
  obtain ⟨H0, F, δ, g, d, g', w, o, k⟩ := asg_imp (is := [i]) D σ H q
  refine h σ H _ ⟨H0, F, δ, g, d, g', w, o, fun v F' H' s r => ?_⟩
  obtain ⟨H1, F1, δ1, g1, d1, δ', w1, r1, o1, k1⟩ := k v F' H' s r
  cases o1
  refine k1 _ (w1.set r1) (fun vs hv => wipe_set (hv i (List.mem_singleton.mpr rfl))) fun j xs hj => ?_
  by_cases e : i = j
  · subst e
    by_cases hl : i < δ1.length
    · rw [List.getElem?_set_self hl] at hj; cases hj
    · rw [List.getElem?_eq_none (by simpa using hl)] at hj; cases hj
  · rw [List.getElem?_set_ne e] at hj ⊢
    exact ⟨hj, rfl⟩
section
variable {elt tg iter tg1 iter1 : Expr} {ifs ifs1 : List Expr} {scope : Scope} {own : List (Str × Nat)} {spos : Pos} {src src1 : Es} {gd gd1 : G} {is is1 : List Nat} {ft ft1 fe : E} {i : Nat} {y : Str} {py : Pos}
theorem ds_lc (hc : X.calm = true) (hN : X.N.Nodup) (hy : X.N[i]? = some y) (hyl : X.env.scope.names.lookup y = some .local) (hsw : swapsWith (.ListComp elt [⟨tg, iter, ifs, 0⟩] scope pos) (some (.Name y py)) spos.line X.env = pure true)
    (ok : BlkOk X.N X.env.scope scope own) (hi : PI X tg iter (iB c src)) (hg : ∀ (s : Shared) (H : Hp) (C : Addr) (cl : List (Str × Addr)) (fp : List Addr), PG (X.blk s H scope (compEnvC scope cl C X.env) fp) tg (gD c gd is))
    (ht : ∀ (s : Shared) (H : Hp) (C : Addr) (cl : List (Str × Addr)) (fp : List Addr), PTs (X.blk s H scope (compEnvC scope cl C X.env) fp) ifs (tT c ft)) (he : ∀ (s : Shared) (H : Hp) (C : Addr) (cl : List (Str × Addr)) (fp : List Addr), PE (X.blk s H scope (compEnvC scope cl C X.env) fp) elt (tP c fe))
    (his : ∀ i ∈ is, i ∈ own.map (·.2) := by decide) (hs : ∀ x, foldedSetIterable iter X.env x = pure x := by intro _; rfl) : PS X (.Assign [.Name y py] (.ListComp elt [⟨tg, iter, ifs, 0⟩] scope pos) spos) (tS c (sAsg (gN i) (eLc (own.map (·.2)) gd src ft fe))) :=
  (ps_setLc hc hN hy hyl hsw hi ok hg ht he hs).imp (name_imp (lc_imp his))
theorem ds_lc2 (vs1 : List Nat) (hc : X.calm = true) (hN : X.N.Nodup) (hy : X.N[i]? = some y) (hyl : X.env.scope.names.lookup y = some .local) (hsw : swapsWith (.ListComp elt [⟨tg, iter, ifs, 0⟩, ⟨tg1, iter1, ifs1, 0⟩] scope pos) (some (.Name y py)) spos.line X.env = pure true)
    (ok : BlkOk X.N X.env.scope scope own) (hi : PI X tg iter (iB c src)) (hg : ∀ (s : Shared) (H : Hp) (C : Addr) (cl : List (Str × Addr)) (fp : List Addr), PG (X.blk s H scope (compEnvC scope cl C X.env) fp) tg (gD c gd is))
    (ht : ∀ (s : Shared) (H : Hp) (C : Addr) (cl : List (Str × Addr)) (fp : List Addr), PTs (X.blk s H scope (compEnvC scope cl C X.env) fp) ifs (tT c ft))
    (hi1 : ∀ (s : Shared) (H : Hp) (C : Addr) (cl : List (Str × Addr)) (fp : List Addr), PI (X.blk s H scope (compEnvC scope cl C X.env) fp) tg1 iter1 (iD c src1))
    (hg1 : ∀ (s : Shared) (H : Hp) (C : Addr) (cl : List (Str × Addr)) (fp : List Addr), PG (X.blk s H scope (compEnvC scope cl C X.env) fp) tg1 (gD c gd1 is1)) (ht1 : ∀ (s : Shared) (H : Hp) (C : Addr) (cl : List (Str × Addr)) (fp : List Addr), PTs (X.blk s H scope (compEnvC scope cl C X.env) fp) ifs1 (tT c ft1))
    (he : ∀ (s : Shared) (H : Hp) (C : Addr) (cl : List (Str × Addr)) (fp : List Addr), PE (X.blk s H scope (compEnvC scope cl C X.env) fp) elt (tP c fe))
    (his : ∀ i ∈ is, i ∈ own.map (·.2) := by decide) (his1 : ∀ i ∈ is1, i ∈ vs1 := by decide) (hv : ∀ i ∈ vs1, i ∈ own.map (·.2) := by decide) (hs : ∀ x, foldedSetIterable iter X.env x = pure x := by intro _; rfl) (hs1 : ∀ env x, foldedSetIterable iter1 env x = pure x := by intro _ _; rfl) :
    PS X (.Assign [.Name y py] (.ListComp elt [⟨tg, iter, ifs, 0⟩, ⟨tg1, iter1, ifs1, 0⟩] scope pos) spos) (tS c (sAsg (gN i) (eLc2 (own.map (·.2)) vs1 gd src ft gd1 src1 ft1 fe))) :=
  (ps_setLc2 hc hN hy hyl hsw hi ok hv hg ht hi1 hg1 ht1 he hs hs1).imp (name_imp (lc2_imp his his1))
end
/-- x, y = a, b -/
theorem ds_par {i j : Nat} (hij : i ≠ j) (h : PS X st (tPar i j (tCons (tP c fa) (tCons (tP c fb) tNil)))) : PS X st (tS c (sPar i j fa fb)) := h.imp fun D σ H ⟨F0, H0, F, δ, g, r, g', w, sp, o, q⟩ => by
  obtain ⟨d, g1, o1, o⟩ := ok_bind.mp o
  obtain ⟨e, g2, o2, o⟩ := ok_bind.mp o
  obtain ⟨rfl, rfl⟩ := ok_pure.mp o
  exact ⟨H0, F, δ, g, d, g1, w, o1, fun v F1 H1 s1 r1 => ⟨H0, F1, δ, g1, e, g2, w.step s1, o2, fun u F2 H2 s2 r2 => ⟨v, u, rfl, q _ F2 H2 ((((w.step s1).step s2).set (r1.up s2.sub)).set r2) ((sp.trans s1).trans s2) (s1.sub.trans s2.sub)⟩⟩⟩
theorem ds_if {ca : Expr} {xs ys : List Stmt} {fc : E} (hc : PT X ca (tT c fc)) (ha : PSs X xs (tS c s)) (hb : PSs X ys (tS c t)) : PS X (.If ca xs ys pos) (tS c (sIf fc s t)) := (ps_if hc ha hb).imp fun D σ H ⟨F0, H0, F, δ, g, r, g', w, sp, o, q⟩ => by
  obtain ⟨x, g1, o1, o⟩ := ok_bind.mp o
  have fin : ∀ (u : S) F1 H1, Stp c F H F1 H1 g1 → Ok (u δ) g1 r g' → tS c u D σ H1 := fun u F1 H1 s1 ou => by
    refine ⟨F0, H0, F1, δ, g1, r, g', w.step s1, sp.trans s1, ou, ?_⟩
    cases r with
    | nx δ' => exact fun σ' F' H' w' sp' sm' => q σ' F' H' w' sp' (s1.sub.trans sm')
    | rt d => exact q
    | bk δ' => exact fun σ' F' H' w' sp' sm' => q σ' F' H' w' sp' (s1.sub.trans sm')
    | ct δ' => exact fun σ' F' H' w' sp' sm' => q σ' F' H' w' sp' (s1.sub.trans sm')
  split at o
  · exact ⟨H0, F, δ, g, true, g1, w, o1, fun F1 H1 s1 => iteT (fin s F1 H1 s1 o)⟩
  · exact ⟨H0, F, δ, g, false, g1, w, o1, fun F1 H1 s1 => iteF (fin t F1 H1 s1 o)⟩
  · exact absurd o not_ok_stuck
theorem ds_ret (he : PE X e (tP c f)) : PS X (.Return (some e) pos) (tS c (sRet f)) := (ps_ret he).imp fun D σ H ⟨F0, H0, F, δ, g, r, g', w, sp, o, q⟩ => by
  obtain ⟨d, g1, o1, o⟩ := ok_bind.mp o
  obtain ⟨rfl, rfl⟩ := ok_pure.mp o
  exact ⟨H0, F, δ, g, d, g1, w, o1, fun v F1 H1 s1 r1 => q v F1 H1 (sp.trans s1) r1⟩
theorem ds_retN : PS X (.Return none pos) (tS c sRetN) := ps_retN.imp fun D σ H ⟨F0, H0, F, δ, g, r, g', w, sp, o, q⟩ => by
  obtain ⟨rfl, rfl⟩ := ok_pure.mp o
  exact q .non F H sp .non
theorem ds_do (he : PE X e (tR c f)) (hs : swapsWith e none pos.line X.env = pure false := by rfl) : PS X (.Expr e pos) (tS c (sDo f)) := (ps_expr he hs).imp fun D σ H ⟨F0, H0, F, δ, g, r, g', w, sp, o, q⟩ => by
  obtain ⟨d, g1, o1, o⟩ := ok_bind.mp o
  obtain ⟨rfl, rfl⟩ := ok_pure.mp o
  exact ⟨H0, F, δ, g, d, g1, w, o1, fun v F1 H1 s1 r1 => q σ F1 H1 (w.step s1) (sp.trans s1) s1.sub⟩

/-! ### a list of one's own -/
/-- an expression that makes a new list: its value is not relied on yet -/
def tN (c : C) (f : E) : TE := fun σ H Q => ∃ H0 F δ g ds g', Wd c H0 F H σ δ g ∧ Ok (f δ) g (.lst ds) g' ∧ ∀ p vs F' H', Stp c F H F' H' g' → H' p = some (.lst vs) → F' p = none → H p = none → RepAll c F' vs ds → Q (.ref p) H'
theorem dn_lst {es : List Expr} {fs : Es} (h : PA X es (tAs c fs)) : PE X (.List es pos) (tN c (eLst fs)) := (pe_lst h).imp fun σ H Q ⟨H0, F, δ, g, d, g', w, o, q⟩ => by
  obtain ⟨xs, g1, o1, o⟩ := ok_bind.mp o
  split at o
  · rename_i hl
    obtain ⟨e, rfl⟩ := ok_pure.mp o
    cases e
    refine ⟨H0, F, δ, g, _, g1, w, o1, fun vs F1 H1 s1 r1 => ⟨by rw [r1.length]; exact lim_le hl, fun p hp => ?_⟩⟩
    have st := Stp.tmp (o := .lst vs) s1.le s1.gen hp
    have fp : F1 p = none := by
      cases e : F1 p with
      | none => rfl
      | some u => rw [s1.le p u e] at hp; cases hp
    have hp0 : H p = none := by
      cases e : H p with
      | none => rfl
      | some u =>
        by_cases n : c.ga = some p
        · obtain ⟨_, q2⟩ := s1.gen.gen p n
          rw [q2] at hp; cases hp
        · rw [s1.ext p u n e] at hp; cases hp
    exact q p vs F1 _ (s1.trans st) upd_same fp hp0 r1
  · exact absurd o not_ok_stuck
/-- list(xs) -/
theorem dn_list {x : Str} {p : Pos} (hm : X.mg x = none) (hv : bootBuiltins x = some (.type "list")) (ha : PE X a (tR c fa)) (hg : Gl X x := by rfl) (hn : x ≠ "__name__" := by decide) (hdb : (x == ("__debug__" : Str)) = false := by decide)
    (he : starEach [a] X.env = (false, eval a X.env) :: starEach [] X.env := by rfl) : PE X (.Call (.Name x p) [a] [] pos) (tN c (eF dList fa)) := (pe_callTy call_list_of hg hm hv (pa_cons ha pa_nil he) hn hdb he rfl).imp fun σ H Q ⟨H0, F, δ, g, d, g', w, o, q⟩ => by
  obtain ⟨x, g1, o1, o⟩ := ok_bind.mp o
  have fin : ∀ (v : V) (F1 H1 : Hp) (a : Addr) (vs : List V), Stp c F H F1 H1 g1 → (SqL X.K H1 a vs ∨ SqT X.K H1 a vs) → v = .ref a → RepAll c F1 vs d → g' = g1 → ∃ p ys, [v] = [V.ref p] ∧ (SqL X.K H1 p ys ∨ SqT X.K H1 p ys) ∧ ∀ l, H1 l = none → Q (.ref l) (upd H1 l (.lst ys)) := fun v F1 H1 a vs s1 hq ev ra eg => by
    subst ev eg
    refine ⟨a, vs, rfl, hq, fun p hp => ?_⟩
    have st := Stp.tmp (o := .lst vs) s1.le s1.gen hp
    have fp : F1 p = none := by
      cases e : F1 p with
      | none => rfl
      | some u => rw [s1.le p u e] at hp; cases hp
    have hp0 : H p = none := by
      cases e : H p with
      | none => rfl
      | some u =>
        by_cases n : c.ga = some p
        · obtain ⟨_, q2⟩ := s1.gen.gen p n
          rw [q2] at hp; cases hp
        · rw [s1.ext p u n e] at hp; cases hp
    exact q p vs F1 _ (s1.trans st) upd_same fp hp0 ra
  unfold dList at o
  split at o
  · obtain ⟨e, rfl⟩ := ok_pure.mp o
    cases e
    refine ⟨H0, F, δ, g, _, g1, w, o1, fun v F1 H1 s1 r1 => ?_⟩
    obtain ⟨a, vs, rfl, ea, ra⟩ := r1.lst s1.le
    exact fin _ F1 H1 a vs s1 (.inl (SqL.of ea)) rfl ra rfl
  · obtain ⟨e, rfl⟩ := ok_pure.mp o
    cases e
    refine ⟨H0, F, δ, g, _, g1, w, o1, fun v F1 H1 s1 r1 => ?_⟩
    have r1 := r1.rep rfl
    cases r1 with
    | @tup _ a vs _ ea ra => exact fin _ F1 H1 a vs s1 (.inr (SqT.of (s1.le _ _ ea))) rfl ra rfl
  · exact absurd o not_ok_stuck
theorem own_of {i : Nat} {F0 H0 F H F1 H1 : Hp} {σ : L2.St} {δ : Dlt} {g g1 : Gs} {p : Addr} {vs : List V} {ds : List D} (w : Wd c H0 F H σ δ g) (sp : Stp c F0 H0 F H g) (s1 : Stp c F H F1 H1 g1) (e1 : H1 p = some (.lst vs)) (e2 : F1 p = none) (e3 : H p = none) (r : RepAll c F1 vs ds) :
    Wd c H0 F1 H1 (σ.set i (some (.ref p))) (δ.set i (.own ds)) g1 := by
  have np : c.ga ≠ some p := fun n => by
    obtain ⟨_, q2⟩ := w.gen.gen p n
    rw [e3] at q2; cases q2
  refine (w.step s1).setOwn e1 e2 ?_ np r fun j ys hj ho => ?_
  · cases e : H0 p with
    | none => rfl
    | some u => rw [sp.ext p u np e] at e3; cases e3
  · obtain ⟨a, _, a1, a2, _⟩ := w.own j ys ho
    rw [a1]
    intro z
    cases z
    rw [e3] at a2; cases a2
/-- x = [..], x = list(..), to be filled -/
theorem ds_own {tg : Expr} {i : Nat} (he : PE X e (tN c f)) (hg : PG X tg (gName i)) (hs : swapsWithSole [tg] e pos.line X.env = pure false := by rfl) (hw : swappedStores [tg] e X.env = pure none := by rfl) (h1 : (assignEach [tg] X.env).map (·.2) = [assign tg X.env] := by rfl) : PS X (.Assign [tg] e pos) (tS c (sOwn i f)) := (ps_asg he hg hs hw h1).imp fun D σ H ⟨F0, H0, F, δ, g, r, g', w, sp, o, q⟩ => by
  obtain ⟨d, g1, o1, o⟩ := ok_bind.mp o
  split at o
  · obtain ⟨rfl, rfl⟩ := ok_pure.mp o
    exact ⟨H0, F, δ, g, _, g1, w, o1, fun p vs F1 H1 s1 e1 e2 e3 r1 => q _ F1 H1 (own_of w sp s1 e1 e2 e3 r1) (sp.trans s1) s1.sub⟩
  · exact absurd o not_ok_stuck
/-- x, y = [..], b: x to be filled -/
def sParO (i j : Nat) (a b : E) : S := fun δ => a δ >>= fun x => match x with
  | .lst xs => b δ >>= fun y => pure (.nx ((δ.set i (.own xs)).set j (.val y)))
  | _ => stuck
/-- both to be filled -/
def sParOO (i j : Nat) (a b : E) : S := fun δ => a δ >>= fun x => match x with
  | .lst xs => b δ >>= fun y => match y with
    | .lst ys => pure (.nx ((δ.set i (.own xs)).set j (.own ys)))
    | _ => stuck
  | _ => stuck
theorem ds_parO {i j : Nat} (h : PS X st (tPar i j (tCons (tN c fa) (tCons (tP c fb) tNil)))) : PS X st (tS c (sParO i j fa fb)) := h.imp fun D σ H ⟨F0, H0, F, δ, g, r, g', w, sp, o, q⟩ => by
  obtain ⟨d, g1, o1, o⟩ := ok_bind.mp o
  split at o
  · obtain ⟨e, g2, o2, o⟩ := ok_bind.mp o
    obtain ⟨rfl, rfl⟩ := ok_pure.mp o
    refine ⟨H0, F, δ, g, _, g1, w, o1, fun p vs F1 H1 s1 e1 e2 e3 r1 => ⟨H0, F1, δ, g1, e, g2, w.step s1, o2, fun u F2 H2 s2 r2 => ⟨.ref p, u, rfl, ?_⟩⟩⟩
    have np : c.ga ≠ some p := fun n => by
      obtain ⟨_, q2⟩ := w.gen.gen p n
      rw [e3] at q2; cases q2
    have e1' := s2.ext p _ np e1
    have e2' : F2 p = none := by
      by_cases h : F2 p = none
      · exact h
      · have k := s2.new p h e2
        rw [e1] at k; cases k
    exact q _ F2 H2 ((own_of w sp (s1.trans s2) e1' e2' e3 (r1.up s2.sub)).set r2) ((sp.trans s1).trans s2) (s1.sub.trans s2.sub)
  · exact absurd o not_ok_stuck
theorem ds_parOO {i j : Nat} (hij : i ≠ j) (h : PS X st (tPar i j (tCons (tN c fa) (tCons (tN c fb) tNil)))) : PS X st (tS c (sParOO i j fa fb)) := h.imp fun D σ H ⟨F0, H0, F, δ, g, r, g', w, sp, o, q⟩ => by
  obtain ⟨d, g1, o1, o⟩ := ok_bind.mp o
  split at o
  · obtain ⟨e, g2, o2, o⟩ := ok_bind.mp o
    split at o
    · obtain ⟨rfl, rfl⟩ := ok_pure.mp o
      refine ⟨H0, F, δ, g, _, g1, w, o1, fun p vs F1 H1 s1 e1 e2 e3 r1 => ⟨H0, F1, δ, g1, _, g2, w.step s1, o2, fun p' us F2 H2 s2 a1 a2 a3 r2 => ⟨.ref p, .ref p', rfl, ?_⟩⟩⟩
      have np : c.ga ≠ some p := fun n => by
        obtain ⟨_, q2⟩ := w.gen.gen p n
        rw [e3] at q2; cases q2
      have e1' := s2.ext p _ np e1
      have e2' : F2 p = none := by
        by_cases h : F2 p = none
        · exact h
        · have k := s2.new p h e2
          rw [e1] at k; cases k
      have ne : p' ≠ p := fun z => by rw [z, e1] at a3; cases a3
      have w1 := own_of (i := i) w sp (s1.trans s2) e1' e2' e3 (r1.up s2.sub)
      have np' : c.ga ≠ some p' := fun n => by
        obtain ⟨_, q2⟩ := s1.gen.gen p' n
        rw [a3] at q2; cases q2
      refine q _ F2 H2 (w1.setOwn a1 a2 ?_ np' r2 fun k ys hk ho => ?_) ((sp.trans s1).trans s2) (s1.sub.trans s2.sub)
      · cases e : H0 p' with
        | none => rfl
        | some u => rw [(sp.trans s1).ext p' u np' e] at a3; cases a3
      · by_cases hik : i = k
        · subst hik
          obtain ⟨a, _, b1, b2, _⟩ := w1.own i ys ho
          have hl : i < σ.length := by
            by_cases hl : i < σ.length
            · exact hl
            · rw [List.getElem?_eq_none (by simpa using hl)] at b1; cases b1
          rw [List.getElem?_set_self hl]
          intro z
          cases z
          exact ne rfl
        · rw [List.getElem?_set_ne hik] at ho ⊢
          obtain ⟨a, _, b1, b2, _, _, b5, _⟩ := w.own k ys ho
          rw [b1]
          intro z
          cases z
          rw [s1.ext _ _ b5 b2] at a3; cases a3
    · exact absurd o not_ok_stuck
  · exact absurd o not_ok_stuck
/-- from here on a list of one's own is shared -/
theorem dss_frz {i : Nat} (h : PSs X sts (tS c s)) : PSs X sts (tS c (sSeq (sFrz i) s)) := h.imp fun D σ H ⟨F0, H0, F, δ, g, r, g', w, sp, o, q⟩ => by
  obtain ⟨r1, g1, o1, o2⟩ := ok_bind.mp o
  unfold sFrz at o1
  split at o1
  · rename_i xs hx
    obtain ⟨rfl, rfl⟩ := ok_pure.mp o1
    obtain ⟨a, vs, e1, e2, e3, e4, e5, ra⟩ := w.own i xs hx
    have sub : Same F (upd F a (.lst vs)) := fun b u e => by rw [upd_ne (ne_of_none e e3)]; exact e
    have lef : Same (upd F a (.lst vs)) H := fun b u e => by
      by_cases m : b = a
      · subst m; rw [upd_same] at e; rw [← e]; exact e2
      · rw [upd_ne m] at e; exact w.le b u e
    have gen : GenOk c (upd F a (.lst vs)) H g := ⟨fun b n => by
      obtain ⟨q1, q2⟩ := w.gen.gen b n
      rw [upd_ne (fun z => e5 (by rw [← z]; exact n))]
      exact ⟨q1, q2⟩, w.gen.bo, w.gen.nb⟩
    have inl : i < σ.length := by
      by_cases hl : i < σ.length
      · exact hl
      · rw [List.getElem?_eq_none (by simpa using hl)] at e1; cases e1
    have w' : Wd c H0 (upd F a (.lst vs)) H σ (δ.set i (.val (.lst xs))) g := by
      have nj : ∀ (k : Nat) (zs : List DL.D), (δ.set i (Sl.val (.lst xs)))[k]? = some (Sl.own zs) → i ≠ k := fun k zs h e => by
        subst e
        rw [List.getElem?_set_self (by rw [w.len]; exact inl)] at h; cases h
      refine ⟨lef, gen, by simp [w.len], fun j d h => ?_, fun j ys h => ?_, fun j k ys zs ne h1 h2 => ?_, w.bo0⟩
      · by_cases hj : i = j
        · subst hj
          rw [List.getElem?_set_self (by rw [w.len]; exact inl)] at h
          cases h
          exact ⟨_, e1, .lst upd_same (ra.up sub)⟩
        · rw [List.getElem?_set_ne hj] at h
          obtain ⟨v, a1, a2⟩ := w.val j d h
          exact ⟨v, a1, a2.up sub⟩
      · have n := nj j ys h
        rw [List.getElem?_set_ne n] at h
        obtain ⟨b, us, b1, b2, b3, b4, b5, rb⟩ := w.own j ys h
        have m : b ≠ a := fun z => w.apart i j xs ys n hx h (by rw [e1, b1, z])
        exact ⟨b, us, b1, b2, by rw [upd_ne m]; exact b3, b4, b5, rb.up sub⟩
      · have n1 := nj j ys h1
        have n2 := nj k zs h2
        rw [List.getElem?_set_ne n1] at h1
        rw [List.getElem?_set_ne n2] at h2
        exact w.apart j k ys zs ne h1 h2
    have sp' : Stp c F0 H0 (upd F a (.lst vs)) H g := ⟨sp.sub.trans sub, sp.ext, fun b h1 h2 => by
      by_cases m : b = a
      · rw [m]; exact e4
      · rw [upd_ne m] at h1; exact sp.new b h1 h2, lef, gen⟩
    refine ⟨F0, H0, _, _, g, r, g', w', sp', o2, ?_⟩
    cases r with
    | nx δ' => exact fun σ' F' H' w' sp' sm' => q σ' F' H' w' sp' (sub.trans sm')
    | rt d => exact q
    | bk δ' => exact fun σ' F' H' w' sp' sm' => q σ' F' H' w' sp' (sub.trans sm')
    | ct δ' => exact fun σ' F' H' w' sp' sm' => q σ' F' H' w' sp' (sub.trans sm')
  · exact absurd o1 not_ok_stuck
/-- an own list's content turns -/
theorem Wd.turn {i : Nat} {H0 F H : Hp} {σ : L2.St} {δ : Dlt} {g : Gs} {a : Addr} {xs xs' : List D} {vs' : List V} (w : Wd c H0 F H σ δ g) (hx : δ[i]? = some (Sl.own xs)) (e1 : σ[i]? = some (some (V.ref a))) (r : RepAll c F vs' xs') : Wd c H0 F (upd H a (.lst vs')) σ (δ.set i (.own xs')) g := by
  obtain ⟨a', vs, b1, e2, e3, e4, e5, ra⟩ := w.own i xs hx
  rw [e1] at b1
  cases b1
  have inl : i < δ.length := by
    by_cases hl : i < δ.length
    · exact hl
    · rw [List.getElem?_eq_none (by simpa using hl)] at hx; cases hx
  refine ⟨fun b u e => ?_, ⟨fun b n => ?_, fun b u e => by rw [upd_ne (ne_of_none (w.bo0 b u e) e4)]; exact w.gen.bo b u e, w.gen.nb⟩, by simp [w.len], fun j d h => ?_, fun j ys h => ?_, fun j k ys zs ne h1 h2 => ?_, w.bo0⟩
  · rw [upd_ne (ne_of_none e e3)]; exact w.le b u e
  · obtain ⟨q1, q2⟩ := w.gen.gen b n
    rw [upd_ne (fun z => e5 (by rw [← z]; exact n))]
    exact ⟨q1, q2⟩
  · by_cases hj : i = j
    · subst hj
      rw [List.getElem?_set_self inl] at h; cases h
    · rw [List.getElem?_set_ne hj] at h
      exact w.val j d h
  · by_cases hj : i = j
    · subst hj
      rw [List.getElem?_set_self inl] at h
      cases h
      exact ⟨a, vs', e1, upd_same, e3, e4, e5, r⟩
    · rw [List.getElem?_set_ne hj] at h
      obtain ⟨b, us, b1, b2, b3, b4, b5, rb⟩ := w.own j ys h
      have m : b ≠ a := fun z => w.apart i j xs ys hj hx h (by rw [e1, b1, z])
      exact ⟨b, us, b1, by rw [upd_ne m]; exact b2, b3, b4, b5, rb⟩
  · by_cases hj : i = j
    · subst hj
      rw [List.getElem?_set_ne ne] at h2
      exact w.apart i k xs zs ne hx h2
    · rw [List.getElem?_set_ne hj] at h1
      by_cases hk : i = k
      · subst hk
        exact w.apart j i ys xs ne h1 hx
      · rw [List.getElem?_set_ne hk] at h2
        exact w.apart j k ys zs ne h1 h2
theorem Stp.turn {F0 H0 F H : Hp} {g : Gs} {a : Addr} {o : HO} (sp : Stp c F0 H0 F H g) (e3 : F a = none) (e4 : H0 a = none) (e5 : c.ga ≠ some a) (hb : Same c.bo H0) : Stp c F0 H0 F (upd H a o) g := by
  refine ⟨sp.sub, fun b u n e => ?_, sp.new, fun b u e => ?_, ⟨fun b n => ?_, fun b u e => by rw [upd_ne (ne_of_none (hb b u e) e4)]; exact sp.gen.bo b u e, sp.gen.nb⟩⟩
  · rw [upd_ne (ne_of_none e e4)]; exact sp.ext b u n e
  · rw [upd_ne (ne_of_none e e3)]; exact sp.le b u e
  · obtain ⟨q1, q2⟩ := sp.gen.gen b n
    rw [upd_ne (fun z => e5 (by rw [← z]; exact n))]
    exact ⟨q1, q2⟩
/-- x.append(e), x a list of one's own -/
theorem ds_app {i : Nat} {apos p2 : Pos} (hv : PE X a (tVar i)) (hb : PE X b (tP c fb)) (hbase : attributeBase a "append" X.env (eval a X.env) = eval a X.env := by rfl)
    (hfew : ((backTo pos (starEach [b] X.env)).all (fun x => !x.1) && (backToKw pos (keywordEach [] X.env)).all (fun x => x.1.isSome) && decide ([b].length + ([] : List Keyword).length + (if ([] : List Keyword).isEmpty then 0 else 1) < 30)) = true := by rfl)
    (hline : (apos.endLine == pos.line) = true := by rfl) (hs : starEach [b] X.env = (false, eval b X.env) :: starEach [] X.env := by rfl) (hsw : swapsWith (.Call (.Attribute a "append" apos) [b] [] pos) none p2.line X.env = pure false := by rfl) :
    PS X (.Expr (.Call (.Attribute a "append" apos) [b] [] pos) p2) (tS c (sApp i fb)) :=
  (ps_expr (pe_bm PySem.F.plainAttrs_list PySem.F.slot_list_append PySem.F.type_list_append mt_append hv (pa_cons hb pa_nil hs) hbase hfew hline hs rfl) hsw).imp fun D σ H ⟨F0, H0, F, δ, g, r, g', w, sp, o, q⟩ => by
    obtain ⟨d, g1, o1, o⟩ := ok_bind.mp o
    split at o
    · rename_i xs hx
      split at o
      · rename_i hl
        obtain ⟨rfl, rfl⟩ := ok_pure.mp o
        obtain ⟨p, vs, e1, e2, e3, e4, e5, ra⟩ := w.own i xs hx
        refine ⟨.ref p, e1, .inl ⟨rfl, vs, SqL.of e2⟩, H0, F, δ, g, d, g1, w, o1, fun v F1 H1 s1 r1 => ⟨p, vs, v, rfl, rfl, s1.ext p _ e5 e2, ?_, ?_⟩⟩
        · rw [ra.length]
          have := lim_le hl
          omega
        · have w1 := w.step s1
          obtain ⟨_, _, b1, _, b3, _⟩ := w1.own i xs hx
          rw [e1] at b1
          cases b1
          exact q σ F1 _ (w1.turn hx e1 ((ra.up s1.sub).append (.cons r1 .nil))) ((sp.trans s1).turn b3 e4 e5 w.bo0) s1.sub
      · exact absurd o not_ok_stuck
    · exact absurd o not_ok_stuck
end
end DL

/-! ## DFn -/
set_option Elab.async false
set_option autoImplicit false
set_option linter.all false
set_option maxRecDepth 100000
set_option maxHeartbeats 4000000
/-! DFn: for, while, defs and their calls, by plain data. -/
namespace DL
open PySem PySem.Spec PyProof.Rows L2
section
variable {X : Cx} {c : C} {a b e : Expr} {st : Stmt} {sts : List Stmt} {s t : S} {f fa fb : E} {pos : Pos}
/-! ### loops -/
theorem for_imp {src : Es} {gd : G} {is : List Nat} : ∀ D σ H, tS c (sFor gd src s) D σ H → tFor (iD c src) (gD c gd is) (tS c s) D σ H := fun D σ H ⟨F0, H0, F, δ, g, r, g', w, sp, o, q⟩ => by
  obtain ⟨ds, g1, o1, o⟩ := ok_bind.mp o
  refine ⟨H0, F, δ, g, ds, g1, w, o1, fun J F1 H1 s1 wk => ?_⟩
  refine ⟨fun i m σ2 H2 => m = ds.length - i ∧ i ≤ ds.length ∧ ∃ F2 δ2 g2, Wd c H0 F2 H2 σ2 δ2 g2 ∧ Stp c F0 H0 F2 H2 g2 ∧ Same F1 F2 ∧ Ok (forGo gd s (ds.drop i) δ2) g2 r g',
    ⟨ds.length, by simp, Nat.zero_le _, F1, δ, g1, w.step s1, sp.trans s1, .refl F1, o⟩, ?_⟩
  rintro i m σ2 H2 ⟨rfl, hi, F2, δ2, g2, w2, sp2, sm2, o2⟩
  by_cases hlt : i < ds.length
  · refine .inr ⟨wk.goes i F2 H2 hlt sm2 w2.le (fun _ z => nomatch z) w2.gen.bo, _, fun σ' H' hN => ⟨ds.length - (i + 1), by omega, rfl, hlt, hN⟩, fun x H3 hy => ?_⟩
    obtain ⟨F3, d, hd, st, rx⟩ := wk.yields i F2 H2 g2 x H3 hlt sm2 w2.le (fun _ z => nomatch z) w2.gen hy
    rw [List.drop_eq_getElem_cons hlt] at o2
    rw [List.getElem?_eq_getElem hlt] at hd
    cases hd
    unfold forGo at o2
    obtain ⟨δ', g'', ok1, ok2⟩ := ok_bind.mp o2
    have hgd : gd ds[i] δ2 = some δ' ∧ g2 = g'' := by
      unfold liftG at ok1
      split at ok1
      · rename_i e
        obtain ⟨rfl, rfl⟩ := ok_pure.mp ok1
        exact ⟨e, rfl⟩
      · exact absurd ok1 not_ok_stuck
    obtain ⟨hgd, rfl⟩ := hgd
    obtain ⟨r3, g3, ok3, ok4⟩ := ok_bind.mp ok2
    refine ⟨H0, F3, δ2, g2, ds[i], δ', w2.step st, rx, hgd, fun σ3 w3 _ _ => ⟨F0, H0, F3, δ', g2, r3, g3, w3, sp2.trans st, ok3, ?_⟩⟩
    have sm3 : Same F1 F3 := sm2.trans st.sub
    cases r3 with
    | nx δ4 => exact fun σ4 F4 H4 w4 sp4 sm4 => ⟨F4, δ4, g3, w4, sp4, sm3.trans sm4, ok4⟩
    | ct δ4 => exact fun σ4 F4 H4 w4 sp4 sm4 => ⟨F4, δ4, g3, w4, sp4, sm3.trans sm4, ok4⟩
    | bk δ4 =>
      obtain ⟨rfl, rfl⟩ := ok_pure.mp ok4
      exact fun σ4 F4 H4 w4 sp4 sm4 => q σ4 F4 H4 w4 sp4 (s1.sub.trans (sm3.trans sm4))
    | rt d =>
      obtain ⟨rfl, rfl⟩ := ok_pure.mp ok4
      exact q
  · have e : i = ds.length := by omega
    subst e
    rw [List.drop_length] at o2
    obtain ⟨rfl, rfl⟩ := ok_pure.mp o2
    exact .inl ⟨wk.stops F2 H2 sm2 w2.le (fun _ z => nomatch z) w2.gen.bo, q σ2 F2 H2 w2 sp2 (s1.sub.trans sm2)⟩
theorem ds_for {tg iter : Expr} {src : Es} {gd : G} {is : List Nat} (hp : PassesOwn (model X.prog X.w) X.A X.env X.xe) (hc : X.calm = true) (hi : PI X tg iter (iD c src)) (hg : PG X tg (gD c gd is)) (hb : PSs X sts (tS c s)) (hs : ∀ x, foldedSetIterable iter X.env x = pure x := by intro _; rfl) :
    PS X (.For tg iter sts [] pos) (tS c (sFor gd src s)) := (ps_for hp hc hi hg hb hs).imp for_imp
theorem while_imp {fc : E} {n : Nat} : ∀ D σ H, tS c (sWh n fc s) D σ H → tWhile (tT c fc) (tS c s) D σ H := fun D σ H ⟨F0, H0, F, δ, g, r, g', w, sp, o, q⟩ => by
  refine ⟨fun m σ2 H2 => ∃ F2 δ2 g2, Wd c H0 F2 H2 σ2 δ2 g2 ∧ Stp c F0 H0 F2 H2 g2 ∧ Same F F2 ∧ Ok (whGo fc s m δ2) g2 r g', ⟨n, F, δ, g, w, sp, .refl F, o⟩, ?_⟩
  rintro m σ2 H2 ⟨F2, δ2, g2, w2, sp2, sm2, o2⟩
  cases m with
  | zero => exact absurd o2 not_ok_stuck
  | succ m =>
    unfold whGo at o2
    obtain ⟨x, g3, o3, o4⟩ := ok_bind.mp o2
    cases x with
    | bl x =>
      refine ⟨H0, F2, δ2, g2, x, g3, w2, o3, fun F3 H3 s3 => ?_⟩
      cases x with
      | true =>
        obtain ⟨r4, g4, o5, o6⟩ := ok_bind.mp o4
        refine iteT ⟨_, fun σ' H' hN => ⟨m, Nat.lt_succ_self m, hN⟩, F0, H0, F3, δ2, g3, r4, g4, w2.step s3, sp2.trans s3, o5, ?_⟩
        have sm3 : Same F F3 := sm2.trans s3.sub
        cases r4 with
        | nx δ4 => exact fun σ4 F4 H4 w4 sp4 sm4 => ⟨F4, δ4, g4, w4, sp4, sm3.trans sm4, o6⟩
        | ct δ4 => exact fun σ4 F4 H4 w4 sp4 sm4 => ⟨F4, δ4, g4, w4, sp4, sm3.trans sm4, o6⟩
        | bk δ4 =>
          obtain ⟨rfl, rfl⟩ := ok_pure.mp o6
          exact fun σ4 F4 H4 w4 sp4 sm4 => q σ4 F4 H4 w4 sp4 (sm3.trans sm4)
        | rt d =>
          obtain ⟨rfl, rfl⟩ := ok_pure.mp o6
          exact q
      | false =>
        obtain ⟨rfl, rfl⟩ := ok_pure.mp o4
        exact iteF (q σ2 F3 H3 (w2.step s3) (sp2.trans s3) (sm2.trans s3.sub))
    | _ => exact absurd o4 not_ok_stuck
theorem ds_while {ca : Expr} {fc : E} (n : Nat) (hp : PassesOwn (model X.prog X.w) X.A X.env X.xe) (hc : PT X ca (tT c fc)) (hb : PSs X sts (tS c s)) : PS X (.While ca sts [] pos) (tS c (sWh n fc s)) := (ps_while hp hc hb).imp while_imp
end

/-! ### a def by its function -/
/-- what a call with vs wants: Fs tells its value -/
def spF (K : PySem.W.Frag) (mg : Str → Option Value) (Fs : List D → M D) (vs : List V) (H : Hp) (Q : VK) : Prop := ∃ (ga : Option Addr) (bo : Hp) (F : Hp) (ds : List D) (g : Gs) (d : D) (g' : Gs), Same F H ∧ GenOk ⟨K, mg, ga, bo⟩ F H g ∧ RepAll ⟨K, mg, ga, bo⟩ F vs ds ∧ Ok (Fs ds) g d g' ∧
  ∀ v F' H', Stp ⟨K, mg, ga, bo⟩ F H F' H' g' → Rep ⟨K, mg, ga, bo⟩ F' v d → Q v H'
/-- any promise, where nothing is being shown (repr) -/
structure FnQ (P : Program) (w : World) (K : PySem.W.Frag) (mg : Str → Option Value) (base : Heap) (k : Nat) (f : Addr) (fd : FuncData) (ps : List Str) (sp : List V → Hp → VK → Prop) : Prop where
  run : ∀ (A : Around) (outer : List Env) (s : Shared) (H : Hp) (args : Args) (us : List Value) (vs : List V) (Q : VK), Room k A → A.guards = some [] → Env0 P w K mg base A outer s H → BindsTo s fd args (ps.zip us) → Vals vs us → vs.length = ps.length → sp vs H Q →
    codeAny (model P w) A (.call (.ref f) args) (CR CX0 outer P w H s Q E0) s
structure FnG (P : Program) (w : World) (K : PySem.W.Frag) (mg : Str → Option Value) (base : Heap) (k : Nat) (f : Addr) (fd : FuncData) (ps : List Str) (Fs : List D → M D) : Prop where
  q : FnQ P w K mg base k f fd ps (spF K mg Fs)
  ar : ∀ ds g d g', Ok (Fs ds) g d g' → ds.length = ps.length
section
variable {P : Program} {w : World} {K : PySem.W.Frag} {mg : Str → Option Value} {base : Heap} {k : Nat} {f : Addr} {fd : FuncData} {ps : List Str}
theorem FnQ.mono {j : Nat} {sp : List V → Hp → VK → Prop} (F : FnQ P w K mg base j f fd ps sp) (h : j ≤ k) : FnQ P w K mg base k f fd ps sp := ⟨fun A outer s H args us vs Q hr => F.run A outer s H args us vs Q (hr.mono h)⟩
theorem FnQ.imp {sp sp' : List V → Hp → VK → Prop} (F : FnQ P w K mg base k f fd ps sp) (h : ∀ vs H Q, vs.length = ps.length → sp' vs H Q → sp vs H Q) : FnQ P w K mg base k f fd ps sp' :=
  ⟨fun A outer s H args us vs Q hr hg he hb hv hl hs => F.run A outer s H args us vs Q hr hg he hb hv hl (h vs H Q hl hs)⟩
theorem FnG.mono {j : Nat} {Fs : List D → M D} (F : FnG P w K mg base j f fd ps Fs) (h : j ≤ k) : FnG P w K mg base k f fd ps Fs := ⟨F.q.mono h, F.ar⟩
/-- less is promised -/
theorem FnG.le {Fs Gs' : List D → M D} (F : FnG P w K mg base k f fd ps Fs) (h : ∀ ds g d g', Ok (Gs' ds) g d g' → Ok (Fs ds) g d g') : FnG P w K mg base k f fd ps Gs' :=
  ⟨F.q.imp fun vs H Q hl ⟨ga, bo, F1, ds, g, d, g', s, gn, r, o, q⟩ => ⟨ga, bo, F1, ds, g, d, g', s, gn, r, h _ _ _ _ o, q⟩, fun ds g d g' o => F.ar ds g d g' (h _ _ _ _ o)⟩
/-- a def of the text, by its body's reading -/
theorem fnQ_of {x qual : Str} {st : Stmt} {N : List Str} {sp : List V → Hp → VK → Prop} (F : Fun K x qual st f fd) (S : FnScope N ps (defScope st))
    (hbody : ∀ (cdv : Value) (A : Around) (outer : List Env) (s : Shared) (H : Hp) (vs : List V) (Q : VK), Room k (A.deeper (envOfC qual (defScope st) s.heap.objs.size f cdv)) → (A.deeper (envOfC qual (defScope st) s.heap.objs.size f cdv)).guards = some [] → vs.length = ps.length → sp vs H Q →
      ∃ t, PSs (cxOf CX0 P w K mg base N qual (defScope st) f cdv A outer s H E0).nox (defBody st) t ∧ t { nx := fun _ H' => Q .non H', rt := Q } (start N vs) H) : FnQ P w K mg base (k + 1) f fd ps sp := by
  obtain ⟨oc, od, kV, doc, pm, an, cdv, ct, osl, rfl, lk, hcd⟩ := F.ex
  refine ⟨fun A outer s H args us vs Q hr hgd e0 hb r hl hsp => ?_⟩
  obtain ⟨t, h1, h2⟩ := hbody cdv A outer s H vs Q (hr.deeper _) hgd hl hsp
  have KX : K.In s.heap := e0.mod.kin.keeps fun b o e => (e0.bs b o e).1
  have hkind : ∀ y ∈ ps.zip us, (defScope st).names.lookup y.1 = some .local ∨ ((defScope st).names.lookup y.1 = some .cell ∧ ((cellsFrom (s.heap.objs.size + 1) (defScope st).names []).lookup y.1).isSome = true) := by
    rintro ⟨n, v⟩ hy
    rcases S.par n (List.of_mem_zip hy).1 with q | q
    · exact .inl q
    · exact .inr ⟨q, PySem.W.cellsFrom_some _ _ _ (.inl q)⟩
  refine codeAny_call_function (hroom := hr.depth) (KX _ _ lk) rfl S.co S.gen rfl (PySem.W.codeRec_of KX hcd)
    (hb _ _ _ _ (wpAny_newFunctionEnv_cells S.kind hkind fun env he s1 x => ?_))
  subst he
  refine ⟨(e0.mod.nolimit.keeps fun b o e => (e0.bs b o e).1).keeps x.toInCall.keep, codeAny_func ?_⟩
  have I : Inv (cxOf CX0 P w K mg base N qual (defScope st) f cdv A outer s H E0) [] (start N vs) H s1 :=
    inv_start S hr.hd e0 hl r x
  refine wpAny_mono (h1.nox.run [] s1 (start N vs) H _ I h2) (fun fl s' hs => ?_) fun e s' hs => hs
  cases fl with
  | ret u =>
    obtain ⟨v, σ', H', J, rv, q⟩ := hs
    exact ⟨v, H', J.os, J.bare, J.base, J.hok, rv, q⟩
  | next =>
    obtain ⟨σ', H', J, q⟩ := hs
    exact ⟨V.non, H', J.os, J.bare, J.base, J.hok, rfl, q⟩
  | brk =>
    obtain ⟨_, _, _, q⟩ := hs
    exact q.elim
  | cont =>
    obtain ⟨_, _, _, q⟩ := hs
    exact q.elim
theorem start_get {N : List Str} {vs : List V} {i : Nat} (h : i < vs.length) : (start N vs)[i]? = some (vs[i]?) := by
  show (vs.map some ++ List.replicate (N.length - vs.length) none)[i]? = some (vs[i]?)
  rw [List.getElem?_append_left (by simpa using h), List.getElem?_map, List.getElem?_eq_getElem h]
  rfl
theorem startD_get {n : Nat} {ds : List D} {i : Nat} {x : Sl} (h : (startD n ds)[i]? = some x) : (∃ d, ds[i]? = some d ∧ x = .val d) ∨ x = .no := by
  unfold startD at h
  by_cases hi : i < ds.length
  · rw [List.getElem?_append_left (by simpa using hi), List.getElem?_map, List.getElem?_eq_getElem hi] at h
    cases h
    exact .inl ⟨_, List.getElem?_eq_getElem hi, rfl⟩
  · rw [List.getElem?_append_right (by simpa using hi), List.getElem?_replicate] at h
    split at h
    · cases h; exact .inr rfl
    · cases h
theorem start_wd {c : C} {N : List Str} {vs : List V} {ds : List D} {F H : Hp} {g : Gs} (le : Same F H) (gen : GenOk c F H g) (r : RepAll c F vs ds) (hl : ds.length ≤ N.length) : Wd c H F H (start N vs) (startD N.length ds) g := by
  have lr := r.length
  refine ⟨le, gen, ?_, fun i d e => ?_, fun i xs e => ?_, fun i j xs ys ne e1 e2 => ?_, gen.bo⟩
  · show (ds.map Sl.val ++ List.replicate (N.length - ds.length) Sl.no).length = (vs.map some ++ List.replicate (N.length - vs.length) none).length
    simp [lr]
  · rcases startD_get e with ⟨d', h1, h2⟩ | h
    · cases h2
      obtain ⟨v, h3, h4⟩ := r.get h1
      refine ⟨v, ?_, h4⟩
      rw [start_get (by rw [lr]; exact (List.getElem?_eq_some_iff.mp h1).1), h3]
    · cases h
  · rcases startD_get e with ⟨d', h1, h2⟩ | h
    · cases h2
    · cases h
  · rcases startD_get e1 with ⟨d', h1, h2⟩ | h
    · cases h2
    · cases h
/-- THE RULE for a def whose body reads as s -/
theorem fn_ar {n p : Nat} {s : S} {ds : List D} {g g' : Gs} {d : D} (o : Ok (fn n p s ds) g d g') : ds.length = p := by
  unfold fn at o
  split at o
  · assumption
  · exact absurd o not_ok_stuck
theorem fnG_of {x qual : Str} {st : Stmt} {N : List Str} {s : S} (F : Fun K x qual st f fd) (S : FnScope N ps (defScope st)) (hN : ps.length ≤ N.length := by decide)
    (hbody : ∀ (cdv : Value) (A : Around) (outer : List Env) (sh : Shared) (H : Hp) (ga : Option Addr) (bo : Hp), Room k (A.deeper (envOfC qual (defScope st) sh.heap.objs.size f cdv)) → (A.deeper (envOfC qual (defScope st) sh.heap.objs.size f cdv)).guards = some [] →
      PSs (cxOf CX0 P w K mg base N qual (defScope st) f cdv A outer sh H E0).nox (defBody st) (tS ⟨K, mg, ga, bo⟩ s)) : FnG P w K mg base (k + 1) f fd ps (fn N.length ps.length s) :=
  ⟨fnQ_of F S fun cdv A outer sh H vs Q hr hg hl ⟨ga, bo, F1, ds, g, d, g', le, gen, r, o, q⟩ => by
    refine ⟨_, hbody cdv A outer sh H ga bo hr hg, ?_⟩
    have hd : ds.length = ps.length := by rw [← r.length]; exact hl
    unfold fn at o
    rw [if_pos hd] at o
    obtain ⟨fl, g1, o1, o2⟩ := ok_bind.mp o
    have w0 := start_wd (N := N) le gen r (by rw [hd]; exact hN)
    refine ⟨F1, H, F1, _, g, fl, g1, w0, .refl le gen, o1, ?_⟩
    cases fl with
    | nx δ' =>
      obtain ⟨rfl, rfl⟩ := ok_pure.mp o2
      exact fun σ' F' H' w' sp' _ => q .non F' H' sp' .non
    | rt d' =>
      obtain ⟨rfl, rfl⟩ := ok_pure.mp o2
      exact q
    | bk δ' => exact absurd o2 not_ok_stuck
    | ct δ' => exact absurd o2 not_ok_stuck, fun ds g d g' o => fn_ar o⟩
end

/-! ### calls of such defs -/
/-- the places of the parameters among the written arguments -/
def pick {α : Type} (ix : List Nat) (xs : List α) : List α := ix.filterMap fun i => xs[i]?
theorem pick_vals {ix : List Nat} {vs : List V} {us : List Value} (r : Vals vs us) : Vals (pick ix vs) (pick ix us) := by
  induction ix with
  | nil => exact .nil
  | cons i ix ih =>
    unfold pick at ih ⊢
    rw [List.filterMap_cons, List.filterMap_cons]
    cases e : vs[i]? with
    | none => rw [r.none_of e]; exact ih
    | some v =>
      obtain ⟨u, h1, h2⟩ := r.get e
      rw [h1]
      exact .cons h2 ih
theorem pick_rep {c : C} {F : Hp} {ix : List Nat} {vs : List V} {ds : List D} (r : RepAll c F vs ds) : RepAll c F (pick ix vs) (pick ix ds) := by
  induction ix with
  | nil => exact .nil
  | cons i ix ih =>
    unfold pick at ih ⊢
    rw [List.filterMap_cons, List.filterMap_cons]
    cases e : vs[i]? with
    | none =>
      have h : ds[i]? = none := by
        rw [List.getElem?_eq_none_iff] at e ⊢
        rw [← r.length]; exact e
      rw [h]; exact ih
    | some v =>
      obtain ⟨u, h1, h2⟩ := r.getV e
      rw [h1]
      exact .cons h2 ih
/-- how a call with keywords ks binds -/
structure KwB (fd : FuncData) (ps ks : List Str) (n : Nat) (ix : List Nat) : Prop where
  to : ∀ us ws : List Value, us.length = n → ws.length = ks.length → bindArgs fd ⟨us, ks.zip ws⟩ = pure (ps.zip (pick ix (us ++ ws)))
  len : ix.length = ps.length
  all : ∀ i ∈ ix, i < n + ks.length
def eCallK (Fs : List D → M D) (ix : List Nat) (fs gs : Es) : E := fun δ => fs δ >>= fun xs => gs δ >>= fun ys => Fs (pick ix (xs ++ ys))
theorem pick_len {α : Type} {xs : List α} : ∀ {ix : List Nat}, (∀ i ∈ ix, i < xs.length) → (pick ix xs).length = ix.length
  | [], _ => rfl
  | i :: ix, h => by
    have ih := pick_len (xs := xs) (ix := ix) fun j hj => h j (List.mem_cons_of_mem _ hj)
    unfold pick at ih ⊢
    rw [List.filterMap_cons, List.getElem?_eq_getElem (h i List.mem_cons_self)]
    simp only [List.length_cons, ih]
section
variable {X : Cx} {k : Nat} {f : Addr} {fd : FuncData} {ps ks : List Str} {Fs : List D → M D} {x : Str} {p pos : Pos} {e : Expr} {es : List Expr} {fs gs : Es} {ga : Option Addr} {bo : Hp} {kws : List Keyword} {sp : List V → Hp → VK → Prop}
theorem run_fnQ {pins : List (Addr × Obj)} {σ : L2.St} {H : Hp} {s : Shared} {Q : VK} {args : Args} {us : List Value} {vs : List V} (F : FnQ X.prog X.w X.K X.mg X.base k f fd ps sp) (hr : Room k X.A) (hgd : X.A.guards = some [])
    (hb : BindsTo s fd args (ps.zip us)) (I : Inv X pins σ H s) (r : Vals vs us) (hl : vs.length = ps.length) (h : sp vs H Q) : codeAny (model X.prog X.w) X.A (.call (.ref f) args) (fun r s' => match r with
      | .ok (.ret u) => EP X pins σ Q u s'
      | .ok _ => False
      | .error e => X.xe e s') s := by
  refine codeAny_mono (F.run X.A X.stack s H args us vs Q hr hgd I.env0 hb r hl h) fun r s' hq => ?_
  cases r with
  | error e => exact False.elim hq
  | ok fl =>
    cases fl with
    | ret u => exact I.after hq
    | next => exact hq
    | brk => exact hq
    | cont => exact hq
/-- f(e, ..) -/
theorem pe_callQ {t : TA} (F : FnQ X.prog X.w X.K X.mg X.base k f fd ps sp) (hr : Room k X.A) (hgd : X.A.guards = some []) (hm : X.mg x = some (.ref f)) (hk : PySem.W.keepIn X.K (.ref f) = true) (hb : Binds X.K fd ps []) (ha : PA X (e :: es) t) (hg : Gl X x := by rfl)
    (hdb : (x == ("__debug__" : Str)) = false := by decide) (he : starEach (e :: es) X.env = (false, eval e X.env) :: starEach es X.env := by rfl) (hpl : (backTo pos (starEach es X.env)).any (·.1) = false := by rfl) :
    PE X (.Call (.Name x p) (e :: es) [] pos) (fun σ H Q => t σ H fun vs H1 => vs.length = ps.length ∧ sp vs H1 Q) := by
  refine ⟨fun pins s σ H Q I h => ?_⟩
  refine wpAny_Call_Name_kw (ld_glob I hg hm ?_ hdb)
  refine PySem.W.callWith_K (h₀ := X.base) I.ok.mod.kin hk
    (thn (ha.run pos pins s σ H _ I h) fun us s1 ⟨vs, H1, I1, r, hl, q⟩ => ⟨I1.kIn, ?_⟩) he hpl
  have b := hb s1 us I1.kIn (by rw [List.append_nil, ← r.length]; exact hl)
  rw [List.append_nil] at b
  exact wpAny_call (codeAny_mono (run_fnQ F hr hgd b I1 r hl q) fun r s' hq => by
    cases r with
    | error e => exact hq
    | ok fl => cases fl <;> exact hq)
theorem d_call (F : FnG X.prog X.w X.K X.mg X.base k f fd ps Fs) (hr : Room k X.A) (hgd : X.A.guards = some []) (hm : X.mg x = some (.ref f)) (hk : PySem.W.keepIn X.K (.ref f) = true) (hb : Binds X.K fd ps []) (ha : PA X (e :: es) (tAs ⟨X.K, X.mg, ga, bo⟩ fs)) (hg : Gl X x := by rfl)
    (hdb : (x == ("__debug__" : Str)) = false := by decide) (he : starEach (e :: es) X.env = (false, eval e X.env) :: starEach es X.env := by rfl) (hpl : (backTo pos (starEach es X.env)).any (·.1) = false := by rfl) :
    PE X (.Call (.Name x p) (e :: es) [] pos) (tP ⟨X.K, X.mg, ga, bo⟩ (eCall Fs fs)) := (pe_callQ F.q hr hgd hm hk hb ha hg hdb he hpl).imp fun σ H Q ⟨H0, F1, δ, g, d, g', w, o, q⟩ => by
  obtain ⟨ds, g1, o1, o⟩ := ok_bind.mp o
  exact ⟨H0, F1, δ, g, ds, g1, w, o1, fun vs F1 H1 s1 r1 => ⟨by rw [r1.length]; exact F.ar _ _ _ _ o, ga, bo, F1, ds, g1, d, g', s1.le, s1.gen, r1, o, fun v F2 H2 s2 r2 => q v F2 H2 (s1.trans s2) r2⟩⟩
/-! ### calls by name -/
theorem kwB_run {s : Shared} {n : Nat} {ix : List Nat} {us ws : List Value} (hb : KwB fd ps ks n ix) (h1 : us.length = n) (h2 : ws.length = ks.length) : BindsTo s fd ⟨us, ks.zip ws⟩ (ps.zip (pick ix (us ++ ws))) := .of_eq (hb.to us ws h1 h2)
theorem pe_callQK {t tk : TA} {n : Nat} {ix : List Nat} (F : FnQ X.prog X.w X.K X.mg X.base k f fd ps sp) (hr : Room k X.A) (hgd : X.A.guards = some []) (hm : X.mg x = some (.ref f)) (hk : PySem.W.keepIn X.K (.ref f) = true) (hb : KwB fd ps ks n ix) (ha : PA X (e :: es) t) (hkw : PK X kws tk) (hnk : kws.length = ks.length)
    (hg : Gl X x := by rfl) (hall : (backToKw pos (keywordEach kws X.env)).all (·.1.isSome) = true := by rfl) (hks : (backToKw pos (keywordEach kws X.env)).filterMap (·.1) = ks := by rfl)
    (hdb : (x == ("__debug__" : Str)) = false := by decide) (he : starEach (e :: es) X.env = (false, eval e X.env) :: starEach es X.env := by rfl)
    (hpl : ((backTo pos (starEach (e :: es) X.env)).any (·.1) || (backToKw pos (keywordEach kws X.env)).any (·.1.isNone)) = false := by rfl) :
    PE X (.Call (.Name x p) (e :: es) kws pos) (fun σ H Q => t σ H fun vs H1 => tk σ H1 fun zs H2 => vs.length = n ∧ zs.length = ks.length ∧ sp (pick ix (vs ++ zs)) H2 Q) := by
  refine ⟨fun pins s σ H Q I h => ?_⟩
  refine wpAny_Call_Name_kw (ld_glob I hg hm ?_ hdb)
  refine PySem.W.callWith_KW (h₀ := X.base) I.ok.mod.kin hk hall (thn (ha.run pos pins s σ H _ I h) fun us s1 ⟨vs, H1, I1, r, q⟩ => ?_) hpl he
  refine thn (hkw.run pos pins s1 σ H1 _ I1 q) fun ws s2 ⟨zs, H2, I2, rz, hl, hz, q2⟩ => ⟨I2.kIn, ?_⟩
  rw [hks]
  have h1 : us.length = n := by rw [← r.length]; exact hl
  have h2 : ws.length = ks.length := by rw [← rz.length]; exact hz
  have hlen : (pick ix (vs ++ zs)).length = ps.length := by
    rw [pick_len fun i hi => ?_, hb.len]
    have := hb.all i hi
    rw [List.length_append, hl, hz]
    exact this
  refine wpAny_call (codeAny_mono (run_fnQ F hr hgd (kwB_run hb h1 h2) I2 (pick_vals (r.append rz)) hlen q2) fun r s' hq => ?_)
  cases r with
  | error e => exact hq
  | ok fl => cases fl <;> exact hq
theorem pe_callQK0 {tk : TA} {ix : List Nat} (F : FnQ X.prog X.w X.K X.mg X.base k f fd ps sp) (hr : Room k X.A) (hgd : X.A.guards = some []) (hm : X.mg x = some (.ref f)) (hk : PySem.W.keepIn X.K (.ref f) = true) (hb : KwB fd ps ks 0 ix) (hkw : PK X kws tk)
    (hg : Gl X x := by rfl) (hall : (backToKw pos (keywordEach kws X.env)).all (·.1.isSome) = true := by rfl) (hks : (backToKw pos (keywordEach kws X.env)).filterMap (·.1) = ks := by rfl)
    (hdb : (x == ("__debug__" : Str)) = false := by decide) (hpl : ((backTo pos (starEach [] X.env)).any (·.1) || (backToKw pos (keywordEach kws X.env)).any (·.1.isNone)) = false := by rfl) :
    PE X (.Call (.Name x p) [] kws pos) (fun σ H Q => tk σ H fun zs H2 => zs.length = ks.length ∧ sp (pick ix zs) H2 Q) := by
  refine ⟨fun pins s σ H Q I h => ?_⟩
  refine wpAny_Call_Name_kw (ld_glob I hg hm ?_ hdb)
  refine PySem.W.callWith_KW0 (h₀ := X.base) I.ok.mod.kin hk hall ?_ hpl
  refine thn (hkw.run pos pins s σ H _ I h) fun ws s2 ⟨zs, H2, I2, rz, hz, q2⟩ => ⟨I2.kIn, ?_⟩
  rw [hks]
  have h2 : ws.length = ks.length := by rw [← rz.length]; exact hz
  have hlen : (pick ix ([] ++ zs)).length = ps.length := by
    rw [pick_len fun i hi => ?_, hb.len]
    have := hb.all i hi
    rw [List.nil_append, hz]
    omega
  refine wpAny_call (codeAny_mono (run_fnQ F hr hgd (kwB_run hb rfl h2) I2 (pick_vals (us := [] ++ ws) (vs := [] ++ zs) rz) hlen q2) fun r s' hq => ?_)
  cases r with
  | error e => exact hq
  | ok fl => cases fl <;> exact hq
/-- arguments' values, as many as written -/
def EsN (n : Nat) (fs : Es) : Prop := ∀ δ g ds g', Ok (fs δ) g ds g' → ds.length = n
theorem esN_nil : EsN 0 esN := fun δ g ds g' o => by
  obtain ⟨rfl, _⟩ := ok_pure.mp o
  rfl
theorem esN_cons {a : E} {r : Es} {n : Nat} (h : EsN n r) : EsN (n + 1) (esC a r) := fun δ g ds g' o => by
  obtain ⟨x, g1, o1, o⟩ := ok_bind.mp o
  obtain ⟨xs, g2, o2, o⟩ := ok_bind.mp o
  obtain ⟨rfl, _⟩ := ok_pure.mp o
  rw [List.length_cons, h _ _ _ _ o2]
theorem dk_nil {c : C} : PK X [] (tAs c esN) := ⟨fun pos pins s σ H Q I ⟨H0, F, δ, g, ds, g', w, o, q⟩ => by
  obtain ⟨rfl, rfl⟩ := ok_pure.mp o
  exact pk_nil.run pos pins s σ H Q I (q [] F H (.refl w.le w.gen) .nil)⟩
theorem dk_cons {c : C} {nm : Option Str} {fe : E} (ha : PE X e (tP c fe)) (hr : PK X kws (tAs c fs)) {kpos : Pos} : PK X (⟨nm, e, kpos⟩ :: kws) (tAs c (esC fe fs)) := ⟨fun pos pins s σ H Q I ⟨H0, F, δ, g, ds, g', w, o, q⟩ => by
  obtain ⟨x, g1, o1, o⟩ := ok_bind.mp o
  obtain ⟨xs, g2, o2, o⟩ := ok_bind.mp o
  obtain ⟨rfl, rfl⟩ := ok_pure.mp o
  exact (pk_cons (kpos := kpos) (nm := nm) ha hr).run pos pins s σ H Q I ⟨H0, F, δ, g, x, g1, w, o1, fun v F1 H1 s1 r1 => ⟨H0, F1, δ, g1, xs, g2, w.step s1, o2, fun vs F2 H2 s2 r2 => q _ F2 H2 (s1.trans s2) (.cons (r1.up s2.sub) r2)⟩⟩⟩
theorem d_callK {n : Nat} {ix : List Nat} (F : FnG X.prog X.w X.K X.mg X.base k f fd ps Fs) (hr : Room k X.A) (hgd : X.A.guards = some []) (hm : X.mg x = some (.ref f)) (hk : PySem.W.keepIn X.K (.ref f) = true) (hb : KwB fd ps ks n ix) (ha : PA X (e :: es) (tAs ⟨X.K, X.mg, ga, bo⟩ fs)) (hkw : PK X kws (tAs ⟨X.K, X.mg, ga, bo⟩ gs)) (hn : EsN n fs) (hn2 : EsN ks.length gs) (hnk : kws.length = ks.length := by rfl)
    (hg : Gl X x := by rfl) (hall : (backToKw pos (keywordEach kws X.env)).all (·.1.isSome) = true := by rfl) (hks : (backToKw pos (keywordEach kws X.env)).filterMap (·.1) = ks := by rfl)
    (hdb : (x == ("__debug__" : Str)) = false := by decide) (he : starEach (e :: es) X.env = (false, eval e X.env) :: starEach es X.env := by rfl)
    (hpl : ((backTo pos (starEach (e :: es) X.env)).any (·.1) || (backToKw pos (keywordEach kws X.env)).any (·.1.isNone)) = false := by rfl) :
    PE X (.Call (.Name x p) (e :: es) kws pos) (tP ⟨X.K, X.mg, ga, bo⟩ (eCallK Fs ix fs gs)) := (pe_callQK F.q hr hgd hm hk hb ha hkw hnk hg hall hks hdb he hpl).imp fun σ H Q ⟨H0, F1, δ, g, d, g', w, o, q⟩ => by
  obtain ⟨xs, g1, o1, o⟩ := ok_bind.mp o
  obtain ⟨ys, g2, o2, o⟩ := ok_bind.mp o
  exact ⟨H0, F1, δ, g, xs, g1, w, o1, fun vs F1 H1 s1 r1 => ⟨H0, F1, δ, g1, ys, g2, w.step s1, o2, fun us F2 H2 s2 r2 => ⟨by rw [r1.length]; exact hn _ _ _ _ o1, by rw [r2.length]; exact hn2 _ _ _ _ o2,
    ga, bo, F2, _, g2, d, g', s2.le, s2.gen, pick_rep ((r1.up s2.sub).append r2), o, fun v F3 H3 s3 r3 => q v F3 H3 ((s1.trans s2).trans s3) r3⟩⟩⟩
/-- f(k = e, ..) -/
theorem d_callK0 {ix : List Nat} (F : FnG X.prog X.w X.K X.mg X.base k f fd ps Fs) (hr : Room k X.A) (hgd : X.A.guards = some []) (hm : X.mg x = some (.ref f)) (hk : PySem.W.keepIn X.K (.ref f) = true) (hb : KwB fd ps ks 0 ix) (hkw : PK X kws (tAs ⟨X.K, X.mg, ga, bo⟩ gs)) (hn2 : EsN ks.length gs)
    (hg : Gl X x := by rfl) (hall : (backToKw pos (keywordEach kws X.env)).all (·.1.isSome) = true := by rfl) (hks : (backToKw pos (keywordEach kws X.env)).filterMap (·.1) = ks := by rfl)
    (hdb : (x == ("__debug__" : Str)) = false := by decide) (hpl : ((backTo pos (starEach [] X.env)).any (·.1) || (backToKw pos (keywordEach kws X.env)).any (·.1.isNone)) = false := by rfl) :
    PE X (.Call (.Name x p) [] kws pos) (tP ⟨X.K, X.mg, ga, bo⟩ (eCall (fun ys => Fs (pick ix ys)) gs)) := (pe_callQK0 F.q hr hgd hm hk hb hkw hg hall hks hdb hpl).imp fun σ H Q ⟨H0, F1, δ, g, d, g', w, o, q⟩ => by
  obtain ⟨ys, g2, o2, o⟩ := ok_bind.mp o
  exact ⟨H0, F1, δ, g, ys, g2, w, o2, fun us F2 H2 s2 r2 => ⟨by rw [r2.length]; exact hn2 _ _ _ _ o2,
    ga, bo, F2, _, g2, d, g', s2.le, s2.gen, pick_rep r2, o, fun v F3 H3 s3 r3 => q v F3 H3 (s2.trans s3) r3⟩⟩
end
end DL

/-! ## DGen -/
set_option Elab.async false
set_option autoImplicit false
set_option linter.all false
set_option maxRecDepth 100000
set_option maxHeartbeats 4000000
/-! DGen: the generator's numbers; pow, bit_length; pop out of a list of one's own; calls by name. -/
namespace DL
open PySem PySem.Spec PyProof.Rows L2

/-! ### pure -/
def getG (k : Nat) : M D := fun g => match g[k]? with
  | some n => some (.ok (.int n), g)
  | none => none
def putG (k : Nat) (n : Int) : M Unit := fun g => if k < g.length then some (.ok (), g.set k n) else none
/-- x[k], x the generator -/
def eG (i k : Nat) : E := fun δ => match δ[i]? with
  | some (.val .gen) => getG k
  | _ => stuck
/-- x[k] = e, x the generator -/
def sG (i k : Nat) (e : E) : S := fun δ => e δ >>= fun d => match d, δ[i]? with
  | .int n, some (.val .gen) => putG k n >>= fun _ => pure (.nx δ)
  | _, _ => stuck
def dBits (d : D) : M D := match d with
  | .int i => pure (.int (Builtin.Int.intBits i : Nat))
  | _ => stuck
def dPow (d e : D) : M D := match d, e with
  | .int i, .int j => if 0 ≤ j ∧ (Builtin.Int.intBits i : Int) * j ≤ 2 ^ 27 then pure (.int (i ^ j.toNat)) else stuck
  | _, _ => stuck
/-- x.append(y.pop(e)) -/
def sAppPop (i j : Nat) (e : E) : S := fun δ => e δ >>= fun d => match d, δ[i]?, δ[j]? with
  | .int k, some (.own xs), some (.own ys) => match place ys.length k with
    | some m => match ys[m]? with
      | some y => if lim (xs.length + 1) ∧ -(2 ^ 63) ≤ k ∧ k < 2 ^ 63 ∧ i ≠ j then pure (.nx ((δ.set j (.own (ys.eraseIdx m))).set i (.own (xs ++ [y])))) else stuck
      | none => stuck
    | none => stuck
  | _, _, _ => stuck
theorem ok_getG {k : Nat} {g g' : Gs} {d : D} (h : Ok (getG k) g d g') : ∃ n, g[k]? = some n ∧ d = .int n ∧ g' = g := by
  unfold Ok getG at h
  split at h
  · rename_i n e
    cases h
    exact ⟨n, e, rfl, rfl⟩
  · cases h
theorem ok_putG {k : Nat} {n : Int} {g g' : Gs} {u : Unit} (h : Ok (putG k n) g u g') : k < g.length ∧ g' = g.set k n := by
  unfold Ok putG at h
  split at h
  · rename_i e
    cases h
    exact ⟨e, rfl⟩
  · cases h

section
variable {X : Cx} {c : C} {a b e : Expr} {fa fb f : E} {pos : Pos}
theorem d_gen {i k : Nat} {kp : Pos} {j : Nat} (h : PE X a (tVar i)) : PE X (.Subscript a (.Constant (.int (k : Nat)) j kp) pos) (tP c (eG i k)) := (pe_ix ix_list h pe_int (fun _ _ => rfl)).imp fun σ H Q ⟨H0, F, δ, g, d, g', w, o, q⟩ => by
  unfold eG at o
  split at o
  · rename_i e1
    obtain ⟨n, hn, rfl, rfl⟩ := ok_getG o
    obtain ⟨v, e2, r⟩ := w.val i _ e1
    cases r with
    | @gen _ p hp =>
      obtain ⟨q1, q2⟩ := w.gen.gen p hp
      refine ⟨_, e2, ⟨p, g'.map V.int, (k : Nat), .int n, rfl, rfl, SqL.of q2, ?_, q _ F H (.refl w.le w.gen) (.int n)⟩⟩
      obtain ⟨hl, hh⟩ := List.getElem?_eq_some_iff.mp hn
      unfold atI
      rw [show ixN (g'.map V.int).length (k : Nat) = some k by
        unfold ixN
        rw [if_pos (by omega), if_pos (by simpa using hl)]
        simp]
      show (g'.map V.int)[k]? = some (V.int n)
      rw [List.getElem?_map, hn]
      rfl
  · exact absurd o not_ok_stuck
theorem Wd.putG {H0 F H : Hp} {σ : L2.St} {δ : Dlt} {g g' : Gs} {p : Addr} (w : Wd c H0 F H σ δ g) (hp : c.ga = some p) : Wd c H0 F (upd H p (.lst (g'.map V.int))) σ δ g' := by
  obtain ⟨q1, q2⟩ := w.gen.gen p hp
  refine ⟨fun b u e => ?_, ⟨fun b n => ?_, fun b u e => by rw [upd_ne (ne_of_none e (w.gen.nb p hp))]; exact w.gen.bo b u e, w.gen.nb⟩, w.len, w.val, fun j xs h => ?_, w.apart, w.bo0⟩
  · rw [upd_ne (ne_of_none e q1)]; exact w.le b u e
  · rw [hp] at n; cases n
    exact ⟨q1, upd_same⟩
  · obtain ⟨a, vs, e1, e2, e3, e4, e5, r⟩ := w.own j xs h
    exact ⟨a, vs, e1, by rw [upd_ne (fun z => e5 (by rw [z]; exact hp))]; exact e2, e3, e4, e5, r⟩
theorem Stp.putG {F0 H0 F H : Hp} {g g' : Gs} {p : Addr} (s : Stp c F0 H0 F H g) (hp : c.ga = some p) : Stp c F0 H0 F (upd H p (.lst (g'.map V.int))) g' := by
  obtain ⟨q1, q2⟩ := s.gen.gen p hp
  refine ⟨s.sub, fun b o n e => ?_, s.new, fun b u e => ?_, ⟨fun b n => ?_, fun b u e => by rw [upd_ne (ne_of_none e (s.gen.nb p hp))]; exact s.gen.bo b u e, s.gen.nb⟩⟩
  · rw [upd_ne (fun z => n (by rw [z]; exact hp))]; exact s.ext b o n e
  · rw [upd_ne (ne_of_none e q1)]; exact s.le b u e
  · rw [hp] at n; cases n
    exact ⟨q1, upd_same⟩
theorem ds_gen {i k j : Nat} {kp p2 : Pos} (hv : PE X a (tVar i)) (he : PE X e (tP c f))
    (ha : ∀ v, assign (.Subscript a (.Constant (.int (k : Nat)) j kp) p2) X.env v = (do
      let ov ← holding [v] (eval a X.env)
      let iv ← holding [v, ov] (eval (.Constant (.int (k : Nat)) j kp) X.env)
      standAt p2
      holding [v, ov, iv] (setItem ov iv v)
      release [v, ov, iv] []) := by intro _; rfl)
    (hs : swapsWithSole [.Subscript a (.Constant (.int (k : Nat)) j kp) p2] e pos.line X.env = pure false := by rfl) (hw : swappedStores [.Subscript a (.Constant (.int (k : Nat)) j kp) p2] e X.env = pure none := by rfl)
    (h1 : (assignEach [.Subscript a (.Constant (.int (k : Nat)) j kp) p2] X.env).map (·.2) = [assign (.Subscript a (.Constant (.int (k : Nat)) j kp) p2) X.env] := by rfl) :
    PS X (.Assign [.Subscript a (.Constant (.int (k : Nat)) j kp) p2] e pos) (tS c (sG i k f)) := (ps_asg he (pg_sub hv pe_int set_list ha) hs hw h1).imp fun D σ H ⟨F0, H0, F, δ, g, r, g', w, sp, o, q⟩ => by
  obtain ⟨d, g1, o1, o⟩ := ok_bind.mp o
  split at o
  · rename_i n e1
    obtain ⟨u, g2, o2, o⟩ := ok_bind.mp o
    obtain ⟨rfl, rfl⟩ := ok_pure.mp o
    obtain ⟨hk, rfl⟩ := ok_putG o2
    refine ⟨H0, F, δ, g, _, g1, w, o1, fun v F1 H1 s1 r1 => ?_⟩
    cases r1
    have w1 := w.step s1
    obtain ⟨x, e2, rx⟩ := w1.val i _ e1
    cases rx with
    | @gen _ p hp =>
      obtain ⟨q1, q2⟩ := w1.gen.gen p hp
      refine ⟨_, e2, p, g1.map V.int, (k : Nat), k, rfl, rfl, q2, ?_, ?_⟩
      · unfold ixN
        rw [if_pos (by omega), if_pos (by simpa using hk)]
        simp
      · have em : (g1.map V.int).set k (V.int n) = (g1.set k n).map V.int := by rw [List.map_set]
        rw [em]
        exact q σ F1 _ (w1.putG hp) ((sp.trans s1).putG hp) s1.sub
  · exact absurd o not_ok_stuck
/-- e.bit_length() -/
theorem d_bits {apos : Pos} (h : PE X e (tR c f)) (hbase : attributeBase e "bit_length" X.env (eval e X.env) = eval e X.env := by rfl) (hline : (apos.endLine == pos.line) = true := by rfl) : PE X (.Call (.Attribute e "bit_length" apos) [] [] pos) (tP c (eF dBits f)) :=
  (pe_bits h hbase hline).imp fun σ H Q ⟨H0, F, δ, g, d, g', w, o, q⟩ => by
    obtain ⟨x, g1, o1, o⟩ := ok_bind.mp o
    unfold dBits at o
    split at o
    · obtain ⟨rfl, rfl⟩ := ok_pure.mp o
      refine ⟨H0, F, δ, g, _, g1, w, o1, fun v F1 H1 s1 r1 => ?_⟩
      have r1 := r1.rep rfl
      cases r1
      exact ⟨_, rfl, q _ F1 H1 s1 (.int _)⟩
    · exact absurd o not_ok_stuck
theorem op_powW : OpR X (binaryOp .Pow) (rI (fun i j => 0 ≤ j ∧ (Builtin.Int.intBits i : Int) * j ≤ 2 ^ 27) fun i j => .int (i ^ j.toNat)) := opI fun _ _ _ _ _ _ _ hc q => PyProof.Rows.pow_int hc.1 hc.2 q
theorem pow_d : OpR X (binaryOp .Pow) (oD c dPow) := by
  intro pins s σ H x y v u Q I rx ry h
  obtain ⟨F, d, e, d', g, g', le, gen, r1, r2, o, q⟩ := h
  unfold dPow at o
  split at o
  · split at o
    · rename_i hc
      obtain ⟨rfl, rfl⟩ := ok_pure.mp o
      have a1 := r1.rep rfl
      have a2 := r2.rep rfl
      cases a1; cases a2
      exact op_powW pins s σ H _ _ v u Q I rx ry ⟨_, _, rfl, rfl, hc, q _ F H (.refl le gen) (.int _)⟩
    · exact absurd o not_ok_stuck
  · exact absurd o not_ok_stuck
theorem RepAll.eraseIdx {F : Hp} : ∀ {vs : List V} {ds : List D} (i : Nat), RepAll c F vs ds → RepAll c F (vs.eraseIdx i) (ds.eraseIdx i)
  | _, _, _, .nil => .nil
  | _, _, 0, .cons _ t => t
  | _, _, i + 1, .cons r t => .cons r (RepAll.eraseIdx i t)
/-- x.append(y.pop(e)) -/
theorem ds_apop {i j : Nat} {apos apos2 pos2 p2 : Pos} (hv : PE X a (tVar i)) (hv2 : PE X b (tVar j)) (he : PE X e (tP c f)) (hbase2 : attributeBase b "pop" X.env (eval b X.env) = eval b X.env := by rfl)
    (hfew2 : ((backTo pos2 (starEach [e] X.env)).all (fun x => !x.1) && (backToKw pos2 (keywordEach [] X.env)).all (fun x => x.1.isSome) && decide ([e].length + ([] : List Keyword).length + (if ([] : List Keyword).isEmpty then 0 else 1) < 30)) = true := by rfl)
    (hline2 : (apos2.endLine == pos2.line) = true := by rfl) (hs2 : starEach [e] X.env = (false, eval e X.env) :: starEach [] X.env := by rfl)
    (hbase : attributeBase a "append" X.env (eval a X.env) = eval a X.env := by rfl)
    (hfew : ((backTo pos (starEach [.Call (.Attribute b "pop" apos2) [e] [] pos2] X.env)).all (fun x => !x.1) && (backToKw pos (keywordEach [] X.env)).all (fun x => x.1.isSome) && decide ([Expr.Call (.Attribute b "pop" apos2) [e] [] pos2].length + ([] : List Keyword).length + (if ([] : List Keyword).isEmpty then 0 else 1) < 30)) = true := by rfl)
    (hline : (apos.endLine == pos.line) = true := by rfl) (hs : starEach [.Call (.Attribute b "pop" apos2) [e] [] pos2] X.env = (false, eval (.Call (.Attribute b "pop" apos2) [e] [] pos2) X.env) :: starEach [] X.env := by rfl)
    (hsw : swapsWith (.Call (.Attribute a "append" apos) [.Call (.Attribute b "pop" apos2) [e] [] pos2] [] pos) none p2.line X.env = pure false := by rfl) :
    PS X (.Expr (.Call (.Attribute a "append" apos) [.Call (.Attribute b "pop" apos2) [e] [] pos2] [] pos) p2) (tS c (sAppPop i j f)) :=
  (ps_expr (pe_bm PySem.F.plainAttrs_list PySem.F.slot_list_append PySem.F.type_list_append mt_append hv
    (pa_cons (pe_bm PySem.F.plainAttrs_list PySem.F.slot_list_pop PySem.F.type_list_pop mt_popAt hv2 (pa_cons he pa_nil hs2) hbase2 hfew2 hline2 hs2 rfl) pa_nil hs) hbase hfew hline hs rfl) hsw).imp fun D σ H ⟨F0, H0, F, δ, g, r, g', w, sp, o, q⟩ => by
    obtain ⟨d, g1, o1, o⟩ := ok_bind.mp o
    split at o
    · rename_i k xs ys hx hy
      split at o
      · rename_i m hm
        split at o
        · rename_i y hym
          split at o
          · rename_i hc
            obtain ⟨hl, hk1, hk2, hij⟩ := hc
            obtain ⟨rfl, rfl⟩ := ok_pure.mp o
            obtain ⟨p, vs, e1, e2, e3, e4, e5, ra⟩ := w.own i xs hx
            obtain ⟨p', vs', b1, b2, b3, b4, b5, rb⟩ := w.own j ys hy
            have hpp : p ≠ p' := fun z => by
              have q := w.apart i j xs ys hij hx hy
              rw [e1, b1, z] at q
              exact q rfl
            refine ⟨.ref p, e1, .inl ⟨rfl, vs, SqL.of e2⟩, .ref p', b1, .inl ⟨rfl, vs', SqL.of b2⟩, H0, F, δ, g, _, g1, w, o1, fun v F1 H1 s1 r1 => ?_⟩
            cases r1
            have w1 := w.step s1
            obtain ⟨_, _, a1, a2, a3, _, _, ra1⟩ := w1.own i xs hx
            obtain ⟨_, _, c1, c2, c3, _, _, rb1⟩ := w1.own j ys hy
            rw [e1] at a1; cases a1
            rw [b1] at c1; cases c1
            obtain ⟨z, hz, rz⟩ := rb1.get hym
            have hp : seqIndex? k ys.length = some m := (ixN_seq (show ixN ys.length k = some m from hm)).1
            refine ⟨p', _, k, m, z, rfl, rfl, c2, hk1, hk2, ?_, hz, ?_⟩
            · rw [rb1.length]; exact hp
            have w2 := w1.turn hy b1 (rb1.eraseIdx m)
            have hx2 : (δ.set j (Sl.own (ys.eraseIdx m)))[i]? = some (Sl.own xs) := by rw [List.getElem?_set_ne (Ne.symm hij)]; exact hx
            obtain ⟨_, us, a4, a5, a6, _, _, ra2⟩ := w2.own i xs hx2
            rw [e1] at a4; cases a4
            refine ⟨p, us, z, rfl, rfl, a5, ?_, ?_⟩
            · rw [ra2.length]
              have := lim_le hl
              omega
            · exact q σ F1 _ (w2.turn hx2 e1 (ra2.append (.cons rz .nil))) (((sp.trans s1).turn c3 b4 b5 w.bo0).turn a3 e4 e5 w.bo0) s1.sub
          · exact absurd o not_ok_stuck
        · exact absurd o not_ok_stuck
      · exact absurd o not_ok_stuck
    · exact absurd o not_ok_stuck
end
end DL

/-! ## DZipA -/
set_option Elab.async false
set_option autoImplicit false
set_option linter.all false
set_option maxRecDepth 100000
set_option maxHeartbeats 4000000
/-! DZipA: zip of two lists that must be of one length. -/
namespace DZ
open PySem PySem.Spec PyProof.Rows
open Sem (wp)
abbrev IsZipS (h : Heap) (z TI TO : Addr) (f0 : Value) : Prop :=
  h.get? z = some { cls := .type "zip", dict := none, data := .fields #[f0, .bool false, .bool true, .ref TI, .ref TO], slots := #[] }
section
variable {prog : Program} {w : World} {A : Around} {E : Value → Shared → Prop} {s : Shared}
theorem nextOrEnd_item {it l : Addr} {i : Nat} {items : Array Value} {x : Value} {Q : Option Value → Shared → Prop} (hit : s.heap.IsListIter it l i) (hl : s.heap.IsList l items) (hx : items[i]? = some x)
    (hQ : ∀ h', h'.IsListIter it l (i + 1) → Heap.SameBut it s.heap h' → Q (some x) { s with heap := h' }) : wpAny (model prog w) A (Builtin.SmallTypes.nextOrEnd (.ref it)) Q E s := by
  unfold Builtin.SmallTypes.nextOrEnd
  exact wpAny_bind (wpAny_attempt (wpAny_nextOf_list_item hit hl hx fun h' h1 h2 => wpAny_pure (hQ h' h1 h2)))
theorem nextOrEnd_end {it l : Addr} {i : Nat} {items : Array Value} {Q : Option Value → Shared → Prop} (hh : A.handled = none) (hit : s.heap.IsListIter it l i) (hl : s.heap.IsList l items) (hx : items[i]? = none)
    (hQ : ∀ h', Heap.ExtBut it s.heap h' → Q none { s with heap := h' }) : wpAny (model prog w) A (Builtin.SmallTypes.nextOrEnd (.ref it)) Q E s := by
  unfold Builtin.SmallTypes.nextOrEnd
  refine wpAny_bind (wpAny_attempt (wpAny_nextOf_list_end hh hit hl hx fun h' e hs he => ?_))
  obtain ⟨o, ho, hc⟩ := he
  refine wpAny_bind (wpAny_isInstance (T := "StopIteration") (b := true) ⟨o, ho, hc⟩ isSubtype_stop ?_)
  exact wpAny_pure (hQ _ hs)
theorem zipS_next_item {z TI TO i1 i2 l1 l2 : Addr} {k1 k2 : Nat} {xs ys : Array Value} {x y a b : Value} {Q : Value → Shared → Prop} (D : ZipApart z TI TO i1 i2 l1 l2)
    (hz : IsZipS s.heap z TI TO .none) (hTI : IsPair s.heap TI (.ref i1) (.ref i2)) (hTO : IsPair s.heap TO a b)
    (h1 : s.heap.IsListIter i1 l1 k1) (h2 : s.heap.IsListIter i2 l2 k2) (hl1 : s.heap.IsList l1 xs) (hl2 : s.heap.IsList l2 ys) (hx : xs[k1]? = some x) (hy : ys[k2]? = some y)
    (hQ : ∀ h', IsZipS h' z TI TO (rawInt s.heap.objs.size) → IsPair h' TO x y → h'.IsListIter i1 l1 (k1 + 1) → h'.IsListIter i2 l2 (k2 + 1) → IsPair h' s.heap.objs.size x y → h'.objs.size = s.heap.objs.size + 1 →
      (∀ c o, c ≠ z → c ≠ TO → c ≠ i1 → c ≠ i2 → s.heap.get? c = some o → h'.get? c = some o) → Q (.ref s.heap.objs.size) { s with heap := h' }) :
    wpAny (model prog w) A (Builtin.«zip.__next__» ⟨[.ref z], []⟩) (fun fin s' => ∃ v, fin = .done (.ret v) ∧ Q v s') E s := by
  show wpAny _ _ (field (.ref z) 2 >>= _) _ _ _
  refine wpAny_bind (wpAny_field hz rfl (x := .bool true) rfl ?_)
  show wpAny _ _ (field (.ref z) 3 >>= _) _ _ _
  refine wpAny_bind (wpAny_field hz rfl (x := .ref TI) rfl ?_)
  refine wpAny_bind (wpAny_seqItems hTI rfl ?_)
  show wpAny _ _ (Builtin.SmallTypes.ownedTupleIsFree (.ref z) >>= _) _ _ _
  refine wpAny_bind ?_
  unfold Builtin.SmallTypes.ownedTupleIsFree
  refine wpAny_bind (wpAny_field hz rfl (x := .none) rfl (wpAny_pure ?_))
  simp only [if_true]
  refine wpAny_bind (wpAny_rule ?_)
  refine wpAny_bind (wpAny_field hz rfl (x := .ref TO) rfl ?_)
  refine wpAny_bind (wpAny_setField_rec hz (by simp) fun h₁ hz₁ hs₁ => ?_)
  replace hz₁ : IsZipS h₁ z TI TO .ellipsis := hz₁
  refine wpAny_bind ?_
  simp only [List.zipIdx_cons, List.zipIdx_nil, List.forIn_cons, List.forIn_nil]
  refine wpAny_bind (wpAny_bind (wpAny_onRaise ?_))
  show wpAny _ _ (Builtin.SmallTypes.nextOrEnd (.ref i1)) _ _ _
  refine nextOrEnd_item (h1.extBut hs₁.extBut D.i1z) (hl1.extBut hs₁.extBut D.l1z) hx fun h₂ h1₂ hs₂ => ?_
  have hTO₂ : IsPair h₂ TO a b := hs₂.extBut _ _ D.TOi1 (hs₁.extBut _ _ D.TOz hTO)
  refine wpAny_bind (wpAny_seqItems hTO₂ rfl ?_)
  refine wpAny_bind (wpAny_updateSeq_pair hTO₂ fun h₃ hTO₃ hs₃ => ?_)
  replace hTO₃ : IsPair h₃ TO x b := hTO₃
  refine wpAny_bind (wpAny_letGo (wpAny_pure ?_))
  refine wpAny_bind (wpAny_bind (wpAny_onRaise ?_))
  show wpAny _ _ (Builtin.SmallTypes.nextOrEnd (.ref i2)) _ _ _
  refine nextOrEnd_item (((h2.extBut hs₁.extBut D.i2z).extBut hs₂.extBut D.i12.symm).extBut hs₃.extBut D.TOi2.symm)
    (((hl2.extBut hs₁.extBut D.l2z).extBut hs₂.extBut D.l2i1).extBut hs₃.extBut D.l2TO) hy fun h₄ h2₄ hs₄ => ?_
  have hTO₄ : IsPair h₄ TO x b := hs₄.extBut _ _ D.TOi2 hTO₃
  refine wpAny_bind (wpAny_seqItems hTO₄ rfl ?_)
  refine wpAny_bind (wpAny_updateSeq_pair hTO₄ fun h₅ hTO₅ hs₅ => ?_)
  replace hTO₅ : IsPair h₅ TO x y := hTO₅
  refine wpAny_bind (wpAny_letGo (wpAny_pure (wpAny_pure ?_)))
  refine wpAny_bind (wpAny_seqItems hTO₅ rfl ?_)
  refine wpAny_bind (wpAny_newTuple ?_)
  have hsz : h₅.objs.size = s.heap.objs.size := by rw [hs₅.1, hs₄.1, hs₃.1, hs₂.1, hs₁.1]
  have hz₅ : IsZipS h₅ z TI TO .ellipsis := hs₅.extBut _ _ D.TOz.symm (hs₄.extBut _ _ D.i2z.symm (hs₃.extBut _ _ D.TOz.symm (hs₂.extBut _ _ D.i1z.symm hz₁)))
  have hk₅ : ∀ c o, c ≠ z → c ≠ TO → c ≠ i1 → c ≠ i2 → s.heap.get? c = some o → h₅.get? c = some o := fun c o c1 c2 c3 c4 e =>
    hs₅.extBut _ _ c2 (hs₄.extBut _ _ c4 (hs₃.extBut _ _ c2 (hs₂.extBut _ _ c3 (hs₁.extBut _ _ c1 e))))
  have h1₅ : h₅.IsListIter i1 l1 (k1 + 1) := ((h1₂.extBut hs₃.extBut D.TOi1.symm).extBut hs₄.extBut D.i12).extBut hs₅.extBut D.TOi1.symm
  have h2₅ : h₅.IsListIter i2 l2 (k2 + 1) := h2₄.extBut hs₅.extBut D.TOi2.symm
  have hzlt : z < h₅.objs.size := Heap.lt_size hz₅
  have hTOlt : TO < h₅.objs.size := Heap.lt_size hTO₅
  have hi1lt : i1 < h₅.objs.size := by obtain ⟨_, e, _⟩ := h1₅; exact Heap.lt_size e
  have hi2lt : i2 < h₅.objs.size := by obtain ⟨_, e, _⟩ := h2₅; exact Heap.lt_size e
  show wpAny _ _ (Builtin.SmallTypes.ownedTupleHandOut (.ref z) (.ref h₅.objs.size) >>= _) _ _ _
  refine wpAny_bind ?_
  unfold Builtin.SmallTypes.ownedTupleHandOut
  have hz₆ : IsZipS (h₅.push { cls := .type "tuple", data := .seq #[x, y] }) z TI TO .ellipsis := Heap.get?_push_of_some _ hz₅
  refine wpAny_bind (wpAny_setField_rec hz₆ (by simp) fun h₇ hz₇ hs₇ => ?_)
  replace hz₇ : IsZipS h₇ z TI TO (rawInt h₅.objs.size) := hz₇
  refine wpAny_setField_rec hz₇ (by simp) fun h₈ hz₈ hs₈ => ?_
  replace hz₈ : IsZipS h₈ z TI TO (rawInt h₅.objs.size) := hz₈
  have up : ∀ c o, c ≠ z → h₅.get? c = some o → h₈.get? c = some o := fun c o c1 e => hs₈.extBut _ _ c1 (hs₇.extBut _ _ c1 (Heap.get?_push_of_some _ e))
  have hT₈ : IsPair h₈ h₅.objs.size x y := hs₈.extBut _ _ (Nat.ne_of_gt hzlt) (hs₇.extBut _ _ (Nat.ne_of_gt hzlt) (Heap.get?_push_size _ rfl))
  have hz8 : h₈.objs.size = h₅.objs.size + 1 := by rw [hs₈.1, hs₇.1, Heap.size_push]
  rw [hsz] at hz₈ hT₈ hz8
  refine wpAny_pure ⟨_, rfl, ?_⟩
  show Q (.ref h₅.objs.size) _
  rw [hsz]
  exact hQ h₈ hz₈ (up _ _ D.TOz hTO₅) (h1₅.at fun o e => up _ o D.i1z e) (h2₅.at fun o e => up _ o D.i2z e) hT₈ hz8 fun c o c1 c2 c3 c4 e => up c o c1 (hk₅ c o c1 c2 c3 c4 e)

theorem zipS_next_end {z TI TO i1 i2 l1 l2 : Addr} {k1 k2 : Nat} {xs ys : Array Value} {a b : Value} {Q : Fin → Shared → Prop} (hh : A.handled = none) (D : ZipApart z TI TO i1 i2 l1 l2)
    (hz : IsZipS s.heap z TI TO .none) (hTI : IsPair s.heap TI (.ref i1) (.ref i2)) (hTO : IsPair s.heap TO a b)
    (h1 : s.heap.IsListIter i1 l1 k1) (h2 : s.heap.IsListIter i2 l2 k2) (hl1 : s.heap.IsList l1 xs) (hl2 : s.heap.IsList l2 ys) (hx : xs[k1]? = none) (hy : ys[k2]? = none)
    (hE : ∀ h' e, (∀ c o, c ≠ z → c ≠ TO → c ≠ i1 → c ≠ i2 → s.heap.get? c = some o → h'.get? c = some o) → (∃ o, h'.get? e = some o ∧ o.cls = .type "StopIteration") → E (.ref e) { s with heap := h' }) :
    wpAny (model prog w) A (Builtin.«zip.__next__» ⟨[.ref z], []⟩) Q E s := by
  show wpAny _ _ (field (.ref z) 2 >>= _) _ _ _
  refine wpAny_bind (wpAny_field hz rfl (x := .bool true) rfl ?_)
  show wpAny _ _ (field (.ref z) 3 >>= _) _ _ _
  refine wpAny_bind (wpAny_field hz rfl (x := .ref TI) rfl ?_)
  refine wpAny_bind (wpAny_seqItems hTI rfl ?_)
  show wpAny _ _ (Builtin.SmallTypes.ownedTupleIsFree (.ref z) >>= _) _ _ _
  refine wpAny_bind ?_
  unfold Builtin.SmallTypes.ownedTupleIsFree
  refine wpAny_bind (wpAny_field hz rfl (x := .none) rfl (wpAny_pure ?_))
  simp only [if_true]
  refine wpAny_bind (wpAny_rule ?_)
  refine wpAny_bind (wpAny_field hz rfl (x := .ref TO) rfl ?_)
  refine wpAny_bind (wpAny_setField_rec hz (by simp) fun h₁ hz₁ hs₁ => ?_)
  replace hz₁ : IsZipS h₁ z TI TO .ellipsis := hz₁
  refine wpAny_bind ?_
  simp only [List.zipIdx_cons, List.zipIdx_nil, List.forIn_cons, List.forIn_nil]
  refine wpAny_bind (wpAny_bind (wpAny_onRaise ?_))
  show wpAny _ _ (Builtin.SmallTypes.nextOrEnd (.ref i1)) _ _ _
  refine nextOrEnd_end hh (h1.extBut hs₁.extBut D.i1z) (hl1.extBut hs₁.extBut D.l1z) hx fun h₂ hs₂ => ?_
  have hz₂ : IsZipS h₂ z TI TO .ellipsis := hs₂ _ _ D.i1z.symm hz₁
  refine wpAny_bind (wpAny_setField_rec hz₂ (by simp) fun h₃ hz₃ hs₃ => ?_)
  have h2₃ : h₃.IsListIter i2 l2 k2 := ((h2.extBut hs₁.extBut D.i2z).extBut hs₂ D.i12.symm).extBut hs₃.extBut D.i2z
  have hl2₃ : h₃.IsList l2 ys := ((hl2.extBut hs₁.extBut D.l2z).extBut hs₂ D.l2i1).extBut hs₃.extBut D.l2z
  refine wpAny_bind ?_
  show wpAny _ _ (forIn (m := Sem) [(Value.ref i2, 1)] _ _ >>= _) _ _ _
  refine wpAny_bind ?_
  simp only [List.forIn_cons, List.forIn_nil]
  refine wpAny_bind ?_
  refine wpAny_bind (nextOrEnd_end hh h2₃ hl2₃ hy fun h₄ hs₄ => ?_)
  rw [if_neg (by simp)]
  refine wpAny_pure (wpAny_pure (wpAny_bind (wpAny_rule ?_)))
  show wpAny _ _ (newExc (.type "StopIteration") [] >>= _) _ _ _
  refine wpAny_bind ?_
  simp only [newExc, newTuple]
  refine wpAny_bind (wpAny_newObj_type ?_ (by size_fits))
  refine wpAny_bind (m := firstArgMember _ _) (wpAny_of_eq (a := Value.none) (by first | rfl | (simp only [firstArgMember]; rfl)) ?_)
  refine wpAny_newObj_type ?_ (by size_fits)
  simp only [raiseNew]
  refine wpAny_bind (wpAny_handled ?_)
  first | rw [show A.in1.handled = none from hh] | rw [hh]
  refine wpAny_bind (wpAny_pure (wpAny_throw ?_))
  exact hE _ _ (fun c o c1 c2 c3 c4 e => Heap.get?_push_of_some _ (Heap.get?_push_of_some _ (hs₄ _ _ c4 (hs₃.extBut _ _ c1 (hs₂ _ _ c3 (hs₁.extBut _ _ c1 e)))))) ⟨_, Heap.get?_push_size _ rfl, rfl⟩
theorem wpAny_pyNext_zipS_item {z TI TO i1 i2 l1 l2 : Addr} {k1 k2 : Nat} {xs ys : Array Value} {x y a b : Value} {Q : Option Value → Shared → Prop} (D : ZipApart z TI TO i1 i2 l1 l2)
    (hz : IsZipS s.heap z TI TO .none) (hTI : IsPair s.heap TI (.ref i1) (.ref i2)) (hTO : IsPair s.heap TO a b)
    (h1 : s.heap.IsListIter i1 l1 k1) (h2 : s.heap.IsListIter i2 l2 k2) (hl1 : s.heap.IsList l1 xs) (hl2 : s.heap.IsList l2 ys) (hx : xs[k1]? = some x) (hy : ys[k2]? = some y)
    (hQ : ∀ h', IsZipS h' z TI TO (rawInt s.heap.objs.size) → IsPair h' TO x y → h'.IsListIter i1 l1 (k1 + 1) → h'.IsListIter i2 l2 (k2 + 1) → IsPair h' s.heap.objs.size x y → h'.objs.size = s.heap.objs.size + 1 →
      (∀ c o, c ≠ z → c ≠ TO → c ≠ i1 → c ≠ i2 → s.heap.get? c = some o → h'.get? c = some o) → Q (some (.ref s.heap.objs.size)) { s with heap := h' }) :
    wpAny (model prog w) A (pyNext (.ref z)) Q E s := by
  have hT : s.TypeIs (.ref z) "zip" := ⟨_, hz, rfl⟩
  unfold pyNext
  exact wpAny_bind (wpAny_attempt (wpAny_callSpecial?_slot (name := Str.ofString "__next__") hT F.slot_zip_next
    (wpAny_call_entry F.slot_zip_next hT F.entry_zip_next
      (zipS_next_item D hz hTI hTO h1 h2 hl1 hl2 hx hy fun h' a1 a2 a3 a4 a5 a6 a7 => wpAny_pure (hQ h' a1 a2 a3 a4 a5 a6 a7)) (F.args_zip_next_1 _))))
theorem wpAny_pyNext_zipS_end {z TI TO i1 i2 l1 l2 : Addr} {k1 k2 : Nat} {xs ys : Array Value} {a b : Value} {Q : Option Value → Shared → Prop} (hh : A.handled = none) (D : ZipApart z TI TO i1 i2 l1 l2)
    (hz : IsZipS s.heap z TI TO .none) (hTI : IsPair s.heap TI (.ref i1) (.ref i2)) (hTO : IsPair s.heap TO a b)
    (h1 : s.heap.IsListIter i1 l1 k1) (h2 : s.heap.IsListIter i2 l2 k2) (hl1 : s.heap.IsList l1 xs) (hl2 : s.heap.IsList l2 ys) (hx : xs[k1]? = none) (hy : ys[k2]? = none)
    (hQ : ∀ h', (∀ c o, c ≠ z → c ≠ TO → c ≠ i1 → c ≠ i2 → s.heap.get? c = some o → h'.get? c = some o) → Q none { s with heap := h' }) : wpAny (model prog w) A (pyNext (.ref z)) Q E s := by
  have hT : s.TypeIs (.ref z) "zip" := ⟨_, hz, rfl⟩
  unfold pyNext
  refine wpAny_bind (wpAny_attempt (wpAny_callSpecial?_slot (name := Str.ofString "__next__") hT F.slot_zip_next
    (wpAny_call_entry F.slot_zip_next hT F.entry_zip_next (zipS_next_end hh D hz hTI hTO h1 h2 hl1 hl2 hx hy fun h' e hk he => ?_) (F.args_zip_next_1 _))))
  obtain ⟨o, ho, hc⟩ := he
  refine wpAny_bind (wpAny_isInstance (T := "StopIteration") (b := true) ⟨o, ho, hc⟩ isSubtype_stop ?_)
  exact wpAny_pure (hQ _ hk)
theorem wpAny_letOwnedTupleGo_zipS {elts : List Expr} {x1 : Nat} {pos : Pos} {z TI TO T : Addr} {Q : Unit → Shared → Prop} (hz : IsZipS s.heap z TI TO (rawInt T))
    (hQ : ∀ h', IsZipS h' z TI TO .none → Heap.SameBut z s.heap h' → Q () { s with heap := h' }) :
    wpAny (model prog w) A (letOwnedTupleGo (.Tuple elts x1 pos) (.ref z) (.ref T)) Q E s := by
  unfold letOwnedTupleGo
  refine wpAny_bind (wpAny_load hz ?_)
  show wpAny _ _ (if (["enumerate", "zip", "dict_itemiterator", "dict_reverseitemiterator", "odict_iterator", "itertools.zip_longest", "itertools.pairwise"].contains "zip" &&
      (#[rawInt T, .bool false, .bool true, .ref TI, .ref TO] : Array Value)[0]? == some (rawInt T)) = true then _ else _) Q E s
  rw [if_pos (by simp)]
  refine wpAny_bind (wpAny_rule ?_)
  show wpAny _ _ (setField (.ref z) 0 .none) Q E s
  exact wpAny_setField_rec hz (by simp) fun h' hz' hs' => hQ h' hz' hs'
theorem wpAny_pyIter_zipS {z TI TO : Addr} {f0 : Value} {Q : Value → Shared → Prop} (hz : IsZipS s.heap z TI TO f0) (h : Q (.ref z) s) : wpAny (model prog w) A (pyIter (.ref z)) Q E s := by
  have hT : s.TypeIs (.ref z) "zip" := ⟨_, hz, rfl⟩
  refine wpAny_pyIter_slot hT F.slot_zip_iter (wpAny_call_entry F.slot_zip_iter hT F.entry_zip_iter ?_ (F.args_zip_iter_1 _))
  show wpAny _ _ (ret (.ref z)) _ _ s
  exact wpAny_pure ⟨_, rfl, "zip", _, hT, F.slot_zip_next.lookup, h⟩
end
/-! ### its making -/
theorem typeCall_zipS (a b v : Value) : checkTypeCall "zip" ⟨[a, b], [(Str.ofString "strict", v)]⟩ = pure () := by kernel_rfl
theorem newCall_zipS (a b v : Value) : checkBuiltinCall "zip.__new__" ⟨[.type "zip", a, b], [(Str.ofString "strict", v)]⟩ = pure () := by kernel_rfl
theorem args_initS (o a b v : Value) : argsOk "object.__init__" ⟨[o, a, b], [(Str.ofString "strict", v)]⟩ := by unfold argsOk; kernel_rfl
abbrev zipHS (h : Heap) (l1 l2 : Addr) : Heap := (zipH4 h l1 l2).push { cls := .type "zip", data := .fields #[.none, .bool false, .bool true, .ref (zipH2 h l1 l2).objs.size, .ref (zipH3 h l1 l2).objs.size] }
theorem meets_zip_newS (l1 l2 : Addr) (xs ys : Array Value) :
    Meets (Builtin.«zip.__new__» ⟨[.type "zip", .ref l1, .ref l2], [(Str.ofString "strict", .bool true)]⟩) (fun _ R s => s.heap.IsList l1 xs ∧ s.heap.IsList l2 ys ∧
      R (.ok (.ret (.ref (zipH4 s.heap l1 l2).objs.size))) { s with heap := zipHS s.heap l1 l2 }) :=
  .of_wp fun prog w A R s h => by
    obtain ⟨hp, g, d, tk, os⟩ := s; obtain ⟨hl1, hl2, h⟩ := h
    have hsub := sub_zip
    have hL1 : Heap.IsList (Shared.heap ⟨hp, g, d, tk, os⟩) l1 xs := hl1
    have hL2 : Heap.IsList (Shared.heap ⟨hp.push { cls := .type "list_iterator", data := .fields #[.ref l1, .int 0 0] }, g, d, tk, os⟩) l2 ys := Heap.IsList.push hl2 _
    have e2 : (Str.ofString "strict" != ("strict" : Str)) = false := by decide +kernel
    wp_walk using wpAny_pyIter_list hL1, wpAny_pyIter_list hL2
    exact ⟨_, rfl, h⟩
end DZ

/-! ## DZipB -/
set_option Elab.async false
set_option autoImplicit false
set_option linter.all false
set_option maxRecDepth 100000
set_option maxHeartbeats 4000000
/-! DZipB: zip of three lists. -/
namespace DZ
open PySem PySem.Spec PyProof.Rows
open Sem (wp)
abbrev IsTri (h : Heap) (T : Addr) (a b c : Value) : Prop := h.get? T = some { cls := .type "tuple", data := .seq #[a, b, c] }
structure Ap3 (z TI TO i1 i2 i3 l1 l2 l3 : Addr) : Prop where
  TIz : TI ≠ z
  TOz : TO ≠ z
  i1z : i1 ≠ z
  i2z : i2 ≠ z
  i3z : i3 ≠ z
  TITO : TI ≠ TO
  TIi1 : TI ≠ i1
  TIi2 : TI ≠ i2
  TIi3 : TI ≠ i3
  TOi1 : TO ≠ i1
  TOi2 : TO ≠ i2
  TOi3 : TO ≠ i3
  i12 : i1 ≠ i2
  i13 : i1 ≠ i3
  i23 : i2 ≠ i3
  l1z : l1 ≠ z
  l1TO : l1 ≠ TO
  l1i1 : l1 ≠ i1
  l1i2 : l1 ≠ i2
  l1i3 : l1 ≠ i3
  l2z : l2 ≠ z
  l2TO : l2 ≠ TO
  l2i1 : l2 ≠ i1
  l2i2 : l2 ≠ i2
  l2i3 : l2 ≠ i3
  l3z : l3 ≠ z
  l3TO : l3 ≠ TO
  l3i1 : l3 ≠ i1
  l3i2 : l3 ≠ i2
  l3i3 : l3 ≠ i3
section
variable {prog : Program} {w : World} {A : Around} {E : Value → Shared → Prop} {s : Shared}
theorem updateSeq_tri {T : Addr} {a b c x : Value} {k : Nat} {Q : Unit → Shared → Prop} (hT : IsTri s.heap T a b c)
    (h : ∀ h', h'.get? T = some { cls := .type "tuple", data := .seq ((#[a, b, c] : Array Value).setIfInBounds k x) } → Heap.SameBut T s.heap h' → Q () { s with heap := h' }) :
    wpAny (model prog w) A (updateSeq T (·.setIfInBounds k x)) Q E s := by
  refine wpAny_updateSeq hT rfl (h _ ?_ (Heap.SameBut.update ..))
  rw [Heap.get?_update_self _ hT rfl]
  simp [Obj.mapSeq]
theorem zip3_next_item {z TI TO i1 i2 i3 l1 l2 l3 : Addr} {k : Nat} {xs ys vs : Array Value} {x y v a b d : Value} {Q : Value → Shared → Prop} (D : Ap3 z TI TO i1 i2 i3 l1 l2 l3)
    (hz : IsZip s.heap z TI TO .none) (hTI : IsTri s.heap TI (.ref i1) (.ref i2) (.ref i3)) (hTO : IsTri s.heap TO a b d)
    (h1 : s.heap.IsListIter i1 l1 k) (h2 : s.heap.IsListIter i2 l2 k) (h3 : s.heap.IsListIter i3 l3 k) (hl1 : s.heap.IsList l1 xs) (hl2 : s.heap.IsList l2 ys) (hl3 : s.heap.IsList l3 vs) (hx : xs[k]? = some x) (hy : ys[k]? = some y) (hv : vs[k]? = some v)
    (hQ : ∀ h', IsZip h' z TI TO (rawInt s.heap.objs.size) → IsTri h' TO x y v → h'.IsListIter i1 l1 (k + 1) → h'.IsListIter i2 l2 (k + 1) → h'.IsListIter i3 l3 (k + 1) → IsTri h' s.heap.objs.size x y v → h'.objs.size = s.heap.objs.size + 1 →
      (∀ c o, c ≠ z → c ≠ TO → c ≠ i1 → c ≠ i2 → c ≠ i3 → s.heap.get? c = some o → h'.get? c = some o) → Q (.ref s.heap.objs.size) { s with heap := h' }) :
    wpAny (model prog w) A (Builtin.«zip.__next__» ⟨[.ref z], []⟩) (fun fin s' => ∃ v, fin = .done (.ret v) ∧ Q v s') E s := by
  show wpAny _ _ (field (.ref z) 2 >>= _) _ _ _
  refine wpAny_bind (wpAny_field hz rfl (x := .bool false) rfl ?_)
  show wpAny _ _ (field (.ref z) 3 >>= _) _ _ _
  refine wpAny_bind (wpAny_field hz rfl (x := .ref TI) rfl ?_)
  refine wpAny_bind (wpAny_seqItems hTI rfl ?_)
  show wpAny _ _ (Builtin.SmallTypes.ownedTupleIsFree (.ref z) >>= _) _ _ _
  refine wpAny_bind ?_
  unfold Builtin.SmallTypes.ownedTupleIsFree
  refine wpAny_bind (wpAny_field hz rfl (x := .none) rfl (wpAny_pure ?_))
  simp only [if_true]
  refine wpAny_bind (wpAny_rule ?_)
  refine wpAny_bind (wpAny_field hz rfl (x := .ref TO) rfl ?_)
  refine wpAny_bind (wpAny_setField_rec hz (by simp) fun h₁ hz₁ hs₁ => ?_)
  replace hz₁ : IsZip h₁ z TI TO .ellipsis := hz₁
  refine wpAny_bind ?_
  simp only [List.zipIdx_cons, List.zipIdx_nil, List.forIn_cons, List.forIn_nil]
  refine wpAny_bind (wpAny_bind (wpAny_onRaise ?_))
  show wpAny _ _ (Builtin.SmallTypes.nextOf (.ref i1) >>= _) _ _ _
  refine wpAny_bind (wpAny_nextOf_list_item (h1.extBut hs₁.extBut D.i1z) (hl1.extBut hs₁.extBut D.l1z) hx fun h₂ h1₂ hs₂ => wpAny_pure ?_)
  have hTO₂ : IsTri h₂ TO a b d := hs₂.extBut _ _ D.TOi1 (hs₁.extBut _ _ D.TOz hTO)
  refine wpAny_bind (wpAny_seqItems hTO₂ rfl ?_)
  refine wpAny_bind (updateSeq_tri hTO₂ fun h₃ hTO₃ hs₃ => ?_)
  replace hTO₃ : IsTri h₃ TO x b d := hTO₃
  refine wpAny_bind (wpAny_letGo (wpAny_pure ?_))
  refine wpAny_bind (wpAny_bind (wpAny_onRaise ?_))
  show wpAny _ _ (Builtin.SmallTypes.nextOf (.ref i2) >>= _) _ _ _
  refine wpAny_bind (wpAny_nextOf_list_item (((h2.extBut hs₁.extBut D.i2z).extBut hs₂.extBut D.i12.symm).extBut hs₃.extBut D.TOi2.symm)
    (((hl2.extBut hs₁.extBut D.l2z).extBut hs₂.extBut D.l2i1).extBut hs₃.extBut D.l2TO) hy fun h₄ h2₄ hs₄ => wpAny_pure ?_)
  have hTO₄ : IsTri h₄ TO x b d := hs₄.extBut _ _ D.TOi2 hTO₃
  refine wpAny_bind (wpAny_seqItems hTO₄ rfl ?_)
  refine wpAny_bind (updateSeq_tri hTO₄ fun h₅ hTO₅ hs₅ => ?_)
  replace hTO₅ : IsTri h₅ TO x y d := hTO₅
  refine wpAny_bind (wpAny_letGo (wpAny_pure ?_))
  refine wpAny_bind (wpAny_bind (wpAny_onRaise ?_))
  show wpAny _ _ (Builtin.SmallTypes.nextOf (.ref i3) >>= _) _ _ _
  refine wpAny_bind (wpAny_nextOf_list_item (((((h3.extBut hs₁.extBut D.i3z).extBut hs₂.extBut D.i13.symm).extBut hs₃.extBut D.TOi3.symm).extBut hs₄.extBut D.i23.symm).extBut hs₅.extBut D.TOi3.symm)
    (((((hl3.extBut hs₁.extBut D.l3z).extBut hs₂.extBut D.l3i1).extBut hs₃.extBut D.l3TO).extBut hs₄.extBut D.l3i2).extBut hs₅.extBut D.l3TO) hv fun h₆ h3₆ hs₆ => wpAny_pure ?_)
  have hTO₆ : IsTri h₆ TO x y d := hs₆.extBut _ _ D.TOi3 hTO₅
  refine wpAny_bind (wpAny_seqItems hTO₆ rfl ?_)
  refine wpAny_bind (updateSeq_tri hTO₆ fun h₇ hTO₇ hs₇ => ?_)
  replace hTO₇ : IsTri h₇ TO x y v := hTO₇
  refine wpAny_bind (wpAny_letGo (wpAny_pure (wpAny_pure ?_)))
  refine wpAny_bind (wpAny_seqItems hTO₇ rfl ?_)
  refine wpAny_bind (wpAny_newTuple ?_)
  have hsz : h₇.objs.size = s.heap.objs.size := by rw [hs₇.1, hs₆.1, hs₅.1, hs₄.1, hs₃.1, hs₂.1, hs₁.1]
  have hk₇ : ∀ c o, c ≠ z → c ≠ TO → c ≠ i1 → c ≠ i2 → c ≠ i3 → s.heap.get? c = some o → h₇.get? c = some o := fun c o c1 c2 c3 c4 c5 e =>
    hs₇.extBut _ _ c2 (hs₆.extBut _ _ c5 (hs₅.extBut _ _ c2 (hs₄.extBut _ _ c4 (hs₃.extBut _ _ c2 (hs₂.extBut _ _ c3 (hs₁.extBut _ _ c1 e))))))
  have hz₇ : IsZip h₇ z TI TO .ellipsis := hs₇.extBut _ _ D.TOz.symm (hs₆.extBut _ _ D.i3z.symm (hs₅.extBut _ _ D.TOz.symm (hs₄.extBut _ _ D.i2z.symm (hs₃.extBut _ _ D.TOz.symm (hs₂.extBut _ _ D.i1z.symm hz₁)))))
  have h1₇ : h₇.IsListIter i1 l1 (k + 1) := ((((h1₂.extBut hs₃.extBut D.TOi1.symm).extBut hs₄.extBut D.i12).extBut hs₅.extBut D.TOi1.symm).extBut hs₆.extBut D.i13).extBut hs₇.extBut D.TOi1.symm
  have h2₇ : h₇.IsListIter i2 l2 (k + 1) := ((h2₄.extBut hs₅.extBut D.TOi2.symm).extBut hs₆.extBut D.i23).extBut hs₇.extBut D.TOi2.symm
  have h3₇ : h₇.IsListIter i3 l3 (k + 1) := h3₆.extBut hs₇.extBut D.TOi3.symm
  have hzlt : z < h₇.objs.size := Heap.lt_size hz₇
  show wpAny _ _ (Builtin.SmallTypes.ownedTupleHandOut (.ref z) (.ref h₇.objs.size) >>= _) _ _ _
  refine wpAny_bind ?_
  unfold Builtin.SmallTypes.ownedTupleHandOut
  have hz₈ : IsZip (h₇.push { cls := .type "tuple", data := .seq #[x, y, v] }) z TI TO .ellipsis := Heap.get?_push_of_some _ hz₇
  refine wpAny_bind (wpAny_setField_rec hz₈ (by simp) fun h₉ hz₉ hs₉ => ?_)
  replace hz₉ : IsZip h₉ z TI TO (rawInt h₇.objs.size) := hz₉
  refine wpAny_setField_rec hz₉ (by simp) fun hA hzA hsA => ?_
  replace hzA : IsZip hA z TI TO (rawInt h₇.objs.size) := hzA
  have up : ∀ c o, c ≠ z → h₇.get? c = some o → hA.get? c = some o := fun c o c1 e => hsA.extBut _ _ c1 (hs₉.extBut _ _ c1 (Heap.get?_push_of_some _ e))
  have hTA : IsTri hA h₇.objs.size x y v := hsA.extBut _ _ (Nat.ne_of_gt hzlt) (hs₉.extBut _ _ (Nat.ne_of_gt hzlt) (Heap.get?_push_size _ rfl))
  have hzs : hA.objs.size = h₇.objs.size + 1 := by rw [hsA.1, hs₉.1, Heap.size_push]
  rw [hsz] at hzA hTA hzs
  refine wpAny_pure ⟨_, rfl, ?_⟩
  show Q (.ref h₇.objs.size) _
  rw [hsz]
  exact hQ hA hzA (up _ _ D.TOz hTO₇) (h1₇.at fun o e => up _ o D.i1z e) (h2₇.at fun o e => up _ o D.i2z e) (h3₇.at fun o e => up _ o D.i3z e) hTA hzs fun c o c1 c2 c3 c4 c5 e => up c o c1 (hk₇ c o c1 c2 c3 c4 c5 e)

theorem zip3_next_end {z TI TO i1 i2 i3 l1 l2 l3 : Addr} {k : Nat} {xs ys vs : Array Value} {a b d : Value} {Q : Fin → Shared → Prop} (hh : A.handled = none) (D : Ap3 z TI TO i1 i2 i3 l1 l2 l3)
    (hz : IsZip s.heap z TI TO .none) (hTI : IsTri s.heap TI (.ref i1) (.ref i2) (.ref i3)) (hTO : IsTri s.heap TO a b d)
    (h1 : s.heap.IsListIter i1 l1 k) (h2 : s.heap.IsListIter i2 l2 k) (h3 : s.heap.IsListIter i3 l3 k) (hl1 : s.heap.IsList l1 xs) (hl2 : s.heap.IsList l2 ys) (hl3 : s.heap.IsList l3 vs) (hend : xs[k]? = none ∨ ys[k]? = none ∨ vs[k]? = none)
    (hE : ∀ h' e, (∀ c o, c ≠ z → c ≠ TO → c ≠ i1 → c ≠ i2 → c ≠ i3 → s.heap.get? c = some o → h'.get? c = some o) → (∃ o, h'.get? e = some o ∧ o.cls = .type "StopIteration") → E (.ref e) { s with heap := h' }) :
    wpAny (model prog w) A (Builtin.«zip.__next__» ⟨[.ref z], []⟩) Q E s := by
  show wpAny _ _ (field (.ref z) 2 >>= _) _ _ _
  refine wpAny_bind (wpAny_field hz rfl (x := .bool false) rfl ?_)
  show wpAny _ _ (field (.ref z) 3 >>= _) _ _ _
  refine wpAny_bind (wpAny_field hz rfl (x := .ref TI) rfl ?_)
  refine wpAny_bind (wpAny_seqItems hTI rfl ?_)
  show wpAny _ _ (Builtin.SmallTypes.ownedTupleIsFree (.ref z) >>= _) _ _ _
  refine wpAny_bind ?_
  unfold Builtin.SmallTypes.ownedTupleIsFree
  refine wpAny_bind (wpAny_field hz rfl (x := .none) rfl (wpAny_pure ?_))
  simp only [if_true]
  refine wpAny_bind (wpAny_rule ?_)
  refine wpAny_bind (wpAny_field hz rfl (x := .ref TO) rfl ?_)
  refine wpAny_bind (wpAny_setField_rec hz (by simp) fun h₁ hz₁ hs₁ => ?_)
  replace hz₁ : IsZip h₁ z TI TO .ellipsis := hz₁
  refine wpAny_bind ?_
  simp only [List.zipIdx_cons, List.zipIdx_nil, List.forIn_cons, List.forIn_nil]
  refine wpAny_bind (wpAny_bind (wpAny_onRaise ?_))
  show wpAny _ _ (Builtin.SmallTypes.nextOf (.ref i1) >>= _) _ _ _
  cases hx : xs[k]? with
  | none =>
    refine wpAny_bind (wpAny_nextOf_list_end hh (h1.extBut hs₁.extBut D.i1z) (hl1.extBut hs₁.extBut D.l1z) hx fun h₂ e hs₂ he => ?_)
    obtain ⟨oe, hoe, hce⟩ := he
    have hz₂ : IsZip h₂ z TI TO .ellipsis := hs₂ _ _ D.i1z.symm hz₁
    have hez : e ≠ z := fun x => by subst x; rw [hz₂] at hoe; cases hoe; simp at hce
    refine wpAny_setField_rec hz₂ (by simp) fun h₃ _ hs₃ => hE h₃ e (fun c o c1 _ c3 _ _ x => hs₃.extBut _ _ c1 (hs₂ _ _ c3 (hs₁.extBut _ _ c1 x))) ⟨oe, hs₃.extBut _ _ hez hoe, hce⟩
  | some x =>
    refine wpAny_bind (wpAny_nextOf_list_item (h1.extBut hs₁.extBut D.i1z) (hl1.extBut hs₁.extBut D.l1z) hx fun h₂ h1₂ hs₂ => wpAny_pure ?_)
    have hTO₂ : IsTri h₂ TO a b d := hs₂.extBut _ _ D.TOi1 (hs₁.extBut _ _ D.TOz hTO)
    refine wpAny_bind (wpAny_seqItems hTO₂ rfl ?_)
    refine wpAny_bind (updateSeq_tri hTO₂ fun h₃ hTO₃ hs₃ => ?_)
    replace hTO₃ : IsTri h₃ TO x b d := hTO₃
    refine wpAny_bind (wpAny_letGo (wpAny_pure ?_))
    refine wpAny_bind (wpAny_bind (wpAny_onRaise ?_))
    show wpAny _ _ (Builtin.SmallTypes.nextOf (.ref i2) >>= _) _ _ _
    have h2₃ := ((h2.extBut hs₁.extBut D.i2z).extBut hs₂.extBut D.i12.symm).extBut hs₃.extBut D.TOi2.symm
    have hl2₃ := ((hl2.extBut hs₁.extBut D.l2z).extBut hs₂.extBut D.l2i1).extBut hs₃.extBut D.l2TO
    cases hy : ys[k]? with
    | none =>
      refine wpAny_bind (wpAny_nextOf_list_end hh h2₃ hl2₃ hy fun h₄ e hs₄ he => ?_)
      obtain ⟨oe, hoe, hce⟩ := he
      have hz₄ : IsZip h₄ z TI TO .ellipsis := hs₄ _ _ D.i2z.symm (hs₃.extBut _ _ D.TOz.symm (hs₂.extBut _ _ D.i1z.symm hz₁))
      have hez : e ≠ z := fun x => by subst x; rw [hz₄] at hoe; cases hoe; simp at hce
      refine wpAny_setField_rec hz₄ (by simp) fun h₅ _ hs₅ => hE h₅ e (fun c o c1 c2 c3 c4 _ x => hs₅.extBut _ _ c1 (hs₄ _ _ c4 (hs₃.extBut _ _ c2 (hs₂.extBut _ _ c3 (hs₁.extBut _ _ c1 x))))) ⟨oe, hs₅.extBut _ _ hez hoe, hce⟩
    | some y =>
      have hv : vs[k]? = none := by
        rcases hend with h | h | h
        · rw [hx] at h; cases h
        · rw [hy] at h; cases h
        · exact h
      refine wpAny_bind (wpAny_nextOf_list_item h2₃ hl2₃ hy fun h₄ h2₄ hs₄ => wpAny_pure ?_)
      have hTO₄ : IsTri h₄ TO x b d := hs₄.extBut _ _ D.TOi2 hTO₃
      refine wpAny_bind (wpAny_seqItems hTO₄ rfl ?_)
      refine wpAny_bind (updateSeq_tri hTO₄ fun h₅ hTO₅ hs₅ => ?_)
      refine wpAny_bind (wpAny_letGo (wpAny_pure ?_))
      refine wpAny_bind (wpAny_bind (wpAny_onRaise ?_))
      show wpAny _ _ (Builtin.SmallTypes.nextOf (.ref i3) >>= _) _ _ _
      refine wpAny_bind (wpAny_nextOf_list_end hh (((((h3.extBut hs₁.extBut D.i3z).extBut hs₂.extBut D.i13.symm).extBut hs₃.extBut D.TOi3.symm).extBut hs₄.extBut D.i23.symm).extBut hs₅.extBut D.TOi3.symm)
        (((((hl3.extBut hs₁.extBut D.l3z).extBut hs₂.extBut D.l3i1).extBut hs₃.extBut D.l3TO).extBut hs₄.extBut D.l3i2).extBut hs₅.extBut D.l3TO) hv fun h₆ e hs₆ he => ?_)
      obtain ⟨oe, hoe, hce⟩ := he
      have hz₆ : IsZip h₆ z TI TO .ellipsis := hs₆ _ _ D.i3z.symm (hs₅.extBut _ _ D.TOz.symm (hs₄.extBut _ _ D.i2z.symm (hs₃.extBut _ _ D.TOz.symm (hs₂.extBut _ _ D.i1z.symm hz₁))))
      have hez : e ≠ z := fun x => by subst x; rw [hz₆] at hoe; cases hoe; simp at hce
      refine wpAny_setField_rec hz₆ (by simp) fun h₇ _ hs₇ => hE h₇ e (fun c o c1 c2 c3 c4 c5 x => hs₇.extBut _ _ c1 (hs₆ _ _ c5 (hs₅.extBut _ _ c2 (hs₄.extBut _ _ c4 (hs₃.extBut _ _ c2 (hs₂.extBut _ _ c3 (hs₁.extBut _ _ c1 x))))))) ⟨oe, hs₇.extBut _ _ hez hoe, hce⟩
theorem wpAny_pyNext_zip3_item {z TI TO i1 i2 i3 l1 l2 l3 : Addr} {k : Nat} {xs ys vs : Array Value} {x y v a b d : Value} {Q : Option Value → Shared → Prop} (D : Ap3 z TI TO i1 i2 i3 l1 l2 l3)
    (hz : IsZip s.heap z TI TO .none) (hTI : IsTri s.heap TI (.ref i1) (.ref i2) (.ref i3)) (hTO : IsTri s.heap TO a b d)
    (h1 : s.heap.IsListIter i1 l1 k) (h2 : s.heap.IsListIter i2 l2 k) (h3 : s.heap.IsListIter i3 l3 k) (hl1 : s.heap.IsList l1 xs) (hl2 : s.heap.IsList l2 ys) (hl3 : s.heap.IsList l3 vs) (hx : xs[k]? = some x) (hy : ys[k]? = some y) (hv : vs[k]? = some v)
    (hQ : ∀ h', IsZip h' z TI TO (rawInt s.heap.objs.size) → IsTri h' TO x y v → h'.IsListIter i1 l1 (k + 1) → h'.IsListIter i2 l2 (k + 1) → h'.IsListIter i3 l3 (k + 1) → IsTri h' s.heap.objs.size x y v → h'.objs.size = s.heap.objs.size + 1 →
      (∀ c o, c ≠ z → c ≠ TO → c ≠ i1 → c ≠ i2 → c ≠ i3 → s.heap.get? c = some o → h'.get? c = some o) → Q (some (.ref s.heap.objs.size)) { s with heap := h' }) : wpAny (model prog w) A (pyNext (.ref z)) Q E s := by
  have hT : s.TypeIs (.ref z) "zip" := ⟨_, hz, rfl⟩
  unfold pyNext
  exact wpAny_bind (wpAny_attempt (wpAny_callSpecial?_slot (name := Str.ofString "__next__") hT F.slot_zip_next
    (wpAny_call_entry F.slot_zip_next hT F.entry_zip_next
      (zip3_next_item D hz hTI hTO h1 h2 h3 hl1 hl2 hl3 hx hy hv fun h' a1 a2 a3 a4 a5 a6 a7 a8 => wpAny_pure (hQ h' a1 a2 a3 a4 a5 a6 a7 a8)) (F.args_zip_next_1 _))))
theorem wpAny_pyNext_zip3_end {z TI TO i1 i2 i3 l1 l2 l3 : Addr} {k : Nat} {xs ys vs : Array Value} {a b d : Value} {Q : Option Value → Shared → Prop} (hh : A.handled = none) (D : Ap3 z TI TO i1 i2 i3 l1 l2 l3)
    (hz : IsZip s.heap z TI TO .none) (hTI : IsTri s.heap TI (.ref i1) (.ref i2) (.ref i3)) (hTO : IsTri s.heap TO a b d)
    (h1 : s.heap.IsListIter i1 l1 k) (h2 : s.heap.IsListIter i2 l2 k) (h3 : s.heap.IsListIter i3 l3 k) (hl1 : s.heap.IsList l1 xs) (hl2 : s.heap.IsList l2 ys) (hl3 : s.heap.IsList l3 vs) (hend : xs[k]? = none ∨ ys[k]? = none ∨ vs[k]? = none)
    (hQ : ∀ h', (∀ c o, c ≠ z → c ≠ TO → c ≠ i1 → c ≠ i2 → c ≠ i3 → s.heap.get? c = some o → h'.get? c = some o) → Q none { s with heap := h' }) : wpAny (model prog w) A (pyNext (.ref z)) Q E s := by
  have hT : s.TypeIs (.ref z) "zip" := ⟨_, hz, rfl⟩
  unfold pyNext
  refine wpAny_bind (wpAny_attempt (wpAny_callSpecial?_slot (name := Str.ofString "__next__") hT F.slot_zip_next
    (wpAny_call_entry F.slot_zip_next hT F.entry_zip_next (zip3_next_end hh D hz hTI hTO h1 h2 h3 hl1 hl2 hl3 hend fun h' e hk he => ?_) (F.args_zip_next_1 _))))
  obtain ⟨o, ho, hc⟩ := he
  refine wpAny_bind (wpAny_isInstance (T := "StopIteration") (b := true) ⟨o, ho, hc⟩ isSubtype_stop ?_)
  exact wpAny_pure (hQ _ hk)
end
/-! ### its making -/
theorem typeCall_zip3 (a b v : Value) : checkTypeCall "zip" ⟨[a, b, v], []⟩ = pure () := by kernel_rfl
theorem newCall_zip3 (a b v : Value) : checkBuiltinCall "zip.__new__" ⟨[.type "zip", a, b, v], []⟩ = pure () := by kernel_rfl
theorem args_init3 (o a b v : Value) : argsOk "object.__init__" ⟨[o, a, b, v], []⟩ := by
  unfold argsOk; rw [signature?_of (id := "object.__init__") (n := ['_', '_', 't', 'i', 'n', 'i', '_', '_']) (o := ['t', 'c', 'e', 'j', 'b', 'o']) (by kernel_rfl) F.owner_object]; kernel_rfl
abbrev z3a (h : Heap) (l1 : Addr) : Heap := h.push { cls := .type "list_iterator", data := .fields #[.ref l1, .int 0 0] }
abbrev z3b (h : Heap) (l1 l2 : Addr) : Heap := (z3a h l1).push { cls := .type "list_iterator", data := .fields #[.ref l2, .int 0 0] }
abbrev z3c (h : Heap) (l1 l2 l3 : Addr) : Heap := (z3b h l1 l2).push { cls := .type "list_iterator", data := .fields #[.ref l3, .int 0 0] }
abbrev z3d (h : Heap) (l1 l2 l3 : Addr) : Heap := (z3c h l1 l2 l3).push { cls := .type "tuple", data := .seq #[.ref h.objs.size, .ref (z3a h l1).objs.size, .ref (z3b h l1 l2).objs.size] }
abbrev z3e (h : Heap) (l1 l2 l3 : Addr) : Heap := (z3d h l1 l2 l3).push { cls := .type "tuple", data := .seq #[.none, .none, .none] }
abbrev z3f (h : Heap) (l1 l2 l3 : Addr) : Heap := (z3e h l1 l2 l3).push { cls := .type "zip", data := .fields #[.none, .bool false, .bool false, .ref (z3c h l1 l2 l3).objs.size, .ref (z3d h l1 l2 l3).objs.size] }
theorem meets_zip_new3 (l1 l2 l3 : Addr) (xs ys vs : Array Value) :
    Meets (Builtin.«zip.__new__» ⟨[.type "zip", .ref l1, .ref l2, .ref l3], []⟩) (fun _ R s => s.heap.IsList l1 xs ∧ s.heap.IsList l2 ys ∧ s.heap.IsList l3 vs ∧
      R (.ok (.ret (.ref (z3e s.heap l1 l2 l3).objs.size))) { s with heap := z3f s.heap l1 l2 l3 }) :=
  .of_wp fun prog w A R s h => by
    obtain ⟨hp, g, d, tk, os⟩ := s; obtain ⟨hl1, hl2, hl3, h⟩ := h
    have hsub := sub_zip
    have hL1 : Heap.IsList (Shared.heap ⟨hp, g, d, tk, os⟩) l1 xs := hl1
    have hL2 : Heap.IsList (Shared.heap ⟨hp.push { cls := .type "list_iterator", data := .fields #[.ref l1, .int 0 0] }, g, d, tk, os⟩) l2 ys := Heap.IsList.push hl2 _
    have hL3 : Heap.IsList (Shared.heap ⟨(hp.push { cls := .type "list_iterator", data := .fields #[.ref l1, .int 0 0] }).push { cls := .type "list_iterator", data := .fields #[.ref l2, .int 0 0] }, g, d, tk, os⟩) l3 vs := Heap.IsList.push (Heap.IsList.push hl3 _) _
    wp_walk using wpAny_pyIter_list hL1, wpAny_pyIter_list hL2, wpAny_pyIter_list hL3
    exact ⟨_, rfl, h⟩
end DZ

/-! ## DZip -/
set_option Elab.async false
set_option autoImplicit false
set_option linter.all false
set_option maxRecDepth 100000
set_option maxHeartbeats 4000000
/-! DZip: zip(.., strict=True) of two lists, zip of three lists, as sources. -/
namespace DL
open PySem PySem.Spec PyProof.Rows L2 DZ
section
variable {prog : Program} {w : World} {A : Around} {E : Value → Shared → Prop} {s : Shared}
theorem call_zipS {l1 l2 : Addr} {xs ys : Array Value} {Q : Value → Shared → Prop} (hl1 : s.heap.IsList l1 xs) (hl2 : s.heap.IsList l2 ys)
    (h : ∀ h', IsZipS h' (s.heap.objs.size + 4) (s.heap.objs.size + 2) (s.heap.objs.size + 3) .none → IsPair h' (s.heap.objs.size + 2) (.ref s.heap.objs.size) (.ref (s.heap.objs.size + 1)) →
      IsPair h' (s.heap.objs.size + 3) .none .none → h'.IsListIter s.heap.objs.size l1 0 → h'.IsListIter (s.heap.objs.size + 1) l2 0 → h'.objs.size = s.heap.objs.size + 5 →
      (∀ c o, s.heap.get? c = some o → h'.get? c = some o) → Q (.ref (s.heap.objs.size + 4)) { s with heap := h' }) :
    wpAny (model prog w) A (call (.type "zip") [.ref l1, .ref l2] [(Str.ofString "strict", .bool true)]) Q E s := by
  refine callType_newKw PySem.F.called_zip (by decide) (typeCall_zipS _ _ _) (newCall_zipS _ _ _) (fun obj => args_initS obj _ _ _) PySem.F.entry_zip_new
    (meets_zip_newS l1 l2 xs ys) ⟨hl1, hl2, ?_⟩
  have z1 : (zipH1 s.heap l1).objs.size = s.heap.objs.size + 1 := Heap.size_push ..
  have z2 : (zipH2 s.heap l1 l2).objs.size = s.heap.objs.size + 2 := by rw [Heap.size_push, z1]
  have z3 : (zipH3 s.heap l1 l2).objs.size = s.heap.objs.size + 3 := by rw [Heap.size_push, z2]
  have z4 : (zipH4 s.heap l1 l2).objs.size = s.heap.objs.size + 4 := by rw [Heap.size_push, z3]
  have z5 : (zipHS s.heap l1 l2).objs.size = s.heap.objs.size + 5 := by rw [Heap.size_push, z4]
  have g5 : (zipHS s.heap l1 l2).get? (zipH4 s.heap l1 l2).objs.size = some _ := Heap.get?_push_size _ rfl
  have g4 : (zipHS s.heap l1 l2).get? (zipH3 s.heap l1 l2).objs.size = some _ := Heap.get?_push_of_some _ (Heap.get?_push_size _ rfl)
  have g3 : (zipHS s.heap l1 l2).get? (zipH2 s.heap l1 l2).objs.size = some _ := Heap.get?_push_of_some _ (Heap.get?_push_of_some _ (Heap.get?_push_size _ rfl))
  have g2 : (zipHS s.heap l1 l2).get? (zipH1 s.heap l1).objs.size = some _ := Heap.get?_push_of_some _ (Heap.get?_push_of_some _ (Heap.get?_push_of_some _ (Heap.get?_push_size _ rfl)))
  have g1 : (zipHS s.heap l1 l2).get? s.heap.objs.size = some _ := Heap.get?_push_of_some _ (Heap.get?_push_of_some _ (Heap.get?_push_of_some _ (Heap.get?_push_of_some _ (Heap.get?_push_size _ rfl))))
  show _ ∧ _
  rw [z2, z3, z4] at g5
  rw [z1, z2] at g3
  rw [z3] at g4
  rw [z1] at g2
  rw [z4]
  exact ⟨⟨_, g5, rfl⟩, h _ g5 g3 g4 ⟨_, g1, rfl, rfl⟩ ⟨_, g2, rfl, rfl⟩ z5 fun c o x =>
    Heap.get?_push_of_some _ (Heap.get?_push_of_some _ (Heap.get?_push_of_some _ (Heap.get?_push_of_some _ (Heap.get?_push_of_some _ x))))⟩
theorem call_zip3 {l1 l2 l3 : Addr} {xs ys vs : Array Value} {Q : Value → Shared → Prop} (hl1 : s.heap.IsList l1 xs) (hl2 : s.heap.IsList l2 ys) (hl3 : s.heap.IsList l3 vs)
    (h : ∀ h', IsZip h' (s.heap.objs.size + 5) (s.heap.objs.size + 3) (s.heap.objs.size + 4) .none → IsTri h' (s.heap.objs.size + 3) (.ref s.heap.objs.size) (.ref (s.heap.objs.size + 1)) (.ref (s.heap.objs.size + 2)) →
      IsTri h' (s.heap.objs.size + 4) .none .none .none → h'.IsListIter s.heap.objs.size l1 0 → h'.IsListIter (s.heap.objs.size + 1) l2 0 → h'.IsListIter (s.heap.objs.size + 2) l3 0 → h'.objs.size = s.heap.objs.size + 6 →
      (∀ c o, s.heap.get? c = some o → h'.get? c = some o) → Q (.ref (s.heap.objs.size + 5)) { s with heap := h' }) :
    wpAny (model prog w) A (call (.type "zip") [.ref l1, .ref l2, .ref l3]) Q E s := by
  refine callType_new PySem.F.called_zip (by decide) (typeCall_zip3 _ _ _) (newCall_zip3 _ _ _) (fun obj => args_init3 obj _ _ _) PySem.F.entry_zip_new
    (meets_zip_new3 l1 l2 l3 xs ys vs) ⟨hl1, hl2, hl3, ?_⟩
  have z1 : (z3a s.heap l1).objs.size = s.heap.objs.size + 1 := Heap.size_push ..
  have z2 : (z3b s.heap l1 l2).objs.size = s.heap.objs.size + 2 := by rw [Heap.size_push, z1]
  have z3 : (z3c s.heap l1 l2 l3).objs.size = s.heap.objs.size + 3 := by rw [Heap.size_push, z2]
  have z4 : (z3d s.heap l1 l2 l3).objs.size = s.heap.objs.size + 4 := by rw [Heap.size_push, z3]
  have z5 : (z3e s.heap l1 l2 l3).objs.size = s.heap.objs.size + 5 := by rw [Heap.size_push, z4]
  have z6 : (z3f s.heap l1 l2 l3).objs.size = s.heap.objs.size + 6 := by rw [Heap.size_push, z5]
  have g6 : (z3f s.heap l1 l2 l3).get? (z3e s.heap l1 l2 l3).objs.size = some _ := Heap.get?_push_size _ rfl
  have g5 : (z3f s.heap l1 l2 l3).get? (z3d s.heap l1 l2 l3).objs.size = some _ := Heap.get?_push_of_some _ (Heap.get?_push_size _ rfl)
  have g4 : (z3f s.heap l1 l2 l3).get? (z3c s.heap l1 l2 l3).objs.size = some _ := Heap.get?_push_of_some _ (Heap.get?_push_of_some _ (Heap.get?_push_size _ rfl))
  have g3 : (z3f s.heap l1 l2 l3).get? (z3b s.heap l1 l2).objs.size = some _ := Heap.get?_push_of_some _ (Heap.get?_push_of_some _ (Heap.get?_push_of_some _ (Heap.get?_push_size _ rfl)))
  have g2 : (z3f s.heap l1 l2 l3).get? (z3a s.heap l1).objs.size = some _ := Heap.get?_push_of_some _ (Heap.get?_push_of_some _ (Heap.get?_push_of_some _ (Heap.get?_push_of_some _ (Heap.get?_push_size _ rfl))))
  have g1 : (z3f s.heap l1 l2 l3).get? s.heap.objs.size = some _ := Heap.get?_push_of_some _ (Heap.get?_push_of_some _ (Heap.get?_push_of_some _ (Heap.get?_push_of_some _ (Heap.get?_push_of_some _ (Heap.get?_push_size _ rfl)))))
  show _ ∧ _
  rw [z5, z3, z4] at g6
  rw [z4] at g5
  rw [z3, z1, z2] at g4
  rw [z2] at g3
  rw [z1] at g2
  rw [z5]
  exact ⟨⟨_, g6, rfl⟩, h _ g6 g4 g5 ⟨_, g1, rfl, rfl⟩ ⟨_, g2, rfl, rfl⟩ ⟨_, g3, rfl, rfl⟩ z6 fun c o x =>
    Heap.get?_push_of_some _ (Heap.get?_push_of_some _ (Heap.get?_push_of_some _ (Heap.get?_push_of_some _ (Heap.get?_push_of_some _ (Heap.get?_push_of_some _ x)))))⟩
theorem callWith_typeK {env : Env} {pos : Pos} {T : String} {e : Expr} {rest : List Expr} {kws : List Keyword} {Q : Value → Shared → Prop} {M : Model} (hall : (backToKw pos (keywordEach kws env)).all (·.1.isSome) = true)
    (h : wpAny M A (spliced (backTo pos (starEach (e :: rest) env))) (fun vs s₁ => wpAny M A (evalAll ((backToKw pos (keywordEach kws env)).map (·.2)))
      (fun ks s₂ => wpAny M A (call (.type T) vs (((backToKw pos (keywordEach kws env)).filterMap (·.1)).zip ks)) Q E s₂) E s₁) E s)
    (hplain : ((backTo pos (starEach (e :: rest) env)).any (·.1) || (backToKw pos (keywordEach kws env)).any (·.1.isNone)) = false) (he : starEach (e :: rest) env = (false, eval e env) :: starEach rest env) :
    wpAny M A (callWith pos (.type T) [] (backTo pos (starEach (e :: rest) env)) (backToKw pos (keywordEach kws env))) Q E s := by
  unfold callWith
  refine wpAny_bind (wpAny_holding (wpAny_mono (PyProof.Rows.evalArgs_kw2 (f := .type T) (Q := fun a s₂ => wpAny M A (call (.type T) a.pos a.kw) Q E s₂) hall h he) (fun a s₁ h₁ => wpAny_bind (wpAny_standAt ?_)) fun _ _ x => x))
  simp only [hplain]
  refine wpAny_bind (wpAny_pure ?_)
  exact wpAny_bind (wpAny_mono h₁ (fun r s₂ hr => wpAny_bind (wpAny_holding (wpAny_point (wpAny_pure hr)))) fun _ _ x => x)
end

/-! ### the walks -/
/-- as for zip; both end at once -/
def ItzS (K : PySem.W.Frag) (a b : Addr) : It :=
  ⟨fun i H => ∃ (xs ys : List V) (x y : V), SqL K H a xs ∧ SqL K H b ys ∧ xs[i]? = some x ∧ ys[i]? = some y,
    fun i H v H' => ∃ T x y, v = .ref T ∧ H T = none ∧ H' = upd H T (.tup [x, y]) ∧ (∀ xs, SqL K H a xs → xs[i]? = some x) ∧ ∀ ys, SqL K H b ys → ys[i]? = some y,
    fun i H => ∃ xs ys : List V, SqL K H a xs ∧ SqL K H b ys ∧ xs.length ≤ i ∧ ys.length ≤ i⟩
theorem turn_zipS {P : Program} {w : World} {K : PySem.W.Frag} {elts : List Expr} {kk : Nat} {tpos : Pos} {a b z TI TO i1 i2 : Addr} (D : ZipApart z TI TO i1 i2 a b) :
    Turn P w K (.Tuple elts kk tpos) (ItzS K a b) [z, TI, TO, i1, i2] z (fun i h => IsZipS h z TI TO .none ∧ IsPair h TI (.ref i1) (.ref i2) ∧ (∃ x y, IsPair h TO x y) ∧ h.IsListIter i1 a i ∧ h.IsListIter i2 b i) where
  mem := by simp
  obj := fun i h st c hc => by
    obtain ⟨hz, hTI, ⟨x, y, hTO⟩, ⟨o1, e1, _, d1⟩, ⟨o2, e2, _, d2⟩⟩ := st
    have e' : c = z ∨ c = TI ∨ c = TO ∨ c = i1 ∨ c = i2 := by simpa using hc
    rcases e' with q | q | q | q | q
    · rw [q]; exact ⟨_, hz, fun v q => nomatch q⟩
    · rw [q]; exact ⟨_, hTI, fun v q => nomatch q⟩
    · rw [q]; exact ⟨_, hTO, fun v q => nomatch q⟩
    · rw [q]; exact ⟨o1, e1, fun v q => by rw [d1] at q; cases q⟩
    · rw [q]; exact ⟨o2, e2, fun v q => by rw [d2] at q; cases q⟩
  keep := fun i h h' st k => by
    obtain ⟨hz, hTI, ⟨x, y, hTO⟩, h1, h2⟩ := st
    exact ⟨k z (by simp) _ hz, k TI (by simp) _ hTI, ⟨x, y, k TO (by simp) _ hTO⟩, h1.at fun o q => k i1 (by simp) o q, h2.at fun o q => k i2 (by simp) o q⟩
  item := by
    intro X hP hw hK hc i pins s σ H E I hf st hg
    subst hP hw hK
    obtain ⟨hz, hTI, ⟨x0, y0, hTO⟩, h1, h2⟩ := st
    obtain ⟨xs, ys, x, y, hqx, hqy, hx, hy⟩ := hg
    obtain ⟨its, rv, p, _⟩ := I.list hqx
    obtain ⟨its2, rv2, p2, _⟩ := I.list hqy
    obtain ⟨u, hu, ru⟩ := rv.get hx
    obtain ⟨u2, hu2, ru2⟩ := rv2.get hy
    have hzl : z < s.heap.objs.size := Heap.lt_size hz
    refine wpAny_pyNext_zipS_item D hz hTI hTO h1 h2 p.isList p2.isList (x := u) (y := u2) (by simpa using hu) (by simpa using hu2) fun h' z' TO' h1' h2' hT hsz hk => ?_
    refine ⟨_, rfl, wpAny_letOwnedTupleGo_zipS (s := { s with heap := h' }) z' fun h'' z'' sb => ?_⟩
    have hT2 : h''.get? s.heap.objs.size = some { cls := .type "tuple", data := .seq #[u, u2] } := (sb.2 _ (Nat.ne_of_gt hzl)).trans hT
    have new : ObjOk X.prog X.w (upd H s.heap.objs.size (.tup [x, y])) h'' s.heap.objs.size (.tup [x, y]) :=
      ⟨by show 2 ≤ sizeLine; decide, [u, u2], .cons ru (.cons ru2 .nil), ⟨_, hT2, rfl, _, rfl⟩⟩
    have I1 : Inv X pins σ (upd H s.heap.objs.size (.tup [x, y])) { s with heap := h'' } :=
      I.turnedNew (t' := s.toks) (ch := [z, TI, TO, i1, i2]) (fun c o hb q => (sb.2 c (fun q' => hb (by simp [q']))).trans (hk c o (fun q' => hb (by simp [q'])) (fun q' => hb (by simp [q'])) (fun q' => hb (by simp [q'])) (fun q' => hb (by simp [q'])) q)) hf (Nat.le_refl _) new
    refine ⟨.ref s.heap.objs.size, _, I1, rfl, ⟨_, x, y, rfl, I.hok.fresh (Nat.le_refl _), rfl, fun l hl => by rw [I.list_inj hl hqx]; exact hx, fun l hl => by rw [I.list_inj hl hqy]; exact hy⟩, ⟨z'', ?_, ⟨u, u2, ?_⟩, ?_, ?_⟩, fun c hcm => ?_⟩
    · exact (sb.2 _ D.TIz).trans (hk _ _ D.TIz D.TITO D.TIi1 D.TIi2 hTI)
    · exact (sb.2 _ D.TOz).trans TO'
    · exact h1'.at fun o q => (sb.2 _ D.i1z).trans q
    · exact h2'.at fun o q => (sb.2 _ D.i2z).trans q
    · have hlt : c < s.heap.objs.size := by
        have e' : c = z ∨ c = TI ∨ c = TO ∨ c = i1 ∨ c = i2 := by simpa using hcm
        rcases e' with q | q | q | q | q
        · rw [q]; exact hzl
        · rw [q]; exact Heap.lt_size hTI
        · rw [q]; exact Heap.lt_size hTO
        · rw [q]; obtain ⟨_, e1, _⟩ := h1; exact Heap.lt_size e1
        · rw [q]; obtain ⟨_, e2, _⟩ := h2; exact Heap.lt_size e2
      rw [upd_ne (Nat.ne_of_lt hlt)]
      exact (hf c hcm).1
  done := by
    intro X hP hw hK hc i pins s σ H E I hf st hg
    subst hP hw hK
    obtain ⟨hz, hTI, ⟨x0, y0, hTO⟩, h1, h2⟩ := st
    obtain ⟨xs, ys, hqx, hqy, hx, hy⟩ := hg
    obtain ⟨its, rv, p, _⟩ := I.list hqx
    obtain ⟨its2, rv2, p2, _⟩ := I.list hqy
    have l1 := rv.length
    have l2 := rv2.length
    exact wpAny_pyNext_zipS_end (I.ok.hd hc) D hz hTI hTO h1 h2 p.isList p2.isList (by simp; omega) (by simp; omega) fun h' hk => ⟨rfl, I.turnedL (t' := s.toks) (ch := [z, TI, TO, i1, i2]) (fun c o hb q =>
      hk c o (fun q' => hb (by simp [q'])) (fun q' => hb (by simp [q'])) (fun q' => hb (by simp [q'])) (fun q' => hb (by simp [q'])) q) hf⟩
  self := fun A i s Q E st h => wpAny_pyIter_zipS st.1 h
def Itz3 (K : PySem.W.Frag) (a b d : Addr) : It :=
  ⟨fun i H => ∃ (xs ys zs : List V) (x y z : V), SqL K H a xs ∧ SqL K H b ys ∧ SqL K H d zs ∧ xs[i]? = some x ∧ ys[i]? = some y ∧ zs[i]? = some z,
    fun i H v H' => ∃ T x y z, v = .ref T ∧ H T = none ∧ H' = upd H T (.tup [x, y, z]) ∧ (∀ xs, SqL K H a xs → xs[i]? = some x) ∧ (∀ ys, SqL K H b ys → ys[i]? = some y) ∧ ∀ zs, SqL K H d zs → zs[i]? = some z,
    fun i H => ∃ xs ys zs : List V, SqL K H a xs ∧ SqL K H b ys ∧ SqL K H d zs ∧ (xs.length ≤ i ∨ ys.length ≤ i ∨ zs.length ≤ i)⟩
theorem turn_zip3 {P : Program} {w : World} {K : PySem.W.Frag} {elts : List Expr} {kk : Nat} {tpos : Pos} {a b d z TI TO i1 i2 i3 : Addr} (D : Ap3 z TI TO i1 i2 i3 a b d) :
    Turn P w K (.Tuple elts kk tpos) (Itz3 K a b d) [z, TI, TO, i1, i2, i3] z (fun i h => IsZip h z TI TO .none ∧ IsTri h TI (.ref i1) (.ref i2) (.ref i3) ∧ (∃ x y v, IsTri h TO x y v) ∧ h.IsListIter i1 a i ∧ h.IsListIter i2 b i ∧ h.IsListIter i3 d i) where
  mem := by simp
  obj := fun i h st c hc => by
    obtain ⟨hz, hTI, ⟨x, y, v, hTO⟩, ⟨o1, e1, _, d1⟩, ⟨o2, e2, _, d2⟩, ⟨o3, e3, _, d3⟩⟩ := st
    have e' : c = z ∨ c = TI ∨ c = TO ∨ c = i1 ∨ c = i2 ∨ c = i3 := by simpa using hc
    rcases e' with q | q | q | q | q | q
    · rw [q]; exact ⟨_, hz, fun v q => nomatch q⟩
    · rw [q]; exact ⟨_, hTI, fun v q => nomatch q⟩
    · rw [q]; exact ⟨_, hTO, fun v q => nomatch q⟩
    · rw [q]; exact ⟨o1, e1, fun v q => by rw [d1] at q; cases q⟩
    · rw [q]; exact ⟨o2, e2, fun v q => by rw [d2] at q; cases q⟩
    · rw [q]; exact ⟨o3, e3, fun v q => by rw [d3] at q; cases q⟩
  keep := fun i h h' st k => by
    obtain ⟨hz, hTI, ⟨x, y, v, hTO⟩, h1, h2, h3⟩ := st
    exact ⟨k z (by simp) _ hz, k TI (by simp) _ hTI, ⟨x, y, v, k TO (by simp) _ hTO⟩, h1.at fun o q => k i1 (by simp) o q, h2.at fun o q => k i2 (by simp) o q, h3.at fun o q => k i3 (by simp) o q⟩
  item := by
    intro X hP hw hK hc i pins s σ H E I hf st hg
    subst hP hw hK
    obtain ⟨hz, hTI, ⟨x0, y0, v0, hTO⟩, h1, h2, h3⟩ := st
    obtain ⟨xs, ys, zs, x, y, v, hqx, hqy, hqz, hx, hy, hv⟩ := hg
    obtain ⟨its, rv, p, _⟩ := I.list hqx
    obtain ⟨its2, rv2, p2, _⟩ := I.list hqy
    obtain ⟨its3, rv3, p3, _⟩ := I.list hqz
    obtain ⟨u, hu, ru⟩ := rv.get hx
    obtain ⟨u2, hu2, ru2⟩ := rv2.get hy
    obtain ⟨u3, hu3, ru3⟩ := rv3.get hv
    have hzl : z < s.heap.objs.size := Heap.lt_size hz
    refine wpAny_pyNext_zip3_item D hz hTI hTO h1 h2 h3 p.isList p2.isList p3.isList (x := u) (y := u2) (v := u3) (by simpa using hu) (by simpa using hu2) (by simpa using hu3) fun h' z' TO' h1' h2' h3' hT hsz hk => ?_
    refine ⟨_, rfl, wpAny_letOwnedTupleGo_zip (s := { s with heap := h' }) z' fun h'' z'' sb => ?_⟩
    have hT2 : h''.get? s.heap.objs.size = some { cls := .type "tuple", data := .seq #[u, u2, u3] } := (sb.2 _ (Nat.ne_of_gt hzl)).trans hT
    have new : ObjOk X.prog X.w (upd H s.heap.objs.size (.tup [x, y, v])) h'' s.heap.objs.size (.tup [x, y, v]) :=
      ⟨by show 3 ≤ sizeLine; decide, [u, u2, u3], .cons ru (.cons ru2 (.cons ru3 .nil)), ⟨_, hT2, rfl, _, rfl⟩⟩
    have I1 : Inv X pins σ (upd H s.heap.objs.size (.tup [x, y, v])) { s with heap := h'' } :=
      I.turnedNew (t' := s.toks) (ch := [z, TI, TO, i1, i2, i3]) (fun c o hb q => (sb.2 c (fun q' => hb (by simp [q']))).trans (hk c o (fun q' => hb (by simp [q'])) (fun q' => hb (by simp [q'])) (fun q' => hb (by simp [q'])) (fun q' => hb (by simp [q'])) (fun q' => hb (by simp [q'])) q)) hf (Nat.le_refl _) new
    refine ⟨.ref s.heap.objs.size, _, I1, rfl, ⟨_, x, y, v, rfl, I.hok.fresh (Nat.le_refl _), rfl, fun l hl => by rw [I.list_inj hl hqx]; exact hx, fun l hl => by rw [I.list_inj hl hqy]; exact hy, fun l hl => by rw [I.list_inj hl hqz]; exact hv⟩, ⟨z'', ?_, ⟨u, u2, u3, ?_⟩, ?_, ?_, ?_⟩, fun c hcm => ?_⟩
    · exact (sb.2 _ D.TIz).trans (hk _ _ D.TIz D.TITO D.TIi1 D.TIi2 D.TIi3 hTI)
    · exact (sb.2 _ D.TOz).trans TO'
    · exact h1'.at fun o q => (sb.2 _ D.i1z).trans q
    · exact h2'.at fun o q => (sb.2 _ D.i2z).trans q
    · exact h3'.at fun o q => (sb.2 _ D.i3z).trans q
    · have hlt : c < s.heap.objs.size := by
        have e' : c = z ∨ c = TI ∨ c = TO ∨ c = i1 ∨ c = i2 ∨ c = i3 := by simpa using hcm
        rcases e' with q | q | q | q | q | q
        · rw [q]; exact hzl
        · rw [q]; exact Heap.lt_size hTI
        · rw [q]; exact Heap.lt_size hTO
        · rw [q]; obtain ⟨_, e1, _⟩ := h1; exact Heap.lt_size e1
        · rw [q]; obtain ⟨_, e2, _⟩ := h2; exact Heap.lt_size e2
        · rw [q]; obtain ⟨_, e3, _⟩ := h3; exact Heap.lt_size e3
      rw [upd_ne (Nat.ne_of_lt hlt)]
      exact (hf c hcm).1
  done := by
    intro X hP hw hK hc i pins s σ H E I hf st hg
    subst hP hw hK
    obtain ⟨hz, hTI, ⟨x0, y0, v0, hTO⟩, h1, h2, h3⟩ := st
    obtain ⟨xs, ys, zs, hqx, hqy, hqz, hend⟩ := hg
    obtain ⟨its, rv, p, _⟩ := I.list hqx
    obtain ⟨its2, rv2, p2, _⟩ := I.list hqy
    obtain ⟨its3, rv3, p3, _⟩ := I.list hqz
    have l1 := rv.length
    have l2 := rv2.length
    have l3 := rv3.length
    have he : its.toArray[i]? = none ∨ its2.toArray[i]? = none ∨ its3.toArray[i]? = none := by
      rcases hend with q | q | q
      · exact .inl (by simp; omega)
      · exact .inr (.inl (by simp; omega))
      · exact .inr (.inr (by simp; omega))
    exact wpAny_pyNext_zip3_end (I.ok.hd hc) D hz hTI hTO h1 h2 h3 p.isList p2.isList p3.isList he fun h' hk => ⟨rfl, I.turnedL (t' := s.toks) (ch := [z, TI, TO, i1, i2, i3]) (fun c o hb q =>
      hk c o (fun q' => hb (by simp [q'])) (fun q' => hb (by simp [q'])) (fun q' => hb (by simp [q'])) (fun q' => hb (by simp [q'])) (fun q' => hb (by simp [q'])) q) hf⟩
  self := fun A i s Q E st h => wpAny_pyIter_zip st.1 h
theorem ap3 (I a b d : Nat) (h1 : a < I) (h2 : b < I) (h3 : d < I) : Ap3 (I + 5) (I + 3) (I + 4) I (I + 1) (I + 2) a b d := by
  constructor <;> (intro h; replace h := (show @Eq Nat _ _ from h); omega)
def iZipS (K : PySem.W.Frag) (ta : TA) : TI := fun σ H R => ta σ H fun vs H1 => ∃ a b xs ys, vs = [.ref a, .ref b] ∧ SqL K H1 a xs ∧ SqL K H1 b ys ∧ R (ItzS K a b) H1
theorem pi_zipS {X : Cx} {e e2 : Expr} {ta : TA} {p pos tpos kpos kp2 : Pos} {elts : List Expr} {kk kj : Nat} (hg : Gl X "zip") (hm : X.mg "zip" = none) (ha : PA X [e, e2] ta)
    (hs : starEach [e, e2] X.env = (false, eval e X.env) :: starEach [e2] X.env)
    (hall : (backToKw pos (keywordEach [⟨some "strict", .Constant (.bool true) kj kp2, kpos⟩] X.env)).all (·.1.isSome) = true) (hks : (backToKw pos (keywordEach [⟨some "strict", .Constant (.bool true) kj kp2, kpos⟩] X.env)).filterMap (·.1) = [Str.ofString "strict"])
    (hpl : ((backTo pos (starEach [e, e2] X.env)).any (·.1) || (backToKw pos (keywordEach [⟨some "strict", .Constant (.bool true) kj kp2, kpos⟩] X.env)).any (·.1.isNone)) = false) :
    PI X (.Tuple elts kk tpos) (.Call (.Name "zip" p) [e, e2] [⟨some "strict", .Constant (.bool true) kj kp2, kpos⟩] pos) (iZipS X.K ta) := by
  refine ⟨fun pins s σ H R I h => ?_⟩
  have hk : PK X [⟨some "strict", .Constant (.bool true) kj kp2, kpos⟩] (tCons (tC (.bl true)) tNil) := pk_cons pe_bl pk_nil
  refine wpAny_Call_Name_kw (ld_blt I hg hm PyProof.Rows.boot_zip (callWith_typeK hall (thn (ha.run pos pins s σ H _ I h) fun us s1 ⟨vs, H1, I1, r1, q1⟩ => thn (hk.run pos pins s1 σ H1 (fun zs H2 => zs = [.bl true] ∧ H2 = H1) I1 ⟨rfl, rfl⟩) fun ws s2 ⟨zs, H2, I2, r2, ez, eH⟩ => ?_) hpl hs))
  subst ez eH
  obtain ⟨a, b, xs, ys, ex, hqx, hqy, q⟩ := q1
  subst ex
  cases r2 with
  | cons rz rr =>
    cases rr
    cases rz
    cases r1 with
    | cons r rr =>
      cases rr with
      | cons r' rr =>
        cases rr
        cases r
        cases r'
        obtain ⟨its, rv, p1, _⟩ := I2.list hqx
        obtain ⟨its2, rv2, p2, _⟩ := I2.list hqy
        have la : a < s2.heap.objs.size := p1.lt
        have lb : b < s2.heap.objs.size := p2.lt
        rw [hks]
        refine call_zipS p1.isList p2.isList fun h' hz hTI hTO h1 h2 hsz hkk => wpAny_pyIter_zipS hz ?_
        have I3 : Inv X pins σ H2 { s2 with heap := h' } := I2.kept (t' := s2.toks) hkk
        refine ⟨s2.heap.objs.size + 4, [s2.heap.objs.size + 4, s2.heap.objs.size + 2, s2.heap.objs.size + 3, s2.heap.objs.size, s2.heap.objs.size + 1], _, _, H2, rfl, I3, turn_zipS (PySem.W.ktu_apart s2.heap.objs.size a b la lb), ⟨hz, hTI, ⟨_, _, hTO⟩, h1, h2⟩, fun c hcm => ?_, q⟩
        have e' : c = s2.heap.objs.size + 4 ∨ c = s2.heap.objs.size + 2 ∨ c = s2.heap.objs.size + 3 ∨ c = s2.heap.objs.size ∨ c = s2.heap.objs.size + 1 := by simpa using hcm
        have hle : s2.heap.objs.size ≤ c := by rcases e' with z | z | z | z | z <;> rw [z] <;> first | exact Nat.le_add_right _ _ | exact Nat.le_refl _
        exact I2.fpOk hle (I2.hok.fresh hle)
def iZip3 (K : PySem.W.Frag) (ta : TA) : TI := fun σ H R => ta σ H fun vs H1 => ∃ a b d xs ys zs, vs = [.ref a, .ref b, .ref d] ∧ SqL K H1 a xs ∧ SqL K H1 b ys ∧ SqL K H1 d zs ∧ R (Itz3 K a b d) H1
theorem pi_zip3 {X : Cx} {e e2 e3 : Expr} {ta : TA} {p pos tpos : Pos} {elts : List Expr} {kk : Nat} (hg : Gl X "zip") (hm : X.mg "zip" = none) (ha : PA X [e, e2, e3] ta)
    (hs : starEach [e, e2, e3] X.env = (false, eval e X.env) :: starEach [e2, e3] X.env) (hpl : (backTo pos (starEach [e2, e3] X.env)).any (·.1) = false) :
    PI X (.Tuple elts kk tpos) (.Call (.Name "zip" p) [e, e2, e3] [] pos) (iZip3 X.K ta) := by
  refine ⟨fun pins s σ H R I h => ?_⟩
  refine Call_ (ld_blt I hg hm PyProof.Rows.boot_zip (PyProof.Rows.callWith_type1 (thn (ha.run pos pins s σ H _ I h) fun us s1 ⟨vs, H1, I1, r1, q1⟩ => ?_) hs hpl))
  obtain ⟨a, b, d, xs, ys, zs, ex, hqx, hqy, hqz, q⟩ := q1
  subst ex
  cases r1 with
  | cons r rr =>
    cases rr with
    | cons r' rr =>
      cases rr with
      | cons r'' rr =>
        cases rr
        cases r
        cases r'
        cases r''
        obtain ⟨its, rv, p1, _⟩ := I1.list hqx
        obtain ⟨its2, rv2, p2, _⟩ := I1.list hqy
        obtain ⟨its3, rv3, p3, _⟩ := I1.list hqz
        have la : a < s1.heap.objs.size := p1.lt
        have lb : b < s1.heap.objs.size := p2.lt
        have ld : d < s1.heap.objs.size := p3.lt
        refine call_zip3 p1.isList p2.isList p3.isList fun h' hz hTI hTO h1 h2 h3 hsz hkk => wpAny_pyIter_zip hz ?_
        have I3 : Inv X pins σ H1 { s1 with heap := h' } := I1.kept (t' := s1.toks) hkk
        refine ⟨s1.heap.objs.size + 5, [s1.heap.objs.size + 5, s1.heap.objs.size + 3, s1.heap.objs.size + 4, s1.heap.objs.size, s1.heap.objs.size + 1, s1.heap.objs.size + 2], _, _, H1, rfl, I3, turn_zip3 (ap3 s1.heap.objs.size a b d la lb ld), ⟨hz, hTI, ⟨_, _, _, hTO⟩, h1, h2, h3⟩, fun c hcm => ?_, q⟩
        have e' : c = s1.heap.objs.size + 5 ∨ c = s1.heap.objs.size + 3 ∨ c = s1.heap.objs.size + 4 ∨ c = s1.heap.objs.size ∨ c = s1.heap.objs.size + 1 ∨ c = s1.heap.objs.size + 2 := by simpa using hcm
        have hle : s1.heap.objs.size ≤ c := by rcases e' with z | z | z | z | z | z <;> rw [z] <;> first | exact Nat.le_add_right _ _ | exact Nat.le_refl _
        exact I1.fpOk hle (I1.hok.fresh hle)
/-! ### as sources -/
section
variable {X : Cx} {c : C} {e e2 e3 : Expr} {f f2 f3 : E} {pos p tpos kpos kp2 : Pos} {elts : List Expr} {kk kj : Nat}
theorem walk_zipS {K : PySem.W.Frag} {a b : Addr} {vs us : List V} {F H : Hp} {xs ys : List D} (h : F a = some (.lst vs)) (h' : F b = some (.lst us)) (r : RepAll c F vs xs) (r' : RepAll c F us ys) (hl : xs.length = ys.length) : WalkD c (ItzS K a b) [] F H (zip2 xs ys) := by
  have at' : ∀ F1 H1, Same F F1 → Same F1 H1 → H1 a = some (.lst vs) ∧ H1 b = some (.lst us) := fun F1 H1 t1 t2 => ⟨t2 _ _ (t1 _ _ h), t2 _ _ (t1 _ _ h')⟩
  refine ⟨fun _ z => (nomatch z), fun i F1 H1 hi s1 s2 _ _ => ?_, fun F1 H1 s1 s2 _ _ => ⟨vs, us, SqL.of (at' F1 H1 s1 s2).1, SqL.of (at' F1 H1 s1 s2).2, ?_, ?_⟩, fun i F1 H1 g x H2 hi s1 s2 _ gen hy => ?_⟩
  · rw [zip2_len] at hi
    obtain ⟨v, hv, _⟩ := r.get (List.getElem?_eq_getElem (show i < xs.length by omega))
    obtain ⟨u, hu, _⟩ := r'.get (List.getElem?_eq_getElem (show i < ys.length by omega))
    exact ⟨vs, us, v, u, SqL.of (at' F1 H1 s1 s2).1, SqL.of (at' F1 H1 s1 s2).2, hv, hu⟩
  · rw [zip2_len, r.length]
    omega
  · rw [zip2_len, r'.length]
    omega
  · obtain ⟨T, y, z, rfl, hT, rfl, hx, hz⟩ := hy
    obtain ⟨d, hd, rd⟩ := r.getV (hx vs (SqL.of (at' F1 H1 s1 s2).1))
    obtain ⟨e, he, re⟩ := r'.getV (hz us (SqL.of (at' F1 H1 s1 s2).2))
    have st := Stp.lay (o := .tup [y, z]) s2 gen hT
    refine ⟨upd F1 T (.tup [y, z]), .tup [d, e], ?_, st, .tup upd_same (.cons ((rd.up s1).up st.sub) (.cons ((re.up s1).up st.sub) .nil))⟩
    rw [zip2_get, hd, he]
/-- for x, y in zip(xs, ys, strict=True) -/
theorem di_zipS (hm : X.mg "zip" = none) (h : PE X e (tP c f)) (h2 : PE X e2 (tP c f2)) (hg : Gl X "zip" := by rfl) (hs : starEach [e, e2] X.env = (false, eval e X.env) :: starEach [e2] X.env := by rfl) (hs2 : starEach [e2] X.env = (false, eval e2 X.env) :: starEach [] X.env := by rfl)
    (hall : (backToKw pos (keywordEach [⟨some "strict", .Constant (.bool true) kj kp2, kpos⟩] X.env)).all (·.1.isSome) = true := by rfl) (hks : (backToKw pos (keywordEach [⟨some "strict", .Constant (.bool true) kj kp2, kpos⟩] X.env)).filterMap (·.1) = [Str.ofString "strict"] := by rfl)
    (hpl : ((backTo pos (starEach [e, e2] X.env)).any (·.1) || (backToKw pos (keywordEach [⟨some "strict", .Constant (.bool true) kj kp2, kpos⟩] X.env)).any (·.1.isNone)) = false := by rfl) :
    PI X (.Tuple elts kk tpos) (.Call (.Name "zip" p) [e, e2] [⟨some "strict", .Constant (.bool true) kj kp2, kpos⟩] pos) (iD c (xZs f f2)) :=
  (pi_zipS hg hm (pa_cons h (pa_cons h2 pa_nil hs2) hs) hs hall hks hpl).imp fun σ H R ⟨H0, F, δ, g, ds, g', w, o, q⟩ => by
    obtain ⟨x, g1, o1, o⟩ := ok_bind.mp o
    obtain ⟨y, g2, o2, o⟩ := ok_bind.mp o
    split at o
    · split at o
      · rename_i hl
        obtain ⟨rfl, rfl⟩ := ok_pure.mp o
        refine ⟨H0, F, δ, g, _, g1, w, o1, fun v F1 H1 s1 r1 => ⟨H0, F1, δ, g1, _, g2, w.step s1, o2, fun u F2 H2 s2 r2 => ?_⟩⟩
        cases r1 with
        | @lst _ a vs _ ea ra =>
          cases r2 with
          | @lst _ b us _ eb rb => exact ⟨a, b, vs, us, rfl, SqL.of (s2.le _ _ (s2.sub _ _ ea)), SqL.of (s2.le _ _ eb), q _ F2 H2 (s1.trans s2) (walk_zipS (s2.sub _ _ ea) eb (ra.up s2.sub) rb hl)⟩
      · exact absurd o not_ok_stuck
    · exact absurd o not_ok_stuck
theorem zip3_get : ∀ (xs ys zs : List D) (i : Nat), (zip3 xs ys zs)[i]? = match xs[i]?, ys[i]?, zs[i]? with
    | some x, some y, some z => some (.tup [x, y, z])
    | _, _, _ => none
  | [], ys, zs, i => by simp [zip3]
  | x :: xs, [], zs, i => by
    simp only [zip3, List.getElem?_nil]
    cases (x :: xs)[i]? <;> rfl
  | x :: xs, y :: ys, [], i => by
    simp only [zip3, List.getElem?_nil]
    cases (x :: xs)[i]? <;> cases (y :: ys)[i]? <;> rfl
  | x :: xs, y :: ys, z :: zs, 0 => by simp [zip3]
  | x :: xs, y :: ys, z :: zs, i + 1 => by
    show (zip3 xs ys zs)[i]? = _
    rw [zip3_get xs ys zs i]
    rfl
theorem zip3_len : ∀ (xs ys zs : List D), (zip3 xs ys zs).length = min xs.length (min ys.length zs.length)
  | [], ys, zs => by simp [zip3]
  | x :: xs, [], zs => by simp [zip3]
  | x :: xs, y :: ys, [] => by simp [zip3]
  | x :: xs, y :: ys, z :: zs => by
    simp only [zip3, List.length_cons, zip3_len xs ys zs]
    omega
theorem walk_zip3 {K : PySem.W.Frag} {a b d : Addr} {vs us ws : List V} {F H : Hp} {xs ys zs : List D} (h : F a = some (.lst vs)) (h' : F b = some (.lst us)) (h'' : F d = some (.lst ws)) (r : RepAll c F vs xs) (r' : RepAll c F us ys) (r'' : RepAll c F ws zs) : WalkD c (Itz3 K a b d) [] F H (zip3 xs ys zs) := by
  have at1 : ∀ F1 H1, Same F F1 → Same F1 H1 → SqL K H1 a vs := fun F1 H1 t1 t2 => SqL.of (t2 _ _ (t1 _ _ h))
  have at2 : ∀ F1 H1, Same F F1 → Same F1 H1 → SqL K H1 b us := fun F1 H1 t1 t2 => SqL.of (t2 _ _ (t1 _ _ h'))
  have at3 : ∀ F1 H1, Same F F1 → Same F1 H1 → SqL K H1 d ws := fun F1 H1 t1 t2 => SqL.of (t2 _ _ (t1 _ _ h''))
  have l1 := r.length
  have l2 := r'.length
  have l3 := r''.length
  refine ⟨fun _ z => (nomatch z), fun i F1 H1 hi s1 s2 _ _ => ?_, fun F1 H1 s1 s2 _ _ => ⟨vs, us, ws, at1 F1 H1 s1 s2, at2 F1 H1 s1 s2, at3 F1 H1 s1 s2, ?_⟩, fun i F1 H1 g x H2 hi s1 s2 _ gen hy => ?_⟩
  · rw [zip3_len] at hi
    obtain ⟨v, hv, _⟩ := r.get (List.getElem?_eq_getElem (show i < xs.length by omega))
    obtain ⟨u, hu, _⟩ := r'.get (List.getElem?_eq_getElem (show i < ys.length by omega))
    obtain ⟨w, hw, _⟩ := r''.get (List.getElem?_eq_getElem (show i < zs.length by omega))
    exact ⟨vs, us, ws, v, u, w, at1 F1 H1 s1 s2, at2 F1 H1 s1 s2, at3 F1 H1 s1 s2, hv, hu, hw⟩
  · rw [zip3_len]
    omega
  · obtain ⟨T, y, z, t, rfl, hT, rfl, hx, hz, ht⟩ := hy
    obtain ⟨d1, hd1, rd1⟩ := r.getV (hx vs (at1 F1 H1 s1 s2))
    obtain ⟨d2, hd2, rd2⟩ := r'.getV (hz us (at2 F1 H1 s1 s2))
    obtain ⟨d3, hd3, rd3⟩ := r''.getV (ht ws (at3 F1 H1 s1 s2))
    have st := Stp.lay (o := .tup [y, z, t]) s2 gen hT
    refine ⟨upd F1 T (.tup [y, z, t]), .tup [d1, d2, d3], ?_, st, .tup upd_same (.cons ((rd1.up s1).up st.sub) (.cons ((rd2.up s1).up st.sub) (.cons ((rd3.up s1).up st.sub) .nil)))⟩
    rw [zip3_get, hd1, hd2, hd3]
/-- for x, y, z in zip(xs, ys, zs) -/
theorem di_zip3 (hm : X.mg "zip" = none) (h : PE X e (tP c f)) (h2 : PE X e2 (tP c f2)) (h3 : PE X e3 (tP c f3)) (hg : Gl X "zip" := by rfl) (hs : starEach [e, e2, e3] X.env = (false, eval e X.env) :: starEach [e2, e3] X.env := by rfl) (hs2 : starEach [e2, e3] X.env = (false, eval e2 X.env) :: starEach [e3] X.env := by rfl) (hs3 : starEach [e3] X.env = (false, eval e3 X.env) :: starEach [] X.env := by rfl)
    (hpl : (backTo pos (starEach [e2, e3] X.env)).any (·.1) = false := by rfl) : PI X (.Tuple elts kk tpos) (.Call (.Name "zip" p) [e, e2, e3] [] pos) (iD c (xZ3 f f2 f3)) :=
  (pi_zip3 hg hm (pa_cons h (pa_cons h2 (pa_cons h3 pa_nil hs3) hs2) hs) hs hpl).imp fun σ H R ⟨H0, F, δ, g, ds, g', w, o, q⟩ => by
    obtain ⟨x, g1, o1, o⟩ := ok_bind.mp o
    obtain ⟨y, g2, o2, o⟩ := ok_bind.mp o
    obtain ⟨z, g3, o3, o⟩ := ok_bind.mp o
    split at o
    · obtain ⟨rfl, rfl⟩ := ok_pure.mp o
      refine ⟨H0, F, δ, g, _, g1, w, o1, fun v F1 H1 s1 r1 => ⟨H0, F1, δ, g1, _, g2, w.step s1, o2, fun u F2 H2 s2 r2 => ⟨H0, F2, δ, g2, _, g3, (w.step s1).step s2, o3, fun t F3 H3 s3 r3 => ?_⟩⟩⟩
      cases r1 with
      | @lst _ a vs _ ea ra =>
        cases r2 with
        | @lst _ b us _ eb rb =>
          cases r3 with
          | @lst _ d ws _ ed rd => exact ⟨a, b, d, vs, us, ws, rfl, SqL.of (s3.le _ _ (s3.sub _ _ (s2.sub _ _ ea))), SqL.of (s3.le _ _ (s3.sub _ _ eb)), SqL.of (s3.le _ _ ed), q _ F3 H3 ((s1.trans s2).trans s3) (walk_zip3 (s3.sub _ _ (s2.sub _ _ ea)) (s3.sub _ _ eb) ed ((ra.up s2.sub).up s3.sub) (rb.up s3.sub) rd)⟩
    · exact absurd o not_ok_stuck
end
end DL

/-! ## DTop -/
set_option Elab.async false
set_option autoImplicit false
set_option linter.all false
set_option maxRecDepth 100000
set_option maxHeartbeats 4000000
/-! DTop: what a printed walk of a def names: callees, built-ins, room. -/
namespace DL
open PySem PySem.Spec PyProof.Rows L2
/-- built-ins that the module doesn't cover -/
structure Blt (mg : Str → Option Value) : Prop where
  isi : mg "isinstance" = none
  bool_ : mg "bool" = none
  int_ : mg "int" = none
  str_ : mg "str" = none
  list_ : mg "list" = none
  tuple_ : mg "tuple" = none
  dict_ : mg "dict" = none
  len_ : mg "len" = none
  all_ : mg "all" = none
  any_ : mg "any" = none
  abs_ : mg "abs" = none
  max_ : mg "max" = none
  min_ : mg "min" = none
  sum_ : mg "sum" = none
  sorted_ : mg "sorted" = none
  repr_ : mg "repr" = none
  range_ : mg "range" = none
  zip_ : mg "zip" = none
  enumerate_ : mg "enumerate" = none
theorem hu64 {k : Nat} {A : Around} (r : Room k A) : A.units + 64 < cLine := by have := r.un; omega
theorem hu65 {k : Nat} {A : Around} (r : Room k A) : A.units + 65 < cLine := by have := r.un; omega
/-- a def that may be called at level k: its function -/
structure Cal (P : Program) (w : World) (K : PySem.W.Frag) (mg : Str → Option Value) (base : Heap) (k : Nat) (x : Str) (st : Stmt) (ps : List Str) (Fs : List D → M D) : Prop where
  ex : ∃ (f : Addr) (fd : FuncData), mg x = some (.ref f) ∧ Fun K x x st f fd ∧ Binds K fd ps [] ∧ FnG P w K mg base k f fd ps Fs
/-- where a def lies -/
structure At (K : PySem.W.Frag) (mg : Str → Option Value) (x : Str) (st : Stmt) (ps : List Str) : Prop where
  ex : ∃ (f : Addr) (fd : FuncData), mg x = some (.ref f) ∧ Fun K x x st f fd ∧ Binds K fd ps []
theorem At.cal {P : Program} {w : World} {K : PySem.W.Frag} {mg : Str → Option Value} {base : Heap} {k : Nat} {x : Str} {st : Stmt} {ps : List Str} {Fs : List D → M D} (a : At K mg x st ps) (h : ∀ f fd, Fun K x x st f fd → FnG P w K mg base k f fd ps Fs) : Cal P w K mg base k x st ps Fs := by
  obtain ⟨f, fd, h1, h2, h3⟩ := a.ex
  exact ⟨f, fd, h1, h2, h3, h f fd h2⟩
theorem Cal.mono {P : Program} {w : World} {K : PySem.W.Frag} {mg : Str → Option Value} {base : Heap} {j k : Nat} {x : Str} {st : Stmt} {ps : List Str} {Fs : List D → M D} (a : Cal P w K mg base j x st ps Fs) (h : j ≤ k) : Cal P w K mg base k x st ps Fs := by
  obtain ⟨f, fd, h1, h2, h3, h4⟩ := a.ex
  exact ⟨f, fd, h1, h2, h3, h4.mono h⟩
theorem Cal.le {P : Program} {w : World} {K : PySem.W.Frag} {mg : Str → Option Value} {base : Heap} {k : Nat} {x : Str} {st : Stmt} {ps : List Str} {Fs Gs' : List D → M D} (a : Cal P w K mg base k x st ps Fs) (h : ∀ ds g d g', Ok (Gs' ds) g d g' → Ok (Fs ds) g d g') : Cal P w K mg base k x st ps Gs' := by
  obtain ⟨f, fd, h1, h2, h3, h4⟩ := a.ex
  exact ⟨f, fd, h1, h2, h3, h4.le h⟩
def KwOk (x : Str) (st : Stmt) (ps ks : List Str) (n : Nat) (ix : List Nat) : Prop := (∀ (kV doc pm : Value) (an : Option Addr) (cdv ct : Value) (us ws : List Value), us.length = n → ws.length = ks.length → bindArgs (PySem.W.fnOf x x (defArgs st) (defBody st) (defScope st) .none kV doc pm an cdv ct) ⟨us, ks.zip ws⟩ = pure (ps.zip (pick ix (us ++ ws)))) ∧ ix.length = ps.length ∧ ∀ i ∈ ix, i < n + ks.length
theorem kwB_of {K : PySem.W.Frag} {x : Str} {st : Stmt} {f : Addr} {fd : FuncData} {ps ks : List Str} {n : Nat} {ix : List Nat} (F : Fun K x x st f fd) (h : KwOk x st ps ks n ix) : KwB fd ps ks n ix := by
  obtain ⟨oc, od, kV, doc, pm, an, cdv, ct, osl, rfl, lk, hcd⟩ := F.ex
  exact ⟨fun us ws h1 h2 => h.1 kV doc pm an cdv ct us ws h1 h2, h.2.1, h.2.2⟩
section
variable {X : Cx} {j k : Nat} {ps ks : List Str} {Fs : List D → M D} {x : Str} {st : Stmt} {p pos : Pos} {e : Expr} {es : List Expr} {fs gs : Es} {ga : Option Addr} {bo : Hp} {kws : List Keyword}
/-- f(e, ..) -/
theorem dc (C : Cal X.prog X.w X.K X.mg X.base j x st ps Fs) (hr : Room k X.A) (hgd : X.A.guards = some []) (ha : PA X (e :: es) (tAs ⟨X.K, X.mg, ga, bo⟩ fs)) (hj : j ≤ k := by decide) (hg : Gl X x := by rfl)
    (hdb : (x == ("__debug__" : Str)) = false := by decide) (he : starEach (e :: es) X.env = (false, eval e X.env) :: starEach es X.env := by rfl) (hpl : (backTo pos (starEach es X.env)).any (·.1) = false := by rfl) :
    PE X (.Call (.Name x p) (e :: es) [] pos) (tP ⟨X.K, X.mg, ga, bo⟩ (eCall Fs fs)) := by
  obtain ⟨f, fd, h1, h2, h3, h4⟩ := C.ex
  exact d_call (h4.mono hj) hr hgd h1 h2.kp h3 ha hg hdb he hpl
/-- f(e, .., k = v, ..) -/
theorem dcK {n : Nat} {ix : List Nat} (C : Cal X.prog X.w X.K X.mg X.base j x st ps Fs) (hr : Room k X.A) (hgd : X.A.guards = some []) (hkw : KwOk x st ps ks n ix) (ha : PA X (e :: es) (tAs ⟨X.K, X.mg, ga, bo⟩ fs)) (hks : PK X kws (tAs ⟨X.K, X.mg, ga, bo⟩ gs)) (hn : EsN n fs) (hn2 : EsN ks.length gs) (hj : j ≤ k := by decide) (hnk : kws.length = ks.length := by rfl)
    (hg : Gl X x := by rfl) (hall : (backToKw pos (keywordEach kws X.env)).all (·.1.isSome) = true := by rfl) (hke : (backToKw pos (keywordEach kws X.env)).filterMap (·.1) = ks := by rfl)
    (hdb : (x == ("__debug__" : Str)) = false := by decide) (he : starEach (e :: es) X.env = (false, eval e X.env) :: starEach es X.env := by rfl)
    (hpl : ((backTo pos (starEach (e :: es) X.env)).any (·.1) || (backToKw pos (keywordEach kws X.env)).any (·.1.isNone)) = false := by rfl) :
    PE X (.Call (.Name x p) (e :: es) kws pos) (tP ⟨X.K, X.mg, ga, bo⟩ (eCallK Fs ix fs gs)) := by
  obtain ⟨f, fd, h1, h2, h3, h4⟩ := C.ex
  exact d_callK (h4.mono hj) hr hgd h1 h2.kp (kwB_of h2 hkw) ha hks hn hn2 hnk hg hall hke hdb he hpl
/-- f(k = v, ..) -/
theorem dcK0 {ix : List Nat} (C : Cal X.prog X.w X.K X.mg X.base j x st ps Fs) (hr : Room k X.A) (hgd : X.A.guards = some []) (hkw : KwOk x st ps ks 0 ix) (hks : PK X kws (tAs ⟨X.K, X.mg, ga, bo⟩ gs)) (hn2 : EsN ks.length gs) (hj : j ≤ k := by decide)
    (hg : Gl X x := by rfl) (hall : (backToKw pos (keywordEach kws X.env)).all (·.1.isSome) = true := by rfl) (hke : (backToKw pos (keywordEach kws X.env)).filterMap (·.1) = ks := by rfl)
    (hdb : (x == ("__debug__" : Str)) = false := by decide) (hpl : ((backTo pos (starEach [] X.env)).any (·.1) || (backToKw pos (keywordEach kws X.env)).any (·.1.isNone)) = false := by rfl) :
    PE X (.Call (.Name x p) [] kws pos) (tP ⟨X.K, X.mg, ga, bo⟩ (eCall (fun ys => Fs (pick ix ys)) gs)) := by
  obtain ⟨f, fd, h1, h2, h3, h4⟩ := C.ex
  exact d_callK0 (h4.mono hj) hr hgd h1 h2.kp (kwB_of h2 hkw) hks hn2 hg hall hke hdb hpl
end
/-! ### a sign, a chain -/
def dNeg (d : D) : M D := match d with
  | .int i => pure (.int (-i))
  | _ => stuck
section
variable {X : Cx} {c : C} {a b e : Expr} {fa fb fe f : E} {pos : Pos}
theorem d_neg (ha : PE X a (tR c fa)) : PE X (.UnaryOp .USub a pos) (tP c (eF dNeg fa)) := (pe_un un_neg ha).imp fun σ H Q ⟨H0, F, δ, g, d, g', w, o, q⟩ => by
  obtain ⟨x, g1, o1, o⟩ := ok_bind.mp o
  unfold dNeg at o
  split at o
  · obtain ⟨rfl, rfl⟩ := ok_pure.mp o
    refine ⟨H0, F, δ, g, _, g1, w, o1, fun v F1 H1 s1 r1 => ?_⟩
    have r1 := r1.rep rfl
    cases r1
    exact ⟨_, rfl, q _ F1 H1 s1 (.int _)⟩
  · exact absurd o not_ok_stuck
end
end DL

/-! ## DBor -/
set_option Elab.async false
set_option autoImplicit false
set_option linter.all false
set_option maxRecDepth 100000
set_option maxHeartbeats 4000000
/-! DBor: what is read alone: a def's outcome that is new to the last object. -/
namespace DL
open PySem PySem.Spec PyProof.Rows L2
mutual
/-- nothing that is read alone within -/
def D.nb : D → Bool
  | .lst xs => nbs xs
  | .tup xs => nbs xs
  | .bor _ => false
  | _ => true
def nbs : List D → Bool
  | [] => true
  | x :: xs => x.nb && nbs xs
end
theorem nbs_all : ∀ {xs : List D}, nbs xs = true ↔ ∀ d ∈ xs, d.nb = true
  | [] => by simp [nbs]
  | x :: xs => by
    have := nbs_all (xs := xs)
    simp [nbs, this]
def unB : D → D
  | .bor d => d
  | d => d
def eCallI (Fs : List D → M D) (fs : Es) : E := fun δ => fs δ >>= fun ds => Fs (ds.map unB) >>= fun d => if d.imm then pure d else stuck
/-- one heap laid over another -/
def un (F B : Hp) : Hp := fun a => match F a with
  | some o => some o
  | none => B a
mutual
theorem Rep.re {c c' : C} {F : Hp} (h1 : c'.mg = c.mg) (h2 : c'.ga = c.ga) : ∀ (d : D) (v : V), d.nb = true → Rep c F v d → Rep c' F v d
  | .non, _, _, r => by cases r; exact .non
  | .bl b, _, _, r => by cases r; exact .bl b
  | .int b, _, _, r => by cases r; exact .int b
  | .str b, _, _, r => by cases r; exact .str b
  | .lst ds, _, n, r => by
    cases r with
    | lst e q => exact .lst e (RepAll.re h1 h2 ds _ (by simpa [D.nb] using n) q)
  | .tup ds, _, n, r => by
    cases r with
    | tup e q => exact .tup e (RepAll.re h1 h2 ds _ (by simpa [D.nb] using n) q)
  | .dct _, _, _, r => by
    cases r with
    | dct0 e => exact .dct0 e
  | .gen, _, _, r => by
    cases r with
    | gen e => exact .gen (by rw [h2]; exact e)
  | .fn x, _, _, r => by
    cases r with
    | fn e => exact .fn (by rw [h1]; exact e)
  | .exc _ _, _, _, r => by cases r
  | .bor _, _, n, _ => by simp [D.nb] at n
theorem RepAll.re {c c' : C} {F : Hp} (h1 : c'.mg = c.mg) (h2 : c'.ga = c.ga) : ∀ (ds : List D) (vs : List V), nbs ds = true → RepAll c F vs ds → RepAll c' F vs ds
  | [], _, _, r => by cases r; exact .nil
  | d :: ds, _, n, r => by
    simp only [nbs, Bool.and_eq_true] at n
    cases r with
    | cons q t => exact .cons (Rep.re h1 h2 d _ n.1 q) (RepAll.re h1 h2 ds _ n.2 t)
end
section
variable {c : C} {F B H F' H' : Hp} {g g' : Gs}
theorem imm_any {v : V} {d : D} (h : d.imm = true) (r : Rep c B v d) : Rep c F v d := by
  cases d with
  | non => cases r; exact .non
  | bl b => cases r; exact .bl b
  | int i => cases r; exact .int i
  | str x => cases r; exact .str x
  | _ => cases h
theorem imms_any : ∀ {vs : List V} {ds : List D}, ds.all D.imm = true → RepAll c B vs ds → RepAll c F vs ds
  | _, _, _, .nil => .nil
  | _, _, h, .cons r t => by
    rw [List.all_cons, Bool.and_eq_true] at h
    exact .cons (imm_any h.1 r) (imms_any h.2 t)
theorem un_l : Same F (un F B) := fun a o e => by unfold un; rw [e]
theorem un_le (h1 : Same F H) (h2 : Same B H) : Same (un F B) H := fun a o e => by
  unfold un at e
  cases h : F a with
  | some u => rw [h] at e; cases e; exact h1 a _ h
  | none => rw [h] at e; exact h2 a _ e
theorem un_r (h1 : Same F H) (h2 : Same B H) : Same B (un F B) := fun a o e => by
  unfold un
  cases h : F a with
  | some u => exact (h1 a _ h).symm.trans (h2 a _ e)
  | none => exact e
theorem unB_rep (h1 : Same F H) (h2 : Same c.bo H) : ∀ {vs : List V} {ds : List D}, RepAll c F vs ds → RepAll c (un F c.bo) vs (ds.map unB)
  | _, _, .nil => .nil
  | _, _, .cons (d := d) r t => by
    refine .cons ?_ (unB_rep h1 h2 t)
    cases d with
    | bor d =>
      cases r with
      | bor r => exact r.up (un_r h1 h2)
    | _ => exact r.up un_l
/-- what was read alone is forgotten behind a call whose outcome is no object -/
theorem Stp.unB (gen : GenOk c F H g) (h1 : Same F H) (s : Stp c (un F c.bo) H F' H' g') : Stp c F H F H' g' :=
  ⟨Same.refl F, s.ext, fun _ a b => absurd b a, fun a o e => s.le a o (s.sub a o (un_l a o e)), ⟨fun a n => ⟨(gen.gen a n).1, (s.gen.gen a n).2⟩, s.gen.bo, s.gen.nb⟩⟩
theorem GenOk.unB (gen : GenOk c F H g) : GenOk c (un F c.bo) H g := ⟨fun a n => ⟨by
  unfold un
  rw [(gen.gen a n).1]
  exact gen.nb a n, (gen.gen a n).2⟩, gen.bo, gen.nb⟩
/-- new objects are relied on besides -/
theorem Stp.newer (h1 : Same F H) (gen : GenOk c F H g) {c0 : C} (hc : c0.ga = c.ga) (s : Stp c0 (fun _ => none) H F' H' g') : Stp c F H (un F F') H' g' := by
  have hf : Same F H' := fun a o e => s.ext a o (fun n => by
    rw [hc] at n
    rw [(gen.gen a n).1] at e; cases e) (h1 a o e)
  have hb : Same c.bo H' := fun a o e => s.ext a o (fun n => by
    rw [hc] at n
    rw [gen.nb a n] at e; cases e) (gen.bo a o e)
  refine ⟨un_l, fun a o n e => s.ext a o (by rw [hc]; exact n) e, fun a n e => ?_, un_le hf s.le, ⟨fun a n => ⟨?_, (s.gen.gen a (by rw [hc]; exact n)).2⟩, hb, gen.nb⟩⟩
  · unfold un at n
    rw [e] at n
    exact s.new a n rfl
  · unfold un
    rw [(gen.gen a n).1]
    exact (s.gen.gen a (by rw [hc]; exact n)).1
end
section
variable {X : Cx} {c : C} {a e : Expr} {f : E} {pos : Pos}
theorem d_ub (h : PE X a (tP c f)) : PE X a (tR c (eF dUnB f)) := h.imp fun σ H Q ⟨H0, F, δ, g, d, g', w, o, q⟩ => by
  obtain ⟨x, g1, o1, o⟩ := ok_bind.mp o
  unfold dUnB at o
  split at o
  · split at o
    · rename_i hi
      obtain ⟨rfl, rfl⟩ := ok_pure.mp o
      refine ⟨H0, F, δ, g, _, g1, w, o1, fun v F1 H1 s1 r1 => ?_⟩
      cases r1 with
      | bor r1 =>
        cases r1 with
        | @lst _ a vs _ ea ra => exact q _ F1 H1 s1 (.inr ⟨a, vs, _, rfl, rfl, s1.gen.bo _ _ ea, fun n => (by rw [s1.gen.nb a n] at ea; cases ea), imms_any hi ra⟩)
    · exact absurd o not_ok_stuck
  · obtain ⟨rfl, rfl⟩ := ok_pure.mp o
    exact ⟨H0, F, δ, g, _, g1, w, o1, fun v F1 H1 s1 r1 => q v F1 H1 s1 r1.b⟩
end
section
variable {X : Cx} {j k : Nat} {ps ks : List Str} {Fs : List D → M D} {x : Str} {st : Stmt} {p pos : Pos} {e : Expr} {es : List Expr} {fs gs : Es} {ga : Option Addr} {bo : Hp} {kws : List Keyword}
/-- f(e, ..), of what is read alone too, for an outcome that is no object -/
theorem dcI (C : Cal X.prog X.w X.K X.mg X.base j x st ps Fs) (hr : Room k X.A) (hgd : X.A.guards = some []) (ha : PA X (e :: es) (tAs ⟨X.K, X.mg, ga, bo⟩ fs)) (hj : j ≤ k := by decide) (hg : Gl X x := by rfl)
    (hdb : (x == ("__debug__" : Str)) = false := by decide) (he : starEach (e :: es) X.env = (false, eval e X.env) :: starEach es X.env := by rfl) (hpl : (backTo pos (starEach es X.env)).any (·.1) = false := by rfl) :
    PE X (.Call (.Name x p) (e :: es) [] pos) (tP ⟨X.K, X.mg, ga, bo⟩ (eCallI Fs fs)) := by
  obtain ⟨f, fd, h1, h2, h3, h4⟩ := C.ex
  refine (pe_callQ (h4.q.mono hj) hr hgd h1 h2.kp h3 ha hg hdb he hpl).imp fun σ H Q ⟨H0, F1, δ, g, d, g', w, o, q⟩ => ?_
  obtain ⟨ds, g1, o1, o⟩ := ok_bind.mp o
  obtain ⟨d1, g2, o2, o⟩ := ok_bind.mp o
  split at o
  · rename_i hi
    obtain ⟨rfl, rfl⟩ := ok_pure.mp o
    refine ⟨H0, F1, δ, g, ds, g1, w, o1, fun vs F1 H1 s1 r1 => ⟨by rw [r1.length, ← List.length_map (f := unB)]; exact h4.ar _ _ _ _ o2, ga, bo, un F1 bo, _, g1, d1, g2, un_le s1.le s1.gen.bo, GenOk.unB (c := ⟨X.K, X.mg, ga, bo⟩) s1.gen, unB_rep (c := ⟨X.K, X.mg, ga, bo⟩) s1.le s1.gen.bo r1, o2, fun v F2 H2 s2 r2 => ?_⟩⟩
    exact q v F1 H2 (s1.trans (Stp.unB (c := ⟨X.K, X.mg, ga, bo⟩) s1.gen s1.le s2)) (imm_any hi r2)
  · exact absurd o not_ok_stuck
/-- f(k = v, ..), as dcI -/
def eCallIK (Fs : List D → M D) (ix : List Nat) (fs : Es) : E := fun δ => fs δ >>= fun ds => Fs (pick ix (ds.map unB)) >>= fun d => if d.imm then pure d else stuck
theorem dcIK0 {ix : List Nat} (C : Cal X.prog X.w X.K X.mg X.base j x st ps Fs) (hr : Room k X.A) (hgd : X.A.guards = some []) (hkw : KwOk x st ps ks 0 ix) (hks : PK X kws (tAs ⟨X.K, X.mg, ga, bo⟩ gs)) (hn2 : EsN ks.length gs) (hj : j ≤ k := by decide)
    (hg : Gl X x := by rfl) (hall : (backToKw pos (keywordEach kws X.env)).all (·.1.isSome) = true := by rfl) (hke : (backToKw pos (keywordEach kws X.env)).filterMap (·.1) = ks := by rfl)
    (hdb : (x == ("__debug__" : Str)) = false := by decide) (hpl : ((backTo pos (starEach [] X.env)).any (·.1) || (backToKw pos (keywordEach kws X.env)).any (·.1.isNone)) = false := by rfl) :
    PE X (.Call (.Name x p) [] kws pos) (tP ⟨X.K, X.mg, ga, bo⟩ (eCallIK Fs ix gs)) := by
  obtain ⟨f, fd, h1, h2, h3, h4⟩ := C.ex
  refine (pe_callQK0 (h4.q.mono hj) hr hgd h1 h2.kp (kwB_of h2 hkw) hks hg hall hke hdb hpl).imp fun σ H Q ⟨H0, F1, δ, g, d, g', w, o, q⟩ => ?_
  obtain ⟨ds, g1, o1, o⟩ := ok_bind.mp o
  obtain ⟨d1, g2, o2, o⟩ := ok_bind.mp o
  split at o
  · rename_i hi
    obtain ⟨rfl, rfl⟩ := ok_pure.mp o
    refine ⟨H0, F1, δ, g, ds, g1, w, o1, fun vs F1 H1 s1 r1 => ⟨by rw [r1.length]; exact hn2 _ _ _ _ o1, ga, bo, un F1 bo, _, g1, d1, g2, un_le s1.le s1.gen.bo, GenOk.unB (c := ⟨X.K, X.mg, ga, bo⟩) s1.gen, pick_rep (unB_rep (c := ⟨X.K, X.mg, ga, bo⟩) s1.le s1.gen.bo r1), o2, fun v F2 H2 s2 r2 => ?_⟩⟩
    exact q v F1 H2 (s1.trans (Stp.unB (c := ⟨X.K, X.mg, ga, bo⟩) s1.gen s1.le s2)) (imm_any hi r2)
  · exact absurd o not_ok_stuck
end
theorem FnG.stuck {P : Program} {w : World} {K : PySem.W.Frag} {mg : Str → Option Value} {base : Heap} {k : Nat} {f : Addr} {fd : FuncData} {ps : List Str} : FnG P w K mg base k f fd ps (fun _ => stuck) :=
  ⟨⟨fun A outer s H args us vs Q hr hg he hb hv hl ⟨ga, bo, F, ds, g, d, g', s', gn, r, o, q⟩ => absurd o not_ok_stuck⟩, fun ds g d g' o => absurd o not_ok_stuck⟩
/-- the promise of what is new: all that the outcome is made of was not there before -/
def spN (K : PySem.W.Frag) (mg : Str → Option Value) (Fs : List D → M D) (vs : List V) (H : Hp) (Q : VK) : Prop := ∃ (ga : Option Addr) (bo : Hp) (F : Hp) (ds : List D) (g : Gs) (d : D) (g' : Gs), Same F H ∧ GenOk ⟨K, mg, ga, bo⟩ F H g ∧ RepAll ⟨K, mg, ga, bo⟩ F vs ds ∧ nbs ds = true ∧ Ok (Fs (ds.map wrapB)) g d g' ∧ d.nb = true ∧
  ∀ v F' H', Stp ⟨K, mg, ga, F⟩ (fun _ => none) H F' H' g' → Rep ⟨K, mg, ga, bo⟩ F' v d → Q v H'
theorem wrap_all {c c' : C} {F : Hp} (h1 : c'.mg = c.mg) (h2 : c'.ga = c.ga) (h3 : c'.bo = F) : ∀ {vs : List V} {ds : List D}, RepAll c F vs ds → nbs ds = true → RepAll c' (fun _ => none) vs (ds.map wrapB)
  | _, _, .nil, _ => .nil
  | _, _, .cons (d := d) r t, n => by
    simp only [nbs, Bool.and_eq_true] at n
    refine .cons ?_ (wrap_all h1 h2 h3 t n.2)
    have r' := Rep.re h1 h2 d _ n.1 r
    unfold wrapB
    split
    · rename_i h
      exact imm_any h r'
    · exact .bor (by rw [h3]; exact r')
theorem FnG.new {P : Program} {w : World} {K : PySem.W.Frag} {mg : Str → Option Value} {base : Heap} {k : Nat} {f : Addr} {fd : FuncData} {ps : List Str} {Fs : List D → M D} (G : FnG P w K mg base k f fd ps Fs) : FnQ P w K mg base k f fd ps (spN K mg Fs) :=
  G.q.imp fun vs H Q hl ⟨ga, bo, F, ds, g, d, g', s, gn, r, n, o, nd, q⟩ => ⟨ga, F, fun _ => none, ds.map wrapB, g, d, g', fun a o e => (by cases e), ⟨fun a m => ⟨rfl, (gn.gen a m).2⟩, s, fun a m => (gn.gen a m).1⟩, wrap_all (c := ⟨K, mg, ga, bo⟩) (c' := ⟨K, mg, ga, F⟩) rfl rfl rfl r n, o,
    fun v F' H' s' r' => q v F' H' s' (Rep.re (c := ⟨K, mg, ga, F⟩) (c' := ⟨K, mg, ga, bo⟩) rfl rfl d v nd r')⟩
end DL

/-! ## DEnd -/
set_option Elab.async false
set_option autoImplicit false
set_option linter.all false
set_option maxRecDepth 100000
set_option maxHeartbeats 4000000
/-! DEnd: the law's own call, by a promise FnQ. -/
namespace DL
open PySem PySem.Spec PyProof.Rows L2
section
variable {P : Program} {w : World} {K : PySem.W.Frag} {mg mb : Str → Option Value} {t : Shared} {p : Addr} {us : List Value}
/-- where the law starts: nothing but the script is tracked -/
theorem start_env {H : Hp} (inK : K.In t.heap) (top : t.heap.Ns mainGlobals mg) (bns : t.heap.Ns builtinsNs mb) (boot : ∀ y : Str, y ≠ "__name__" → mb y = bootBuiltins y) (free : t.heap.NoLimit) (noG : t.gens = #[])
    (sc : t.heap.get? p = some { cls := .type "list", data := .seq us.toArray }) (good : HOk P w H t.heap) (one : ∀ c, H c ≠ none → c = p) (apart : H p ≠ none → K.lookup p = none) :
    ∃ base : Heap, K.In base ∧ base.Ns mainGlobals mg ∧ Env0 P w K mg base callerA [] t H := by
  have low : ∀ {c : Addr} {o : Obj}, t.heap.get? c = some o → c ≠ p ∨ H p = none → (hidT t.heap H).get? c = some o := fun {c o} e n => hidT_get e (by
    by_cases z : c = p
    · rcases n with n | n
      · exact absurd z n
      · rw [z]; exact n
    · cases q : H c with
      | none => rfl
      | some u => exact absurd (one c (by rw [q]; simp)) z)
  have dct : ∀ {c : Addr} {o : Obj} {xs : Array DictEntry} {n : Nat}, t.heap.get? c = some o → o.data = .dict xs n → c ≠ p := fun {c o xs n} e d z => by
    rw [z, sc] at e
    cases e
    have d : Data.seq us.toArray _ = Data.dict xs n := d
    cases d
  have ns : ∀ {c : Addr} {m : Str → Option Value}, t.heap.Ns c m → (hidT t.heap H).Ns c m := fun {c m} ⟨o, xs, n, e, d, r⟩ => ⟨o, xs, n, low e (.inl (dct e d)), d, r⟩
  have inB : K.In (hidT t.heap H) := fun c o e => low (inK c o e) (by
    by_cases z : c = p
    · refine .inr ?_
      cases q : H p with
      | none => rfl
      | some u =>
        have n := apart (by rw [q]; simp)
        rw [z, n] at e; cases e
    · exact .inl z)
  obtain ⟨mc, f1, f2⟩ := free
  refine ⟨_, inB, ns top, { frames := rfl, mod := ⟨inB, ns top, ⟨mb, ns bns, boot⟩, ⟨mc, ns f1, f2⟩⟩, bs := fun c o e => of_hidT e, bsz := Nat.le_of_eq (hidT_size _ _), funs := trivial, frf := fun c hc => ?_, hok := good, bare := .of_eq noG }⟩
  exact absurd (show c ∈ ([] : List Addr) from hc) (by simp)
theorem call_lawQ {k : Nat} {f : Addr} {fd : FuncData} {x : Str} {sp : List V → Hp → VK → Prop} {ns : List Int} (inK : K.In t.heap) (top : t.heap.Ns mainGlobals mg) (bns : t.heap.Ns builtinsNs mb) (boot : ∀ y : Str, y ≠ "__name__" → mb y = bootBuiltins y) (free : t.heap.NoLimit) (noG : t.gens = #[])
    (sc : t.heap.get? p = some { cls := .type "list", data := .seq us.toArray }) (nums : IntsAre us ns) (few : ns.length ≤ sizeLine) (room : Room k callerA) (G : ∀ base : Heap, K.In base → base.Ns mainGlobals mg → FnQ P w K mg base k f fd [x] sp)
    (bind : ∀ (s : Shared) (u : Value), BindsTo s fd ⟨[u], []⟩ [(x, u)]) (keeps : ∀ H : Hp, Only H → SqL K H p (ns.map V.int) → sp [.ref p] H fun v _ => v = .bl true) :
    codeAny (model P w) callerA (.call (.ref f) ⟨[.ref p], []⟩) (fun r s' => r = .ok (.ret (.bool true)) ∧ OldK t.heap s'.heap ∧ s'.os = t.os ∧ AllBare s'.gens) t := by
  have rv := vals_ints nums
  have lv := nums.length
  have go : ∀ H : Hp, Only H → SqL K H p (ns.map V.int) → HOk P w H t.heap → (∀ c, H c ≠ none → c = p) → (H p ≠ none → K.lookup p = none) →
      codeAny (model P w) callerA (.call (.ref f) ⟨[.ref p], []⟩) (fun r s' => r = .ok (.ret (.bool true)) ∧ OldK t.heap s'.heap ∧ s'.os = t.os ∧ AllBare s'.gens) t := fun H only sq good one apart => by
    obtain ⟨base, b1, b2, env⟩ := start_env inK top bns boot free noG sc good one apart
    refine codeAny_mono ((G base b1 b2).run callerA [] t H ⟨[.ref p], []⟩ [.ref p] [.ref p] _ room rfl env (bind t (.ref p)) (.cons rfl .nil) rfl (keeps H only sq)) fun r s' h => ?_
    match r, h with
    | .ok (.ret u), ⟨v, H', os, bare, stay, good', rel, q⟩ =>
      have q : v = .bl true := q
      subst q
      have rel : u = Value.bool true := rel
      subst rel
      refine ⟨rfl, OldK.of_keep fun c o e => ?_, os, bare⟩
      rcases only c with z | ⟨ob, xs, z⟩
      · exact stay.keep c o e z (fun m => absurd (show c ∈ ([] : List Addr) from m) (by simp)) (by simp)
      · obtain ⟨g1, _⟩ := good c _ z
        obtain ⟨g2, _⟩ := good' c _ (stay.frzs c ob _ z)
        rw [e] at g1
        cases g1
        exact g2
  cases lk : K.lookup p with
  | some o =>
    have e := inK p o lk
    rw [sc] at e
    cases e
    exact go (fun _ => none) (fun _ => .inl rfl) (.inr ⟨_, us.toArray, _, lk, rfl, rfl, rfl, by rw [List.size_toArray, lv]; exact few, by simpa using rv⟩) (fun c u z => nomatch (show (none : Option HO) = some u from z)) (fun c z => absurd rfl z) fun z => absurd rfl z
  | none =>
    have at' : ∀ c u, (if c = p then some (HO.frz { cls := .type "list", data := .seq us.toArray } (.lst (ns.map V.int))) else none) = some u → c = p ∧ u = HO.frz { cls := .type "list", data := .seq us.toArray } (.lst (ns.map V.int)) := fun c u e => by
      by_cases z : c = p
      · rw [if_pos z] at e
        exact ⟨z, (Option.some.inj e).symm⟩
      · rw [if_neg z] at e; cases e
    refine go (fun c => if c = p then some (.frz { cls := .type "list", data := .seq us.toArray } (.lst (ns.map V.int))) else none) (fun c => ?_) (.inl (.inr ⟨{ cls := .type "list", data := .seq us.toArray }, if_pos rfl⟩)) (fun c u e => ?_) (fun c n => ?_) fun _ => lk
    · by_cases z : c = p
      · exact .inr ⟨_, _, if_pos z⟩
      · exact .inl (if_neg z)
    · obtain ⟨rfl, rfl⟩ := at' c u e
      exact ⟨sc, by rw [List.length_map]; exact few, us, _, rv, sc⟩
    · by_cases z : c = p
      · exact z
      · exact absurd (if_neg z) n
end
theorem walk_ofQ {l : PySem.W.OpenLaw} {n k : Nat} {q : Program} {loose : List Str} {XP : (Str → Option Value) → Heap → Prop} {YP : World → Heap → Prop} {d : DefRec} {K : Params → PySem.W.Frag} {sp : World → List V → Hp → VK → Prop} {x : Str}
    (most : l.most = some n) (few : n ≤ sizeLine) (nodef : d.params.defaults = []) (room : Room k callerA) (inK : ∀ (w : World) (h : Heap), YP w h → (K w.params).In h)
    (G : ∀ (w : World) (mg : Str → Option Value) (f : Addr) (h : Heap), (K w.params).In h → h.Ns mainGlobals mg → mg d.name = some (.ref f) →
      ∃ fd : FuncData, (∀ (s : Shared) (u : Value), BindsTo s fd ⟨[u], []⟩ [(x, u)]) ∧ ∀ base : Heap, (K w.params).In base → base.Ns mainGlobals mg → FnQ l.prog w (K w.params) mg base k f fd [x] (sp w))
    (keeps : ∀ (w : World) (H : Hp) (p : Addr) (ns : List Int), ns.length ≤ n → Only H → SqL (K w.params) H p (ns.map V.int) → sp w [.ref p] H fun v _ => v = .bl true) :
    PySem.W.WalkO q loose XP YP l.row.toRowW d [] (fun f vs => PySem.call f vs) := by
  refine Att.attach_call most nodef fun w s₀ t mg mb f o pm cd doc p us ns T Y ho hd hcd hm sc nums len noG => ?_
  obtain ⟨fd, b, g⟩ := G w mg f _ (inK w _ Y) T.T.g hm
  exact call_lawQ (inK w _ Y) T.T.g T.T.b T.T.builtins T.T.nolimit noG sc nums (Nat.le_trans len few) room g b fun H o s => keeps w H p ns len o s
end DL

/-! ## DOdd -/
set_option Elab.async false
set_option autoImplicit false
set_option linter.all false
set_option maxRecDepth 100000
set_option maxHeartbeats 4000000
/-! DOdd: a turn of a loop over new lists that are spoilt at the turn's end. -/
namespace DL
open PySem PySem.Spec PyProof.Rows L2
/-- a statement's reading, whatever is read alone -/
def tSx (K : PySem.W.Frag) (mg : Str → Option Value) (s : S) : TS := fun D σ H => ∃ ga bo, tS ⟨K, mg, ga, bo⟩ s D σ H
theorem psx {X : Cx} {st : Stmt} {s : S} (h : ∀ ga bo, PS X st (tS ⟨X.K, X.mg, ga, bo⟩ s)) : PS X st (tSx X.K X.mg s) := ⟨fun pins t σ H D I ⟨ga, bo, q⟩ => (h ga bo).run pins t σ H D I q⟩
/-- x[0].append('odd'), x.append('odd') -/
def tOdd1 (K : PySem.W.Frag) (i : Nat) : TS := fun D σ H => ∃ r b u us ys, σ[i]? = some (some (.ref r)) ∧ H r = some (.lst (u :: us)) ∧ u = .ref b ∧ H b = some (.lst ys) ∧ ys.length < sizeLine ∧ D.nx σ (upd H b (.lst (ys ++ [.str "odd"])))
def tOdd0 (K : PySem.W.Frag) (i : Nat) : TS := fun D σ H => ∃ r ys, σ[i]? = some (some (.ref r)) ∧ H r = some (.lst ys) ∧ ys.length < sizeLine ∧ D.nx σ (upd H r (.lst (ys ++ [.str "odd"])))
section
variable {X : Cx} {a : Expr} {i : Nat}
theorem ps_odd0 {apos pos p2 sp : Pos} {sj : Nat} (hv : PE X a (tVar i)) (hbase : attributeBase a "append" X.env (eval a X.env) = eval a X.env := by rfl)
    (hfew : ((backTo pos (starEach [.Constant (.str "odd") sj sp] X.env)).all (fun x => !x.1) && (backToKw pos (keywordEach [] X.env)).all (fun x => x.1.isSome) && decide ([Expr.Constant (.str "odd") sj sp].length + ([] : List Keyword).length + (if ([] : List Keyword).isEmpty then 0 else 1) < 30)) = true := by rfl)
    (hline : (apos.endLine == pos.line) = true := by rfl) (hs : starEach [.Constant (.str "odd") sj sp] X.env = (false, eval (.Constant (.str "odd") sj sp) X.env) :: starEach [] X.env := by rfl)
    (hsw : swapsWith (.Call (.Attribute a "append" apos) [.Constant (.str "odd") sj sp] [] pos) none p2.line X.env = pure false := by rfl) :
    PS X (.Expr (.Call (.Attribute a "append" apos) [.Constant (.str "odd") sj sp] [] pos) p2) (tOdd0 X.K i) :=
  (ps_expr (pe_bm PySem.F.plainAttrs_list PySem.F.slot_list_append PySem.F.type_list_append mt_append hv (pa_cons pe_str pa_nil hs) hbase hfew hline hs rfl) hsw).imp fun D σ H ⟨r, ys, e, h, hz, q⟩ =>
    ⟨.ref r, e, .inl ⟨rfl, ys, SqL.of h⟩, r, ys, .str "odd", rfl, rfl, h, hz, q⟩
theorem ps_odd1 {apos pos p2 sp kp ip : Pos} {sj kj : Nat} (hv : PE X a (tVar i)) (hbase : attributeBase (.Subscript a (.Constant (.int 0) kj kp) ip) "append" X.env (eval (.Subscript a (.Constant (.int 0) kj kp) ip) X.env) = eval (.Subscript a (.Constant (.int 0) kj kp) ip) X.env := by rfl)
    (hfew : ((backTo pos (starEach [.Constant (.str "odd") sj sp] X.env)).all (fun x => !x.1) && (backToKw pos (keywordEach [] X.env)).all (fun x => x.1.isSome) && decide ([Expr.Constant (.str "odd") sj sp].length + ([] : List Keyword).length + (if ([] : List Keyword).isEmpty then 0 else 1) < 30)) = true := by rfl)
    (hline : (apos.endLine == pos.line) = true := by rfl) (hs : starEach [.Constant (.str "odd") sj sp] X.env = (false, eval (.Constant (.str "odd") sj sp) X.env) :: starEach [] X.env := by rfl)
    (hsw : swapsWith (.Call (.Attribute (.Subscript a (.Constant (.int 0) kj kp) ip) "append" apos) [.Constant (.str "odd") sj sp] [] pos) none p2.line X.env = pure false := by rfl) :
    PS X (.Expr (.Call (.Attribute (.Subscript a (.Constant (.int 0) kj kp) ip) "append" apos) [.Constant (.str "odd") sj sp] [] pos) p2) (tOdd1 X.K i) :=
  (ps_expr (pe_bm PySem.F.plainAttrs_list PySem.F.slot_list_append PySem.F.type_list_append mt_append (pe_ix ix_list hv pe_int (fun _ _ => rfl)) (pa_cons pe_str pa_nil hs) hbase hfew hline hs rfl) hsw).imp fun D σ H ⟨r, b, u, us, ys, e, h1, eu, h2, hz, q⟩ => by
    subst eu
    exact ⟨.ref r, e, ⟨r, _, 0, .ref b, rfl, rfl, SqL.of h1, atI_nat (j := 0) rfl, .inl ⟨rfl, ys, SqL.of h2⟩, b, ys, .str "odd", rfl, rfl, h2, hz, q⟩⟩
end
/-- new lists, apart from what is relied on -/
structure NewAt (c : C) (F H0 : Hp) (L : Addr) (H N : Hp) (v : V) (d : D) : Prop where
  le : Same N H
  ap : ∀ a, N a ≠ none → F a = none ∧ H0 a = none ∧ a ≠ L ∧ c.ga ≠ some a
  rep : Rep c N v d
  nb : d.nb = true
/-- the state of a def over wheels, a text and a row, behind the turn's body -/
def oddEnd (fl : Fl) : M (D × Str) := match fl with
  | .nx [.val .gen, .val (.bor w), .val (.str k), .val (.lst (.lst x :: xs)), _, _, _] => if w.nb = true ∧ lim (x.length + 2) = true ∧ lim (xs.length + 2) = true then pure (w, k) else stuck
  | _ => stuck
def oddTurn (body : S) (w : D) (k : Str) (r : D) : M (D × Str) := body [.val .gen, .val (.bor w), .val (.str k), .val r, .no, .no, .no] >>= oddEnd
def keep3 (w : D) (k : Str) : Dlt := [.val .gen, .val w, .val (.str k), .no, .no, .no, .no]
theorem odd_turn {c : C} {sA sB : S} {F0 H0 F H N O : Hp} {σ : L2.St} {g g' : Gs} {w w' r : D} {k k' : Str} {v : V} {L : Addr} {lv : List V} {De : Ends} {K : PySem.W.Frag} (wd : Wd c H0 F H σ (keep3 w k) g) (sp : Stp c F0 H0 F H g) (hw : w.nb = true) (hL : H L = some (.lst lv)) (hLg : c.ga ≠ some L)
    (nw : NewAt c F H0 L H N v r) (oO : Same O H) (ap : ∀ a, N a ≠ none → O a = none) (og : ∀ a, c.ga = some a → O a = none) (ok : Ok (oddTurn (sSeq sA sB) w k r) g (w', k') g')
    (hn : ∀ σ' H', Wd c H0 F H' σ' (keep3 w' k') g' → Stp c F0 H0 F H' g' → w'.nb = true → H' L = some (.lst lv) → Same O H' → De.nx σ' H') :
    tSeq (tSx c.K c.mg sA) (tSeq (tSx c.K c.mg sB) (tSeq (tOdd1 K 3) (tOdd0 K 3))) De (σ.set 3 (some v)) H := by
  obtain ⟨fl, g1, ok1, ok2⟩ := ok_bind.mp ok
  unfold oddEnd at ok2
  split at ok2
  · rename_i w1 k1 x xs s4 s5 s6
    split at ok2
    · rename_i hc
      obtain ⟨hw1, hx, hxs⟩ := hc
      obtain ⟨e, rfl⟩ := ok_pure.mp ok2
      cases e
      obtain ⟨fa, g2, okA, okB⟩ := ok_bind.mp ok1
      cases fa with
      | nx δ1 =>
        have l7 : σ.length = 7 := wd.len.symm
        have gab : ∀ a, c.ga = some a → N a = none := fun a n => by
          cases e : N a with
          | none => rfl
          | some o => exact absurd n (nw.ap a (by rw [e]; simp)).2.2.2
        have gen1 : GenOk ⟨c.K, c.mg, c.ga, F⟩ N H g := ⟨fun a n => ⟨gab a n, (wd.gen.gen a n).2⟩, wd.le, fun a n => (wd.gen.gen a n).1⟩
        have rv : ∀ (i : Nat) (d : DL.D), [Sl.val D.gen, .val (.bor w), .val (.str k), .val r, .no, .no, .no][i]? = some (Sl.val d) → ∃ u, (σ.set 3 (some v))[i]? = some (some u) ∧ Rep ⟨c.K, c.mg, c.ga, F⟩ N u d := fun i d h => by
          match i, h with
          | 0, h =>
            cases h
            obtain ⟨u, e1, e2⟩ := wd.val 0 .gen rfl
            refine ⟨u, by rw [List.getElem?_set_ne (by decide)]; exact e1, ?_⟩
            cases e2 with
            | gen e => exact .gen e
          | 1, h =>
            cases h
            obtain ⟨u, e1, e2⟩ := wd.val 1 w rfl
            exact ⟨u, by rw [List.getElem?_set_ne (by decide)]; exact e1, .bor (Rep.re (c := c) (c' := ⟨c.K, c.mg, c.ga, F⟩) rfl rfl w u hw e2)⟩
          | 2, h =>
            cases h
            obtain ⟨u, e1, e2⟩ := wd.val 2 (.str k) rfl
            refine ⟨u, by rw [List.getElem?_set_ne (by decide)]; exact e1, ?_⟩
            cases e2
            exact .str k
          | 3, h =>
            cases h
            exact ⟨v, by rw [List.getElem?_set_self (by omega)], Rep.re (c := c) (c' := ⟨c.K, c.mg, c.ga, F⟩) rfl rfl r v nw.nb nw.rep⟩
          | 4, h => cases h
          | 5, h => cases h
          | 6, h => cases h
          | i + 7, h => simp at h
        have no : ∀ (i : Nat) (zs : List DL.D), [Sl.val D.gen, .val (.bor w), .val (.str k), .val r, .no, .no, .no][i]? ≠ some (Sl.own zs) := fun i zs h => by
          match i, h with
          | 0, h => cases h
          | 1, h => cases h
          | 2, h => cases h
          | 3, h => cases h
          | 4, h => cases h
          | 5, h => cases h
          | 6, h => cases h
          | i + 7, h => simp at h
        have w1 : Wd ⟨c.K, c.mg, c.ga, F⟩ H N H (σ.set 3 (some v)) [.val .gen, .val (.bor w), .val (.str k), .val r, .no, .no, .no] g :=
          ⟨nw.le, gen1, by simp [l7], rv, fun i zs h => absurd h (no i zs), fun i j xs ys _ h => absurd h (no i xs), wd.le⟩
        refine ⟨c.ga, F, N, H, N, _, g, _, g2, w1, .refl nw.le gen1, okA, fun σ2 F2 H2 w2 s2 _ => ⟨c.ga, F, N, H, F2, _, g2, _, g1, w2, s2, okB, fun σ3 F3 H3 w3 s3 _ => ?_⟩⟩
        obtain ⟨z3, b1, r3⟩ := w3.val 3 _ rfl
        cases r3 with
        | @lst _ p vs _ ep rp =>
          cases rp with
          | @cons _ u us _ _ ru rus =>
            cases ru with
            | @lst _ b ys _ eb rb =>
              have lys := rb.length
              have lus := rus.length
              have hx' := lim_le hx
              have hxs' := lim_le hxs
              -- what is spoilt is apart from all that stays
              have off : ∀ a, F3 a ≠ none → F a = none ∧ H0 a = none ∧ a ≠ L ∧ c.ga ≠ some a ∧ O a = none := fun a n => by
                have ng : c.ga ≠ some a := fun z => n (w3.gen.gen a z).1
                by_cases hN : N a = none
                · have hH := s3.new a n hN
                  refine ⟨?_, ?_, fun z => ?_, ng, ?_⟩
                  · cases e : F a with
                    | none => rfl
                    | some o => rw [wd.le a o e] at hH; cases hH
                  · cases e : H0 a with
                    | none => rfl
                    | some o => rw [sp.ext a o ng e] at hH; cases hH
                  · rw [z, hL] at hH; cases hH
                  · cases e : O a with
                    | none => rfl
                    | some o => rw [oO a o e] at hH; cases hH
                · obtain ⟨q1, q2, q3, q4⟩ := nw.ap a hN
                  exact ⟨q1, q2, q3, q4, ap a hN⟩
              have offb := off b (by rw [eb]; simp)
              have offp := off p (by rw [ep]; simp)
              refine ⟨p, b, .ref b, us, ys, b1, w3.le _ _ ep, rfl, w3.le _ _ eb, by omega, ?_⟩
              have hz : ∃ zs, upd H3 b (.lst (ys ++ [.str "odd"])) p = some (.lst zs) ∧ zs.length < sizeLine := by
                by_cases e : p = b
                · subst e
                  exact ⟨_, upd_same, by rw [List.length_append]; simp; omega⟩
                · exact ⟨_, by rw [upd_ne e]; exact w3.le _ _ ep, by simp; omega⟩
              obtain ⟨zs, hz1, hz2⟩ := hz
              refine ⟨p, zs, b1, hz1, hz2, ?_⟩
              have stay : ∀ a o, a ≠ b → a ≠ p → H3 a = some o → upd (upd H3 b (.lst (ys ++ [.str "odd"]))) p (.lst (zs ++ [.str "odd"])) a = some o := fun a o n1 n2 e => by
                rw [upd_ne n2, upd_ne n1]; exact e
              have exH : ∀ a o, c.ga ≠ some a → H a = some o → H3 a = some o := s3.ext
              have s5 : Stp c F0 H0 F (upd (upd H3 b (.lst (ys ++ [.str "odd"]))) p (.lst (zs ++ [.str "odd"]))) g1 := by
                have ext : ∀ a o, c.ga ≠ some a → H0 a = some o → upd (upd H3 b (.lst (ys ++ [.str "odd"]))) p (.lst (zs ++ [.str "odd"])) a = some o := fun a o n e =>
                  stay a o (ne_of_none e offb.2.1) (ne_of_none e offp.2.1) (exH a o n (sp.ext a o n e))
                refine ⟨sp.sub, ext, sp.new, fun a o e => ?_, ⟨fun a n => ⟨(wd.gen.gen a n).1, ?_⟩, fun a o e => ?_, wd.gen.nb⟩⟩
                · have n : c.ga ≠ some a := fun z => by rw [(wd.gen.gen a z).1] at e; cases e
                  exact stay a o (ne_of_none e offb.1) (ne_of_none e offp.1) (exH a o n (wd.le a o e))
                · exact stay a _ (fun z => offb.2.2.2.1 (by rw [← z]; exact n)) (fun z => offp.2.2.2.1 (by rw [← z]; exact n)) (w3.gen.gen a n).2
                · have n : c.ga ≠ some a := fun z => by rw [wd.gen.nb a z] at e; cases e
                  exact ext a o n (wd.bo0 a o e)
              have no2 : ∀ (i : Nat) (zs : List DL.D), (keep3 w' k')[i]? ≠ some (Sl.own zs) := fun i zs h => by
                match i, h with
                | 0, h => cases h
                | 1, h => cases h
                | 2, h => cases h
                | 3, h => cases h
                | 4, h => cases h
                | 5, h => cases h
                | 6, h => cases h
                | i + 7, h => simp [keep3] at h
              refine hn σ3 _ ⟨s5.le, s5.gen, w3.len, fun i d h => ?_, fun i zs h => absurd h (no2 i zs), fun i j xs ys _ h => absurd h (no2 i xs), wd.bo0⟩ s5 hw1 ?_ (fun a o e => ?_)
              · match i, h with
                | 0, h =>
                  cases h
                  obtain ⟨u, e1, e2⟩ := w3.val 0 .gen rfl
                  refine ⟨u, e1, ?_⟩
                  cases e2 with
                  | gen e => exact .gen e
                | 1, h =>
                  cases h
                  obtain ⟨u, e1, e2⟩ := w3.val 1 _ rfl
                  cases e2 with
                  | bor e2 => exact ⟨u, e1, Rep.re (c := ⟨c.K, c.mg, c.ga, F⟩) (c' := c) rfl rfl _ u hw1 e2⟩
                | 2, h =>
                  cases h
                  obtain ⟨u, e1, e2⟩ := w3.val 2 _ rfl
                  refine ⟨u, e1, ?_⟩
                  cases e2
                  exact .str _
                | 3, h => cases h
                | 4, h => cases h
                | 5, h => cases h
                | 6, h => cases h
                | i + 7, h => simp [keep3] at h
              · exact stay L _ (Ne.symm offb.2.2.1) (Ne.symm offp.2.2.1) (exH L _ hLg hL)
              · have n : c.ga ≠ some a := fun z => by rw [og a z] at e; cases e
                exact stay a o (fun z => by rw [z, offb.2.2.2.2] at e; cases e) (fun z => by rw [z, offp.2.2.2.2] at e; cases e) (exH a o n (oO a o e))
      | rt d =>
        obtain ⟨e, _⟩ := ok_pure.mp okB
        cases e
      | bk δ' =>
        obtain ⟨e, _⟩ := ok_pure.mp okB
        cases e
      | ct δ' =>
        obtain ⟨e, _⟩ := ok_pure.mp okB
        cases e
    · exact absurd ok2 not_ok_stuck
  · exact absurd ok2 not_ok_stuck
/-- for x in [f(w), f(p=w)]: A; B; x[0].append('odd'); x.append('odd') -/
def sRows (Fs : List D → M D) (sA sB : S) : S := fun δ => match δ with
  | [.val .gen, .val w, .val (.str k), .no, .no, .no, .no] => if w.nb then Fs [wrapB w] >>= fun r1 => Fs [wrapB w] >>= fun r2 => if r1.nb && r2.nb then
      oddTurn (sSeq sA sB) w k r1 >>= fun p => oddTurn (sSeq sA sB) p.1 p.2 r2 >>= fun p => pure (.nx (keep3 p.1 p.2)) else stuck else stuck
  | _ => stuck
def tOne (K : PySem.W.Frag) (mg : Str → Option Value) (Fs : List D → M D) : TE := fun σ H Q => tCons (tVar 1) tNil σ H fun vs H1 => vs.length = 1 ∧ spN K mg Fs vs H1 Q
def tOneK (K : PySem.W.Frag) (mg : Str → Option Value) (Fs : List D → M D) : TE := fun σ H Q => tCons (tVar 1) tNil σ H fun vs H1 => vs.length = 1 ∧ spN K mg Fs (pick [0] vs) H1 Q
theorem oddEnd_nb {fl : Fl} {g g' : Gs} {p : D × Str} (h : Ok (oddEnd fl) g p g') : p.1.nb = true := by
  unfold oddEnd at h
  split at h
  · split at h
    · rename_i hc
      obtain ⟨rfl, _⟩ := ok_pure.mp h
      exact hc.1
    · exact absurd h not_ok_stuck
  · exact absurd h not_ok_stuck
theorem rows_imp {c : C} {Fs : List D → M D} {sA sB : S} : ∀ De σ H, tS c (sRows Fs sA sB) De σ H →
    tFor (iList c.K (tLst (tCons (tOne c.K c.mg Fs) (tCons (tOneK c.K c.mg Fs) tNil)))) (gName 3) (tSeq (tSx c.K c.mg sA) (tSeq (tSx c.K c.mg sB) (tSeq (tOdd1 c.K 3) (tOdd0 c.K 3)))) De σ H := fun De σ H ⟨F0, H0, F, δ, g, r, g', wd, sp, o, q⟩ => by
  unfold sRows at o
  split at o
  · rename_i w k
    split at o
    · rename_i hw
      obtain ⟨r1, g1, o1, o⟩ := ok_bind.mp o
      obtain ⟨r2, g2, o2, o⟩ := ok_bind.mp o
      split at o
      · rename_i hnb
        rw [Bool.and_eq_true] at hnb
        obtain ⟨⟨wa, ka⟩, g3, o3, o⟩ := ok_bind.mp o
        obtain ⟨⟨wb, kb⟩, g4, o4, o⟩ := ok_bind.mp o
        obtain ⟨rfl, rfl⟩ := ok_pure.mp o
        obtain ⟨x1, e1, rx⟩ := wd.val 1 w rfl
        have genF : ∀ a, c.ga = some a → F a = none := fun a n => (wd.gen.gen a n).1
        refine ⟨x1, e1, rfl, c.ga, c.bo, F, [w], g, r1, g1, wd.le, wd.gen, .cons rx .nil, by simp [nbs, hw], o1, hnb.1, fun v1 F1 H1 s1 q1 => ?_⟩
        have t1 : Stp c F H (un F F1) H1 g1 := Stp.newer (c0 := ⟨c.K, c.mg, c.ga, F⟩) wd.le wd.gen rfl s1
        have leF1 : Same F H1 := fun a o e => t1.ext a o (fun n => by rw [genF a n] at e; cases e) (wd.le a o e)
        have gen1 : GenOk c F H1 g1 := ⟨fun a n => ⟨genF a n, (t1.gen.gen a n).2⟩, t1.gen.bo, t1.gen.nb⟩
        refine ⟨x1, e1, rfl, c.ga, c.bo, F, [w], g1, r2, g2, leF1, gen1, .cons rx .nil, by simp [nbs, hw], o2, hnb.2, fun v2 F2 H2 s2 q2 => ?_⟩
        have t2 : Stp c F H1 (un F F2) H2 g2 := Stp.newer (c0 := ⟨c.K, c.mg, c.ga, F⟩) leF1 gen1 rfl s2
        refine ⟨by show 2 ≤ sizeLine; decide, fun L hL => ⟨L, rfl, ⟨_, SqL.of upd_same⟩, ?_⟩⟩
        have gaN : ∀ a, c.ga = some a → H2 a ≠ none := fun a n => by rw [(s2.gen.gen a n).2]; simp
        have hLg : c.ga ≠ some L := fun n => gaN L n hL
        have k1 : ∀ a o, c.ga ≠ some a → H a = some o → H2 a = some o := fun a o n e => t2.ext a o n (t1.ext a o n e)
        have k2 : ∀ a o, c.ga ≠ some a → H a = some o → upd H2 L (.lst [v1, v2]) a = some o := fun a o n e => by
          rw [upd_ne (ne_of_none (k1 a o n e) hL)]; exact k1 a o n e
        have f1g : ∀ a, c.ga = some a → F1 a = none := fun a n => (s1.gen.gen a n).1
        have f2g : ∀ a, c.ga = some a → F2 a = none := fun a n => (s2.gen.gen a n).1
        have le1 : Same F1 (upd H2 L (.lst [v1, v2])) := fun a o e => by
          have n : c.ga ≠ some a := fun z => by rw [f1g a z] at e; cases e
          have e2 := t2.ext a o n (s1.le a o e)
          rw [upd_ne (ne_of_none e2 hL)]; exact e2
        have le2 : Same F2 (upd H2 L (.lst [v1, v2])) := fun a o e => by
          rw [upd_ne (ne_of_none (s2.le a o e) hL)]; exact s2.le a o e
        have hH0 : ∀ a, c.ga ≠ some a → H a = none → H0 a = none := fun a n h => by
          cases e : H0 a with
          | none => rfl
          | some o => rw [sp.ext a o n e] at h; cases h
        have hF : ∀ a, H a = none → F a = none := fun a h => by
          cases e : F a with
          | none => rfl
          | some o => rw [wd.le a o e] at h; cases h
        have new1 : ∀ a, F1 a ≠ none → H a = none := fun a n => s1.new a n rfl
        have new2 : ∀ a, F2 a ≠ none → H1 a = none := fun a n => s2.new a n rfl
        have h1H : ∀ a, c.ga ≠ some a → H1 a = none → H a = none := fun a n h => by
          cases e : H a with
          | none => rfl
          | some o => rw [t1.ext a o n e] at h; cases h
        have nF2 : ∀ a, F2 a ≠ none → c.ga ≠ some a := fun a h z => h (f2g a z)
        have nF1 : ∀ a, F1 a ≠ none → c.ga ≠ some a := fun a h z => h (f1g a z)
        have a1 : NewAt c F H0 L (upd H2 L (.lst [v1, v2])) F1 v1 r1 := ⟨le1, fun a n => ⟨hF a (new1 a n), hH0 a (nF1 a n) (new1 a n), (fun z => by
          rw [z] at n
          cases e : F1 L with
          | none => exact n e
          | some o => rw [t2.ext L o hLg (s1.le L o e)] at hL; cases hL), nF1 a n⟩, q1, hnb.1⟩
        have a2 : ∀ H', Same F2 H' → NewAt c F H0 L H' F2 v2 r2 := fun H' hs => ⟨hs, fun a n => ⟨hF a (h1H a (nF2 a n) (new2 a n)), hH0 a (nF2 a n) (h1H a (nF2 a n) (new2 a n)), (fun z => by
          rw [z] at n
          cases e : F2 L with
          | none => exact n e
          | some o => rw [s2.le L o e] at hL; cases hL), nF2 a n⟩, q2, hnb.2⟩
        have ap12 : ∀ a, F1 a ≠ none → F2 a = none := fun a n => by
          cases e : F2 a with
          | none => rfl
          | some o =>
            have h := new2 a (by rw [e]; simp)
            cases e1 : F1 a with
            | none => exact absurd e1 n
            | some o1 => rw [s1.le a o1 e1] at h; cases h
        have st0 : Stp c F H F (upd H2 L (.lst [v1, v2])) g2 := by
          have ext := k2
          refine ⟨.refl F, ext, fun a h1 h2 => absurd h2 h1, fun a o e => ext a o (fun n => by rw [genF a n] at e; cases e) (wd.le a o e), ⟨fun a n => ⟨genF a n, ?_⟩, fun a o e => ext a o (fun n => by rw [wd.gen.nb a n] at e; cases e) (wd.gen.bo a o e), wd.gen.nb⟩⟩
          rw [upd_ne (fun z => hLg (by rw [← z]; exact n))]
          exact (s2.gen.gen a n).2
        refine ⟨fun i m σ' H' => (i = 0 ∧ m = 2 ∧ σ' = σ ∧ H' = upd H2 L (.lst [v1, v2])) ∨ (i = 1 ∧ m = 1 ∧ Wd c H0 F H' σ' (keep3 wa ka) g3 ∧ Stp c F0 H0 F H' g3 ∧ wa.nb = true ∧ H' L = some (.lst [v1, v2]) ∧ Same F2 H') ∨
          (i = 2 ∧ m = 0 ∧ Wd c H0 F H' σ' (keep3 wb kb) g4 ∧ Stp c F0 H0 F H' g4 ∧ H' L = some (.lst [v1, v2])), ⟨2, .inl ⟨rfl, rfl, rfl, rfl⟩⟩, fun i m σ' H' h => ?_⟩
        rcases h with ⟨rfl, rfl, rfl, rfl⟩ | ⟨rfl, rfl, w', sp', nba, hL', hF2⟩ | ⟨rfl, rfl, w', sp', hL'⟩
        · refine .inr ⟨⟨_, v1, SqL.of upd_same, rfl⟩, fun σ2 H2' => Wd c H0 F H2' σ2 (keep3 wa ka) g3 ∧ Stp c F0 H0 F H2' g3 ∧ wa.nb = true ∧ H2' L = some (.lst [v1, v2]) ∧ Same F2 H2', fun σ2 H2' hN => ⟨1, by decide, .inr (.inl ⟨rfl, rfl, hN⟩)⟩, fun x H' hy => ?_⟩
          obtain ⟨rfl, hx⟩ := hy
          have ex := hx _ (SqL.of upd_same)
          cases ex
          exact odd_turn (wd.step st0) (sp.trans st0) hw upd_same hLg a1 le2 ap12 f2g o3 fun σ'' H'' w'' s'' n'' l'' f'' => ⟨w'', s'', n'', l'', f''⟩
        · refine .inr ⟨⟨_, v2, SqL.of hL', rfl⟩, fun σ2 H2' => Wd c H0 F H2' σ2 (keep3 wb kb) g4 ∧ Stp c F0 H0 F H2' g4 ∧ H2' L = some (.lst [v1, v2]), fun σ2 H2' hN => ⟨0, by decide, .inr (.inr ⟨rfl, rfl, hN⟩)⟩, fun x H'' hy => ?_⟩
          obtain ⟨rfl, hx⟩ := hy
          have ex := hx _ (SqL.of hL')
          cases ex
          exact odd_turn (O := fun _ => none) w' sp' nba hL' hLg (a2 _ hF2) (fun a o e => by cases e) (fun _ _ => rfl) (fun _ _ => rfl) o4 fun σ'' H'' w'' s'' n'' l'' f'' => ⟨w'', s'', l''⟩
        · exact .inl ⟨⟨_, SqL.of hL', Nat.le_refl _⟩, q σ' F H' w' sp' (.refl F)⟩
      · exact absurd o not_ok_stuck
    · exact absurd o not_ok_stuck
  · exact absurd o not_ok_stuck
end DL

/-! ## FK76 -/
set_option autoImplicit false
set_option linter.all false
namespace K76
open PySem DL
/-- is_whole: 0 value -/
def f_is_whole : List D → M D := fn 1 1 (sRet (eAnd (eF (fun d => dIsI d "int") (eV 0)) (eF dNot (eF (fun d => dIsI d "bool") (eV 0)))))
/-- is_count: 0 value -/
def f_is_count : List D → M D := fn 1 1 (sRet (eAnd (eCall f_is_whole (esC (eW 0) (esN))) (eO dGe (eV 0) (eK (.int 0)))))
/-- ascends: 0 items, 1 at -/
def f_ascends : List D → M D := fn 2 1 (sRet (eO dEq (eLc [1] (gN 1) (xR2 (eK (.int 1)) (eF dLen (eV 0))) (eO dGe (eO dIx (eV 0) (eO dSub (eV 1) (eK (.int 1)))) (eO dIx (eV 0) (eV 1))) (eW 1)) (eLst (esN))))
/-- are_figures: 0 value, 1 figure -/
def f_are_figures : List D → M D := fn 2 1 (sSeq (sIf (eOr (eF dNot (eF (fun d => dIsI d "list") (eV 0))) (eOr (eO dEq (eV 0) (eLst (esN))) (eF dNot (eF dAll (eLc [1] (gN 1) (xL (eW 0)) (eK (.bl true)) (eAnd (eCall f_is_count (esC (eW 1) (esN))) (eO dLt (eV 1) (eK (.int 10))))))))) (sRet (eK (.bl false))) (sSkip)) (sRet (eCall f_ascends (esC (eW 0) (esN)))))
/-- are_wheels: 0 value, 1 figures -/
def f_are_wheels : List D → M D := fn 2 1 (sRet (eAnd (eF (fun d => dIsI d "list") (eV 0)) (eAnd (eO dNe (eV 0) (eLst (esN))) (eF dAll (eLc [1] (gN 1) (xL (eW 0)) (eK (.bl true)) (eCall f_are_figures (esC (eW 1) (esN))))))))
/-- check_wheels: 0 wheels -/
def f_check_wheels : List D → M D := fn 1 1 (sIf (eF dNot (eCall f_are_wheels (esC (eW 0) (esN)))) ((fun _ => stuck)) (sSkip))
/-- code_fits: 0 wheels, 1 value, 2 figure, 3 figures -/
def f_code_fits : List D → M D := fn 4 2 (sSeq (sIf (eOr (eF dNot (eF (fun d => dIsI d "list") (eV 1))) (eOr (eO dNe (eF dLen (eV 1)) (eF dLen (eV 0))) (eF dNot (eF dAll (eLc [2] (gN 2) (xL (eW 1)) (eK (.bl true)) (eCall f_is_count (esC (eW 2) (esN)))))))) (sRet (eK (.bl false))) (sSkip)) (sRet (eF dAll (eLc [2, 3] (gT [gN 2, gN 3]) (xZs (eW 1) (eW 0)) (eK (.bl true)) (eO dIn (eV 2) (eV 3))))))
/-- all_codes: 0 wheels, 1 found, 2 figures, 3 code, 4 figure -/
def f_all_codes : List D → M D := fn 5 1 (sSeq (sAsg (gN 1) (eLst (esC (eLst (esN)) (esN)))) (sSeq (sFor (gN 2) (xL (eW 0)) (sAsg (gN 1) (eLc2 [3, 4] [4] (gN 3) (xL (eW 1)) (eK (.bl true)) (gN 4) (xL (eW 2)) (eK (.bl true)) (eO dAdd (eV 3) (eLst (esC (eW 4) (esN))))))) (sRet (eW 1))))
/-- is_turn: 0 wheels, 1 code, 2 late, 3 places, 4 apart, 5 figures, 6 figure, 7 other, 8 place -/
def f_is_turn : List D → M D := fn 9 3 (sSeq (sAsg (gN 3) (eLc [5, 6, 7] (gT [gN 5, gN 6, gN 7]) (xZ3 (eW 0) (eW 1) (eW 2)) (eK (.bl true)) (eTup (esC (eO dIndex (eV 5) (eV 6)) (esC (eO dIndex (eV 5) (eV 7)) (esN)))))) (sSeq (sAsg (gN 4) (eLc [8, 7] (gT [gN 8, gN 7]) (xL (eW 3)) (eO dNe (eV 8) (eV 7)) (eF dAbs (eO dSub (eV 8) (eV 7))))) (sRet (eO dEq (eV 4) (eLst (esC (eK (.int 1)) (esN)))))))
/-- is_turn_row: 0 wheels, 1 value, 2 code, 3 at -/
def f_is_turn_row : List D → M D := fn 4 2 (sSeq (sDo (eCall f_check_wheels (esC (eW 0) (esN)))) (sSeq (sIf (eOr (eF dNot (eF (fun d => dIsI d "list") (eV 1))) (eF dNot (eF dAll (eLc [2] (gN 2) (xL (eW 1)) (eK (.bl true)) (eCall f_code_fits (esC (eW 0) (esC (eW 2) (esN)))))))) (sRet (eK (.bl false))) (sSkip)) (sSeq (sIf (eO dNe (eF dSorted (eV 1)) (eCall f_all_codes (esC (eW 0) (esN)))) (sRet (eK (.bl false))) (sSkip)) (sRet (eF dAll (eLc [3] (gN 3) (xR2 (eK (.int 1)) (eF dLen (eV 1))) (eK (.bl true)) (eCall f_is_turn (esC (eW 0) (esC (eO dIx (eV 1) (eO dSub (eV 3) (eK (.int 1)))) (esC (eO dIx (eV 1) (eV 3)) (esN)))))))))))
/-- turn_row: 0 wheels, 1 found, 2 figures, 3 later, 4 at, 5 code, 6 figure -/
def f_turn_row : List D → M D := fn 7 1 (sSeq (sDo (eCallI f_check_wheels (esC (eW 0) (esN)))) (sSeq (sAsg (gN 1) (eLst (esC (eLst (esN)) (esN)))) (sSeq (sFor (gN 2) (xL (eW 0)) (sSeq (sAsg (gN 3) (eLst (esN))) (sSeq (sFor (gT [gN 4, gN 5]) (xE (eW 1)) (sAsg (gN 3) (eO dAdd (eF dUnB (eW 3)) (eLc [6] (gN 6) (xL (eIf (eO dEq (eO dMod (eF dUnB (eW 4)) (eK (.int 2))) (eK (.int 0))) (eW 2) (eF dRev (eF dUnB (eW 2))))) (eK (.bl true)) (eO dAdd (eF dUnB (eW 5)) (eLst (esC (eW 6) (esN)))))))) (sAsg (gN 1) (eW 3))))) (sRet (eW 1)))))
/-- _law_hash: 0 seed, 1 index, 2 mixed -/
def f_law_hash : List D → M D := fn 3 2 (sSeq (sAsg (gN 2) (eO dMod (eF dInt (eO dAdd (eO dAdd (eO dAdd (eO dMul (eV 0) (eK (.int 1140671))) (eO dMul (eO dMul (eK (.int 27644437)) (eV 1)) (eV 1))) (eO dMul (eK (.int 131)) (eV 1))) (eK (.int 19)))) (eK (.int 2147483629)))) (sSeq (sAsg (gN 2) (eO dMod (eF dInt (eO dAdd (eO dAdd (eO dMul (eV 2) (eV 2)) (eO dMul (eK (.int 62089)) (eV 1))) (eK (.int 32416187)))) (eK (.int 2147483587)))) (sRet (eO dMod (eF dInt (eO dMul (eV 2) (eK (.int 48271)))) (eK (.int 2147483647))))))
/-- _law_random: 0 generator, 1 bound, 2 drawn, 3 turn -/
def f_law_random : List D → M D := fn 4 2 (sSeq (sIf (eO dGt (eG 0 0) (eK (.int 0))) (sSeq (sAsg (gN 2) (eO dMod (eF dInt (eG 0 0)) (eV 1))) (sSeq (sG 0 0 (eO dFdiv (eG 0 0) (eV 1))) (sRet (eW 2)))) (sSkip)) (sSeq (sAsg (gN 2) (eK (.int 0))) (sSeq (sFor (gN 3) (xR (eO dAdd (eK (.int 1)) (eO dFdiv (eF dBits (eV 1)) (eK (.int 30))))) (sSeq (sG 0 2 (eO dAdd (eG 0 2) (eK (.int 1)))) (sAsg (gN 2) (eO dAdd (eO dMul (eV 2) (eK (.int 2147483587))) (eCall f_law_hash (esC (eG 0 1) (esC (eG 0 2) (esN)))))))) (sRet (eO dMod (eF dInt (eV 2)) (eV 1))))))
-- by hand: _law_cell ['script', 'index']
-- by hand: _law_generator ['script', 'index', 'seed']
/-- _law_pick: 0 generator, 1 things -/
def f_law_pick : List D → M D := fn 2 2 (sRet (eO dIx (eV 1) (eCall f_law_random (esC (eW 0) (esC (eF dLen (eV 1)) (esN))))))
/-- _law_same: 0 found, 1 due, 2 one, 3 other, 4 name -/
def f_law_same : Nat → List D → M D
  | 0 => fun _ => stuck
  | n + 1 => fn 5 2 (sSeq (sIf (eF (fun d => dIsI2 d "list" "tuple") (eV 1)) (sSeq (sIf (eOr (eO dNe (eF (fun d => dIsI d "list") (eV 0)) (eF (fun d => dIsI d "list") (eV 1))) (eO dNe (eF (fun d => dIsI d "tuple") (eV 0)) (eF (fun d => dIsI d "tuple") (eV 1)))) (sRet (eK (.bl false))) (sSkip)) (sRet (eAnd (eO dEq (eF dLen (eV 0)) (eF dLen (eV 1))) (eF dAll (eLc [2, 3] (gT [gN 2, gN 3]) (xZ (eW 0) (eW 1)) (eK (.bl true)) (eCall (f_law_same n) (esC (eW 2) (esC (eW 3) (esN))))))))) (sSkip)) (sSeq (sIf (eF (fun d => dIsI d "dict") (eV 1)) (sSeq (sIf (eOr (eF dNot (eF (fun d => dIsI d "dict") (eV 0))) (eO dNe (eF dLen (eV 0)) (eF dLen (eV 1)))) (sRet (eK (.bl false))) (sSkip)) (sRet (eF dAll (eLc [4] (gN 4) (xL (eW 1)) (eK (.bl true)) (eAnd (eO dIn (eV 4) (eV 0)) (eCall (f_law_same n) (esC (eO dIx (eV 0) (eV 4)) (esC (eO dIx (eV 1) (eV 4)) (esN))))))))) (sSkip)) (sSeq (sIf (eF (fun d => dIsI d "str") (eV 1)) (sRet (eAnd (eF (fun d => dIsI d "str") (eV 0)) (eO dEq (eV 0) (eV 1)))) (sSkip)) (sSeq (sIf (eF dIsN (eV 1)) (sRet (eF dIsN (eV 0))) (sSkip)) (sRet (eAnd (eF (fun d => dIsI d "int") (eV 0)) (eAnd (eO dEq (eF (fun d => dIsI d "bool") (eV 0)) (eF (fun d => dIsI d "bool") (eV 1))) (eO dEq (eV 0) (eV 1)))))))))
/-- _law_shuffled: 0 generator, 1 things, 2 left, 3 found -/
def f_law_shuffled : List D → M D := fn 4 2 (sSeq (sParOO 2 3 (eF dList (eV 1)) (eLst (esN))) (sSeq (sWh 1000 (eO dNe (eV 2) (eLst (esN))) (sAppPop 3 2 (eCall f_law_random (esC (eW 0) (esC (eF dLen (eV 2)) (esN)))))) (sSeq (sFrz 3) (sRet (eW 3)))))
/-- _law_wheels: 0 generator, 1 most, 2 codes, 3 found, 4 product, 5 turn, 6 figures -/
def f_law_wheels : List D → M D := fn 7 3 (sSeq (sPar 3 4 (eLst (esN)) (eK (.int 1))) (sSeq (sFor (gN 5) (xR (eO dAdd (eK (.int 1)) (eCall f_law_random (esC (eW 0) (esC (eW 1) (esN)))))) (sSeq (sAsg (gN 6) (eF dSorted (eCut (eCall f_law_shuffled (esC (eW 0) (esC (eLst (esC (eK (.int 0)) (esC (eK (.int 1)) (esC (eK (.int 2)) (esC (eK (.int 3)) (esC (eK (.int 4)) (esC (eK (.int 5)) (esC (eK (.int 6)) (esC (eK (.int 7)) (esC (eK (.int 8)) (esC (eK (.int 9)) (esN)))))))))))) (esN)))) (eNo) (eAt (eO dAdd (eK (.int 1)) (eCall f_law_random (esC (eW 0) (esC (eK (.int 5)) (esN))))))))) (sIf (eO dLe (eO dMul (eV 4) (eF dLen (eV 6))) (eV 2)) (sPar 3 4 (eO dAdd (eV 3) (eLst (esC (eW 6) (esN)))) (eO dMul (eV 4) (eF dLen (eV 6)))) (sSkip)))) (sRet (eIf (eO dNe (eV 3) (eLst (esN))) (eW 3) (eLst (esC (eLst (esC (eK (.int 7)) (esN))) (esN)))))))
/-- _law_codes: 0 wheels, 1 found, 2 figures, 3 longer, 4 code, 5 figure -/
def f_law_codes : List D → M D := fn 6 1 (sSeq (sAsg (gN 1) (eLst (esC (eLst (esN)) (esN)))) (sSeq (sFor (gN 2) (xL (eW 0)) (sSeq (sAsg (gN 3) (eLst (esN))) (sSeq (sFor (gN 4) (xL (eW 1)) (sAsg (gN 3) (eO dAdd (eV 3) (eLc [5] (gN 5) (xL (eW 2)) (eK (.bl true)) (eO dAdd (eV 4) (eLst (esC (eW 5) (esN)))))))) (sAsg (gN 1) (eW 3))))) (sRet (eW 1))))
/-- _law_alike: 0 code, 1 other, 2 at, 3 figure -/
def f_law_alike : List D → M D := fn 4 2 (sRet (eF dLen (eLc [2, 3] (gT [gN 2, gN 3]) (xE (eW 0)) (eO dEq (eV 3) (eO dIx (eV 1) (eV 2))) (eW 2))))
/-- _law_turned: 0 wheels, 1 code, 2 late, 3 apart, 4 figures, 5 figure, 6 other -/
def f_law_turned : List D → M D := fn 7 3 (sSeq (sAsg (gN 3) (eLc [4, 5, 6] (gT [gN 4, gN 5, gN 6]) (xZ3 (eW 0) (eW 1) (eW 2)) (eK (.bl true)) (eF dAbs (eO dSub (eO dIndex (eV 4) (eV 5)) (eO dIndex (eV 4) (eV 6)))))) (sRet (eO dIn (eCut (eF dRev (eF dSorted (eV 3))) (eNo) (eAt (eK (.int 2)))) (eLst (esC (eLst (esC (eK (.int 1)) (esN))) (esC (eLst (esC (eK (.int 1)) (esC (eK (.int 0)) (esN)))) (esN)))))))
/-- _law_is_row: 0 wheels, 1 value, 2 code, 3 late, 4 at -/
def f_law_is_row : List D → M D := fn 5 2 (sSeq (sIf (eOr (eF dNot (eF (fun d => dIsI d "list") (eV 1))) (eOr (eO dNe (eF dLen (eV 1)) (eF dLen (eCall f_law_codes (esC (eW 0) (esN))))) (eO dNe (eLc [2] (gN 2) (xL (eW 1)) (eOr (eF dNot (eF (fun d => dIsI d "list") (eV 2))) (eO dNotIn (eF dRepr (eV 2)) (eLc [3] (gN 3) (xL (eCall f_law_codes (esC (eW 0) (esN)))) (eK (.bl true)) (eF dRepr (eV 3))))) (eW 2)) (eLst (esN))))) (sRet (eK (.bl false))) (sSkip)) (sSeq (sIf (eO dNe (eF dSorted (eV 1)) (eCall f_law_codes (esC (eW 0) (esN)))) (sRet (eK (.bl false))) (sSkip)) (sRet (eO dEq (eLc [4] (gN 4) (xR2 (eK (.int 1)) (eF dLen (eV 1))) (eF dNot (eCall f_law_turned (esC (eW 0) (esC (eO dIx (eV 1) (eO dSub (eV 4) (eK (.int 1)))) (esC (eO dIx (eV 1) (eV 4)) (esN)))))) (eW 4)) (eLst (esN))))))
/-- _law_values: 0 generator, 1 row, 2 at, 3 to, 4 swapped, 5 found, 6 odd, 7 spot, 8 code -/
def f_law_values : List D → M D := fn 9 2 (sSeq (sAsg (gT [gN 2, gN 3]) (eTup (esC (eCall f_law_random (esC (eW 0) (esC (eF dLen (eV 1)) (esN)))) (esC (eCall f_law_random (esC (eW 0) (esC (eF dLen (eV 1)) (esN)))) (esN))))) (sSeq (sAsg (gN 4) (eLc [7, 8] (gT [gN 7, gN 8]) (xE (eW 1)) (eK (.bl true)) (eIf (eO dEq (eV 7) (eV 2)) (eO dIx (eV 1) (eV 3)) (eIf (eO dEq (eV 7) (eV 3)) (eO dIx (eV 1) (eV 2)) (eW 8))))) (sSeq (sOwn 5 (eLst (esC (eW 1) (esC (eF dRev (eV 1)) (esC (eCut (eV 1) (eAt (eK (.int 1))) (eNo)) (esC (eCut (eV 1) (eNo) (eAt (eF dNeg (eK (.int 1))))) (esC (eO dAdd (eV 1) (eCut (eV 1) (eAt (eF dNeg (eK (.int 1)))) (eNo))) (esC (eO dAdd (eCut (eV 1) (eAt (eK (.int 1))) (eNo)) (eCut (eV 1) (eNo) (eAt (eK (.int 1))))) (esC (eW 4) (esC (eF dSorted (eV 1)) (esC (eF dTuple (eV 1)) (esC (eK .non) (esC (eLst (esN)) (esC (eTup (esN)) (esC (eK (.dct [])) (esC (eK (.str "row")) (esC (eLc [8] (gN 8) (xL (eW 1)) (eK (.bl true)) (eF dTuple (eV 8))) (esN)))))))))))))))))) (sSeq (sFor (gN 6) (xL (eLst (esC (eK .non) (esC (eLst (esN)) (esC (eCut (eO dIx (eV 1) (eV 2)) (eNo) (eAt (eF dNeg (eK (.int 1))))) (esC (eO dAdd (eO dIx (eV 1) (eV 2)) (eLst (esC (eK (.int 0)) (esN)))) (esC (eTup (esC (eK (.int 0)) (esN))) (esC (eO dMul (eLst (esC (eK (.bl true)) (esN))) (eF dLen (eO dIx (eV 1) (eV 2)))) (esC (eO dIx (eV 1) (eV 3)) (esN)))))))))) (sApp 5 (eO dAdd (eO dAdd (eCut (eV 1) (eNo) (eAt (eV 2))) (eLst (esC (eW 6) (esN)))) (eCut (eV 1) (eAt (eO dAdd (eV 2) (eK (.int 1)))) (eNo))))) (sSeq (sFrz 5) (sRet (eW 5)))))))
-- by hand: _law_right ['generator', 'wheels', 'kept', 'row', 'value', 'due', 'shown']
-- by hand: law ['script', 'index', 'generator', 'far']
/-- _law_right: 0 generator, 1 wheels, 2 kept, 3 row, 4 value, 5 due, 6 shown; a turn of its loop -/
def sA76 : S := sIf (eF dNot (eCallI f_law_is_row (esC (eW 1) (esC (eW 3) (esN))))) (sRet (eK (.bl false))) (sSkip)
def sB76 : S := sFor (gN 4) (xL (eCall f_law_values (esC (eW 0) (esC (eW 3) (esN))))) (sSeq (sPar 5 6 (eCallI f_law_is_row (esC (eW 1) (esC (eW 4) (esN)))) (eF dRepr (eF dUnB (eW 4)))) (sIf (eOr (eF dNot (eCall (f_law_same 3) (esC (eLst (esC (eCallI f_is_turn_row (esC (eW 1) (esC (eW 4) (esN)))) (esC (eCallIK f_is_turn_row [1, 0] (esC (eW 4) (esC (eW 1) (esN)))) (esN)))) (esC (eLst (esC (eW 5) (esC (eW 5) (esN)))) (esN))))) (eO dNe (eF dRepr (eF dUnB (eW 4))) (eF dUnB (eW 6)))) (sRet (eK (.bl false))) (sSkip)))
def f_law_right : List D → M D := fn 7 1 (sSeq (sAsg (gN 1) (eCall f_law_wheels (esC (eW 0) (esC (eK (.int 4)) (esC (eK (.int 40)) (esN)))))) (sSeq (sAsg (gN 2) (eF dRepr (eV 1))) (sSeq (sRows f_turn_row sA76 sB76) (sRet (eAnd (eCall f_law_is_row (esC (eW 1) (esC (eCall f_turn_row (esC (eW 1) (esN))) (esN)))) (eO dEq (eF dRepr (eV 1)) (eV 2)))))))
/-- law: 0 script, 1 index, 2 generator, 3 far; behind the loop -/
def sLaw76 : S := sSeq (sAsg (gN 3) (eLst (esC (eLst (esC (eK (.int 0)) (esC (eK (.int 5)) (esC (eK (.int 9)) (esN))))) (esC (eLst (esC (eK (.int 2)) (esN))) (esN))))) (sRet (eO dEq (eLst (esC (eCall f_is_turn_row (esC (eW 3) (esC (eLst (esC (eLst (esC (eK (.int 0)) (esC (eK (.int 2)) (esN)))) (esC (eLst (esC (eK (.int 5)) (esC (eK (.int 2)) (esN)))) (esC (eLst (esC (eK (.int 9)) (esC (eK (.int 2)) (esN)))) (esN))))) (esN)))) (esC (eCall f_is_turn_row (esC (eW 3) (esC (eLst (esC (eLst (esC (eK (.int 0)) (esC (eK (.int 2)) (esN)))) (esC (eLst (esC (eK (.int 9)) (esC (eK (.int 2)) (esN)))) (esC (eLst (esC (eK (.int 5)) (esC (eK (.int 2)) (esN)))) (esN))))) (esN)))) (esC (eCall f_is_turn_row (esC (eLst (esC (eLst (esC (eK (.int 4)) (esN))) (esN))) (esC (eLst (esC (eLst (esC (eK (.int 4)) (esN))) (esN))) (esN)))) (esC (eCall f_is_turn_row (esC (eLst (esC (eLst (esC (eK (.int 4)) (esN))) (esN))) (esC (eLst (esN)) (esN)))) (esN)))))) (eLst (esC (eK (.bl true)) (esC (eK (.bl false)) (esC (eK (.bl true)) (esC (eK (.bl false)) (esN))))))))
end K76

/-! ## WK76 -/
set_option Elab.async false
set_option autoImplicit false
set_option linter.all false
set_option maxRecDepth 100000
set_option maxHeartbeats 4000000
namespace K76
open PySem PySem.Spec PyProof.Rows L2 DL
def topS (i : Nat) : Stmt := PySem.Challenge.pw_escapehall_k76_whole_rows_through_all_co.main.body.getD i (.Pass ⟨0, 0, 0, 0⟩)
abbrev s_is_whole : Stmt := topS 4
abbrev s_is_count : Stmt := topS 5
abbrev s_ascends : Stmt := topS 6
abbrev s_are_figures : Stmt := topS 8
abbrev s_are_wheels : Stmt := topS 9
abbrev s_check_wheels : Stmt := topS 10
abbrev s_code_fits : Stmt := topS 11
abbrev s_all_codes : Stmt := topS 12
abbrev s_is_turn : Stmt := topS 13
abbrev s_is_turn_row : Stmt := topS 14
abbrev s_turn_row : Stmt := topS 15
abbrev s_law_hash : Stmt := topS 17
abbrev s_law_random : Stmt := topS 18
abbrev s_law_cell : Stmt := topS 19
abbrev s_law_generator : Stmt := topS 20
abbrev s_law_pick : Stmt := topS 21
abbrev s_law_same : Stmt := topS 22
abbrev s_law_shuffled : Stmt := topS 23
abbrev s_law_wheels : Stmt := topS 24
abbrev s_law_codes : Stmt := topS 25
abbrev s_law_alike : Stmt := topS 26
abbrev s_law_turned : Stmt := topS 27
abbrev s_law_is_row : Stmt := topS 28
abbrev s_law_values : Stmt := topS 29
abbrev s_law_right : Stmt := topS 30
abbrev s_law : Stmt := topS 31
theorem kw_turn_row_0_wheels : KwOk "turn_row" s_turn_row ["wheels"] ["wheels"] 0 [0] := ⟨fun _ _ _ _ _ _ us ws h1 h2 => match us, ws, h1, h2 with | [], [_], _, _ => rfl, rfl, by decide⟩
theorem kw_is_turn_row_0_value_wheels : KwOk "is_turn_row" s_is_turn_row ["wheels", "value"] ["value", "wheels"] 0 [1, 0] := ⟨fun _ _ _ _ _ _ us ws h1 h2 => match us, ws, h1, h2 with | [], [_, _], _, _ => rfl, rfl, by decide⟩
section
variable {P : Program} {w : World} {K : PySem.W.Frag} {mg : Str → Option Value} {base : Heap}
theorem sc_is_whole : FnScope ["value"] ["value"] (defScope s_is_whole) := ⟨rfl, rfl, rfl, by decide +kernel, rfl, by decide +kernel, by decide +kernel⟩
theorem w_is_whole (B : Blt mg)  {f : Addr} {fd : FuncData} (F : Fun K "is_whole" "is_whole" s_is_whole f fd) : FnG P w K mg base 1 f fd ["value"] f_is_whole :=
  have sc := sc_is_whole
  fnG_of F sc (hN := by decide) fun cdv A outer sh H ga bo hr hg =>
    (ds_one (ds_ret (d_and (PE.rd (d_isi (t := "int") (by decide) B.isi (by kernel_rfl) B.int_ (by kernel_rfl) (d_rv (pv 0)))) (d_one (d_not (PE.rd (d_isi (t := "bool") (by decide) B.isi (by kernel_rfl) B.bool_ (by kernel_rfl) (d_rv (pv 0)))))))))
theorem sc_is_count : FnScope ["value"] ["value"] (defScope s_is_count) := ⟨rfl, rfl, rfl, by decide +kernel, rfl, by decide +kernel, by decide +kernel⟩
theorem w_is_count (B : Blt mg) (C_is_whole : Cal P w K mg base 1 "is_whole" s_is_whole ["value"] f_is_whole) {f : Addr} {fd : FuncData} (F : Fun K "is_count" "is_count" s_is_count f fd) : FnG P w K mg base 2 f fd ["value"] f_is_count :=
  have sc := sc_is_count
  fnG_of F sc (hN := by decide) fun cdv A outer sh H ga bo hr hg =>
    (ds_one (ds_ret (d_and (PE.rd (dc C_is_whole hr hg (das_cons (d_v (pv 0)) das_nil))) (d_one (d_cmp (ge_d (hu64 hr)) (d_rv (pv 0)) (PE.rd d_int))))))
theorem sc_ascends : FnScope ["items", "at"] ["items"] (defScope s_ascends) := ⟨rfl, rfl, rfl, by decide +kernel, rfl, by decide +kernel, by decide +kernel⟩
theorem w_ascends (B : Blt mg)  {f : Addr} {fd : FuncData} (F : Fun K "ascends" "ascends" s_ascends f fd) : FnG P w K mg base 1 f fd ["items"] f_ascends :=
  have sc := sc_ascends
  fnG_of F sc (hN := by decide) fun cdv A outer sh H ga bo hr hg =>
    (ds_one (ds_ret (d_cmp (eq_d (hu64 hr)) (PE.rd (d_lc rfl sc.nd (blkOk_by (own := [("at", 1)]) (by kernel_rfl)) (PI.b (di_r2 B.range_ (PE.rd d_int) (PE.rd (d_b1 len_c B.len_ (by kernel_rfl) (d_rv (pv 0)))))) (fun _ _ _ _ _ => (dg_name (pg_name (i := 1) sc.nd rfl (by first | exact .inl rfl | exact .inr rfl)))) (fun _ _ _ _ _ => (dts_one (dt_cmp (ge_d (hu64 hr)) (PE.rd (d_ix (d_rv (pv 0)) (PE.rd (d_op sub_d (d_rv (pv 1)) (PE.rd d_int))))) (PE.rd (d_ix (d_rv (pv 0)) (d_rv (pv 1))))))) (fun _ _ _ _ _ => (d_v (pv 1))))) (PE.rd (d_lst das_nil)))))
theorem sc_are_figures : FnScope ["value", "figure"] ["value"] (defScope s_are_figures) := ⟨rfl, rfl, rfl, by decide +kernel, rfl, by decide +kernel, by decide +kernel⟩
theorem w_are_figures (B : Blt mg) (C_is_count : Cal P w K mg base 2 "is_count" s_is_count ["value"] f_is_count) (C_ascends : Cal P w K mg base 1 "ascends" s_ascends ["items"] f_ascends) {f : Addr} {fd : FuncData} (F : Fun K "are_figures" "are_figures" s_are_figures f fd) : FnG P w K mg base 3 f fd ["value"] f_are_figures :=
  have sc := sc_are_figures
  fnG_of F sc (hN := by decide) fun cdv A outer sh H ga bo hr hg =>
    (ds_cons (ds_if (PW.pt (dw_or (dt_not (d_test (PE.rd (d_isi (t := "list") (by decide) B.isi (by kernel_rfl) B.list_ (by kernel_rfl) (d_rv (pv 0)))))) (dw_or (dt_cmp (eq_d (hu64 hr)) (d_rv (pv 0)) (PE.rd (d_lst das_nil))) (dw_one_or (dt_not (d_test (PE.rd (d_b1 (all_c rfl) B.all_ (by kernel_rfl) (PE.rd (d_lc rfl sc.nd (blkOk_by (own := [("figure", 1)]) (by kernel_rfl)) (PI.b (di_lst (d_v (pv 0)))) (fun _ _ _ _ _ => (dg_name (pg_name (i := 1) sc.nd rfl (by first | exact .inl rfl | exact .inr rfl)))) (fun _ _ _ _ _ => dts_nil) (fun _ _ _ _ _ => (d_and (PE.rd (dc C_is_count hr hg (das_cons (d_v (pv 1)) das_nil))) (d_one (d_cmp (lt_d (hu64 hr)) (d_rv (pv 1)) (PE.rd d_int))))))))))))))) (ds_one (ds_ret d_bl)) ds_nil) (ds_one (ds_ret (dc C_ascends hr hg (das_cons (d_v (pv 0)) das_nil)))))
theorem sc_are_wheels : FnScope ["value", "figures"] ["value"] (defScope s_are_wheels) := ⟨rfl, rfl, rfl, by decide +kernel, rfl, by decide +kernel, by decide +kernel⟩
theorem w_are_wheels (B : Blt mg) (C_are_figures : Cal P w K mg base 3 "are_figures" s_are_figures ["value"] f_are_figures) {f : Addr} {fd : FuncData} (F : Fun K "are_wheels" "are_wheels" s_are_wheels f fd) : FnG P w K mg base 4 f fd ["value"] f_are_wheels :=
  have sc := sc_are_wheels
  fnG_of F sc (hN := by decide) fun cdv A outer sh H ga bo hr hg =>
    (ds_one (ds_ret (d_and (PE.rd (d_isi (t := "list") (by decide) B.isi (by kernel_rfl) B.list_ (by kernel_rfl) (d_rv (pv 0)))) (d_and (PE.rd (d_cmp (ne_d (hu64 hr)) (d_rv (pv 0)) (PE.rd (d_lst das_nil)))) (d_one (d_b1 (all_c rfl) B.all_ (by kernel_rfl) (PE.rd (d_lc rfl sc.nd (blkOk_by (own := [("figures", 1)]) (by kernel_rfl)) (PI.b (di_lst (d_v (pv 0)))) (fun _ _ _ _ _ => (dg_name (pg_name (i := 1) sc.nd rfl (by first | exact .inl rfl | exact .inr rfl)))) (fun _ _ _ _ _ => dts_nil) (fun _ _ _ _ _ => (dc C_are_figures hr hg (das_cons (d_v (pv 1)) das_nil)))))))))))
theorem sc_check_wheels : FnScope ["wheels"] ["wheels"] (defScope s_check_wheels) := ⟨rfl, rfl, rfl, by decide +kernel, rfl, by decide +kernel, by decide +kernel⟩
theorem w_check_wheels (B : Blt mg) (C_are_wheels : Cal P w K mg base 4 "are_wheels" s_are_wheels ["value"] f_are_wheels) {f : Addr} {fd : FuncData} (F : Fun K "check_wheels" "check_wheels" s_check_wheels f fd) : FnG P w K mg base 5 f fd ["wheels"] f_check_wheels :=
  have sc := sc_check_wheels
  fnG_of F sc (hN := by decide) fun cdv A outer sh H ga bo hr hg =>
    (ds_one (ds_if (dt_not (d_test (PE.rd (dc C_are_wheels hr hg (das_cons (d_v (pv 0)) das_nil))))) dss_no ds_nil))
theorem sc_code_fits : FnScope ["wheels", "value", "figure", "figures"] ["wheels", "value"] (defScope s_code_fits) := ⟨rfl, rfl, rfl, by decide +kernel, rfl, by decide +kernel, by decide +kernel⟩
theorem w_code_fits (B : Blt mg) (C_is_count : Cal P w K mg base 2 "is_count" s_is_count ["value"] f_is_count) {f : Addr} {fd : FuncData} (F : Fun K "code_fits" "code_fits" s_code_fits f fd) : FnG P w K mg base 3 f fd ["wheels", "value"] f_code_fits :=
  have sc := sc_code_fits
  fnG_of F sc (hN := by decide) fun cdv A outer sh H ga bo hr hg =>
    (ds_cons (ds_if (PW.pt (dw_or (dt_not (d_test (PE.rd (d_isi (t := "list") (by decide) B.isi (by kernel_rfl) B.list_ (by kernel_rfl) (d_rv (pv 1)))))) (dw_or (dt_cmp (ne_d (hu64 hr)) (PE.rd (d_b1 len_c B.len_ (by kernel_rfl) (d_rv (pv 1)))) (PE.rd (d_b1 len_c B.len_ (by kernel_rfl) (d_rv (pv 0))))) (dw_one_or (dt_not (d_test (PE.rd (d_b1 (all_c rfl) B.all_ (by kernel_rfl) (PE.rd (d_lc rfl sc.nd (blkOk_by (own := [("figure", 2)]) (by kernel_rfl)) (PI.b (di_lst (d_v (pv 1)))) (fun _ _ _ _ _ => (dg_name (pg_name (i := 2) sc.nd rfl (by first | exact .inl rfl | exact .inr rfl)))) (fun _ _ _ _ _ => dts_nil) (fun _ _ _ _ _ => (dc C_is_count hr hg (das_cons (d_v (pv 2)) das_nil))))))))))))) (ds_one (ds_ret d_bl)) ds_nil) (ds_one (ds_ret (d_b1 (all_c rfl) B.all_ (by kernel_rfl) (PE.rd (d_lc rfl sc.nd (blkOk_by (own := [("figure", 2), ("figures", 3)]) (by kernel_rfl)) (PI.b (di_zipS B.zip_ (d_v (pv 1)) (d_v (pv 0)))) (fun _ _ _ _ _ => (dg_tup rfl (dgs_cons (dg_name (pg_name (i := 2) sc.nd rfl (by first | exact .inl rfl | exact .inr rfl))) (dgs_cons (dg_name (pg_name (i := 3) sc.nd rfl (by first | exact .inl rfl | exact .inr rfl))) dgs_nil)))) (fun _ _ _ _ _ => dts_nil) (fun _ _ _ _ _ => (d_cmp (in_d (hu65 hr)) (d_rv (pv 2)) (d_rv (pv 3))))))))))
theorem sc_all_codes : FnScope ["wheels", "found", "figures", "code", "figure"] ["wheels"] (defScope s_all_codes) := ⟨rfl, rfl, rfl, by decide +kernel, rfl, by decide +kernel, by decide +kernel⟩
theorem w_all_codes (B : Blt mg)  {f : Addr} {fd : FuncData} (F : Fun K "all_codes" "all_codes" s_all_codes f fd) : FnG P w K mg base 1 f fd ["wheels"] f_all_codes :=
  have sc := sc_all_codes
  fnG_of F sc (hN := by decide) fun cdv A outer sh H ga bo hr hg =>
    (ds_cons (ds_asg (d_lst (das_cons (d_lst das_nil) das_nil)) (dg_name (pg_name (i := 1) sc.nd rfl (by first | exact .inl rfl | exact .inr rfl)))) (ds_cons (ds_for PassesOwn.never rfl (di_lst (d_v (pv 0))) (dg_name (pg_name (i := 2) sc.nd rfl (by first | exact .inl rfl | exact .inr rfl))) (ds_one (ds_lc2 [4] (i := 1) rfl sc.nd rfl rfl (sw_true rfl rfl rfl (by decide +kernel)) (blkOk_by (own := [("code", 3), ("figure", 4)]) (by kernel_rfl)) (PI.b (di_lst (d_v (pv 1)))) (fun _ _ _ _ _ => (dg_name (pg_name (i := 3) sc.nd rfl (by first | exact .inl rfl | exact .inr rfl)))) (fun _ _ _ _ _ => dts_nil) (fun _ _ _ _ _ => (di_lst (d_v (pv 2)))) (fun _ _ _ _ _ => (dg_name (pg_name (i := 4) sc.nd rfl (by first | exact .inl rfl | exact .inr rfl)))) (fun _ _ _ _ _ => dts_nil) (fun _ _ _ _ _ => (d_op add_d (d_rv (pv 3)) (PE.rd (d_lst (das_cons (d_v (pv 4)) das_nil)))))))) (ds_one (ds_ret (d_v (pv 1))))))
theorem sc_is_turn : FnScope ["wheels", "code", "late", "places", "apart", "figures", "figure", "other", "place"] ["wheels", "code", "late"] (defScope s_is_turn) := ⟨rfl, rfl, rfl, by decide +kernel, rfl, by decide +kernel, by decide +kernel⟩
theorem w_is_turn (B : Blt mg)  {f : Addr} {fd : FuncData} (F : Fun K "is_turn" "is_turn" s_is_turn f fd) : FnG P w K mg base 1 f fd ["wheels", "code", "late"] f_is_turn :=
  have sc := sc_is_turn
  fnG_of F sc (hN := by decide) fun cdv A outer sh H ga bo hr hg =>
    (ds_cons (ds_lc  (i := 3) rfl sc.nd rfl rfl (sw_true rfl rfl rfl (by decide +kernel)) (blkOk_by (own := [("figures", 5), ("figure", 6), ("other", 7)]) (by kernel_rfl)) (PI.b (di_zip3 B.zip_ (d_v (pv 0)) (d_v (pv 1)) (d_v (pv 2)))) (fun _ _ _ _ _ => (dg_tup rfl (dgs_cons (dg_name (pg_name (i := 5) sc.nd rfl (by first | exact .inl rfl | exact .inr rfl))) (dgs_cons (dg_name (pg_name (i := 6) sc.nd rfl (by first | exact .inl rfl | exact .inr rfl))) (dgs_cons (dg_name (pg_name (i := 7) sc.nd rfl (by first | exact .inl rfl | exact .inr rfl))) dgs_nil))))) (fun _ _ _ _ _ => dts_nil) (fun _ _ _ _ _ => (d_tup (das_cons (d_index (d_rv (pv 5)) (d_rv (pv 6))) (das_cons (d_index (d_rv (pv 5)) (d_rv (pv 7))) das_nil))))) (ds_cons (ds_lc  (i := 4) rfl sc.nd rfl rfl (sw_true rfl rfl rfl (by decide +kernel)) (blkOk_by (own := [("place", 8), ("other", 7)]) (by kernel_rfl)) (PI.b (di_lst (d_v (pv 3)))) (fun _ _ _ _ _ => (dg_tup rfl (dgs_cons (dg_name (pg_name (i := 8) sc.nd rfl (by first | exact .inl rfl | exact .inr rfl))) (dgs_cons (dg_name (pg_name (i := 7) sc.nd rfl (by first | exact .inl rfl | exact .inr rfl))) dgs_nil)))) (fun _ _ _ _ _ => (dts_one (dt_cmp (ne_d (hu64 hr)) (d_rv (pv 8)) (d_rv (pv 7))))) (fun _ _ _ _ _ => (d_b1 abs_c B.abs_ (by kernel_rfl) (PE.rd (d_op sub_d (d_rv (pv 8)) (d_rv (pv 7))))))) (ds_one (ds_ret (d_cmp (eq_d (hu64 hr)) (d_rv (pv 4)) (PE.rd (d_lst (das_cons d_int das_nil))))))))
theorem sc_is_turn_row : FnScope ["wheels", "value", "code", "at"] ["wheels", "value"] (defScope s_is_turn_row) := ⟨rfl, rfl, rfl, by decide +kernel, rfl, by decide +kernel, by decide +kernel⟩
theorem w_is_turn_row (B : Blt mg) (C_check_wheels : Cal P w K mg base 5 "check_wheels" s_check_wheels ["wheels"] f_check_wheels) (C_code_fits : Cal P w K mg base 3 "code_fits" s_code_fits ["wheels", "value"] f_code_fits) (C_all_codes : Cal P w K mg base 1 "all_codes" s_all_codes ["wheels"] f_all_codes) (C_is_turn : Cal P w K mg base 1 "is_turn" s_is_turn ["wheels", "code", "late"] f_is_turn) {f : Addr} {fd : FuncData} (F : Fun K "is_turn_row" "is_turn_row" s_is_turn_row f fd) : FnG P w K mg base 6 f fd ["wheels", "value"] f_is_turn_row :=
  have sc := sc_is_turn_row
  fnG_of F sc (hN := by decide) fun cdv A outer sh H ga bo hr hg =>
    (ds_cons (ds_do (PE.rd (dc C_check_wheels hr hg (das_cons (d_v (pv 0)) das_nil)))) (ds_cons (ds_if (PW.pt (dw_or (dt_not (d_test (PE.rd (d_isi (t := "list") (by decide) B.isi (by kernel_rfl) B.list_ (by kernel_rfl) (d_rv (pv 1)))))) (dw_one_or (dt_not (d_test (PE.rd (d_b1 (all_c rfl) B.all_ (by kernel_rfl) (PE.rd (d_lc rfl sc.nd (blkOk_by (own := [("code", 2)]) (by kernel_rfl)) (PI.b (di_lst (d_v (pv 1)))) (fun _ _ _ _ _ => (dg_name (pg_name (i := 2) sc.nd rfl (by first | exact .inl rfl | exact .inr rfl)))) (fun _ _ _ _ _ => dts_nil) (fun _ _ _ _ _ => (dc C_code_fits hr hg (das_cons (d_v (pv 0)) (das_cons (d_v (pv 2)) das_nil))))))))))))) (ds_one (ds_ret d_bl)) ds_nil) (ds_cons (ds_if (dt_cmp (ne_d (hu64 hr)) (PE.rd (d_b1 (sorted_c (hu65 hr)) B.sorted_ (by kernel_rfl) (d_rv (pv 1)))) (PE.rd (dc C_all_codes hr hg (das_cons (d_v (pv 0)) das_nil)))) (ds_one (ds_ret d_bl)) ds_nil) (ds_one (ds_ret (d_b1 (all_c rfl) B.all_ (by kernel_rfl) (PE.rd (d_lc rfl sc.nd (blkOk_by (own := [("at", 3)]) (by kernel_rfl)) (PI.b (di_r2 B.range_ (PE.rd d_int) (PE.rd (d_b1 len_c B.len_ (by kernel_rfl) (d_rv (pv 1)))))) (fun _ _ _ _ _ => (dg_name (pg_name (i := 3) sc.nd rfl (by first | exact .inl rfl | exact .inr rfl)))) (fun _ _ _ _ _ => dts_nil) (fun _ _ _ _ _ => (dc C_is_turn hr hg (das_cons (d_v (pv 0)) (das_cons (d_ix (d_rv (pv 1)) (PE.rd (d_op sub_d (d_rv (pv 3)) (PE.rd d_int)))) (das_cons (d_ix (d_rv (pv 1)) (d_rv (pv 3))) das_nil)))))))))))))
theorem sc_turn_row : FnScope ["wheels", "found", "figures", "later", "at", "code", "figure"] ["wheels"] (defScope s_turn_row) := ⟨rfl, rfl, rfl, by decide +kernel, rfl, by decide +kernel, by decide +kernel⟩
theorem w_turn_row (B : Blt mg) (C_check_wheels : Cal P w K mg base 5 "check_wheels" s_check_wheels ["wheels"] f_check_wheels) {f : Addr} {fd : FuncData} (F : Fun K "turn_row" "turn_row" s_turn_row f fd) : FnG P w K mg base 6 f fd ["wheels"] f_turn_row :=
  have sc := sc_turn_row
  fnG_of F sc (hN := by decide) fun cdv A outer sh H ga bo hr hg =>
    (ds_cons (ds_do (PE.rd (dcI C_check_wheels hr hg (das_cons (d_v (pv 0)) das_nil)))) (ds_cons (ds_asg (d_lst (das_cons (d_lst das_nil) das_nil)) (dg_name (pg_name (i := 1) sc.nd rfl (by first | exact .inl rfl | exact .inr rfl)))) (ds_cons (ds_for PassesOwn.never rfl (di_lst (d_v (pv 0))) (dg_name (pg_name (i := 2) sc.nd rfl (by first | exact .inl rfl | exact .inr rfl))) (ds_cons (ds_asg (d_lst das_nil) (dg_name (pg_name (i := 3) sc.nd rfl (by first | exact .inl rfl | exact .inr rfl)))) (ds_cons (ds_for PassesOwn.never rfl (di_enum B.enumerate_ (d_v (pv 1))) (dg_tup rfl (dgs_cons (dg_name (pg_name (i := 4) sc.nd rfl (by first | exact .inl rfl | exact .inr rfl))) (dgs_cons (dg_name (pg_name (i := 5) sc.nd rfl (by first | exact .inl rfl | exact .inr rfl))) dgs_nil))) (ds_one (ds_asg (d_op add_d (d_ub (d_v (pv 3))) (PE.rd (d_lc rfl sc.nd (blkOk_by (own := [("figure", 6)]) (by kernel_rfl)) (PI.b (di_lst (d_if (dt_cmp (eq_d (hu64 hr)) (PE.rd (d_op mod_d (d_ub (d_v (pv 4))) (PE.rd d_int))) (PE.rd d_int)) (d_v (pv 2)) (d_rev (d_ub (d_v (pv 2))))))) (fun _ _ _ _ _ => (dg_name (pg_name (i := 6) sc.nd rfl (by first | exact .inl rfl | exact .inr rfl)))) (fun _ _ _ _ _ => dts_nil) (fun _ _ _ _ _ => (d_op add_d (d_ub (d_v (pv 5))) (PE.rd (d_lst (das_cons (d_v (pv 6)) das_nil)))))))) (dg_name (pg_name (i := 3) sc.nd rfl (by first | exact .inl rfl | exact .inr rfl)))))) (ds_one (ds_asg (d_v (pv 3)) (dg_name (pg_name (i := 1) sc.nd rfl (by first | exact .inl rfl | exact .inr rfl)))))))) (ds_one (ds_ret (d_v (pv 1)))))))
theorem sc_law_hash : FnScope ["seed", "index", "mixed"] ["seed", "index"] (defScope s_law_hash) := ⟨rfl, rfl, rfl, by decide +kernel, rfl, by decide +kernel, by decide +kernel⟩
theorem w_law_hash (B : Blt mg)  {f : Addr} {fd : FuncData} (F : Fun K "_law_hash" "_law_hash" s_law_hash f fd) : FnG P w K mg base 1 f fd ["seed", "index"] f_law_hash :=
  have sc := sc_law_hash
  fnG_of F sc (hN := by decide) fun cdv A outer sh H ga bo hr hg =>
    (ds_cons (ds_asg (d_op mod_d (PE.rd (d_t1 int_c B.int_ (by kernel_rfl) (PE.rd (d_op add_d (PE.rd (d_op add_d (PE.rd (d_op add_d (PE.rd (d_op mul_d (d_rv (pv 0)) (PE.rd d_int))) (PE.rd (d_op mul_d (PE.rd (d_op mul_d (PE.rd d_int) (d_rv (pv 1)))) (d_rv (pv 1)))))) (PE.rd (d_op mul_d (PE.rd d_int) (d_rv (pv 1)))))) (PE.rd d_int))))) (PE.rd d_int)) (dg_name (pg_name (i := 2) sc.nd rfl (by first | exact .inl rfl | exact .inr rfl)))) (ds_cons (ds_asg (d_op mod_d (PE.rd (d_t1 int_c B.int_ (by kernel_rfl) (PE.rd (d_op add_d (PE.rd (d_op add_d (PE.rd (d_op mul_d (d_rv (pv 2)) (d_rv (pv 2)))) (PE.rd (d_op mul_d (PE.rd d_int) (d_rv (pv 1)))))) (PE.rd d_int))))) (PE.rd d_int)) (dg_name (pg_name (i := 2) sc.nd rfl (by first | exact .inl rfl | exact .inr rfl)))) (ds_one (ds_ret (d_op mod_d (PE.rd (d_t1 int_c B.int_ (by kernel_rfl) (PE.rd (d_op mul_d (d_rv (pv 2)) (PE.rd d_int))))) (PE.rd d_int))))))
theorem sc_law_random : FnScope ["generator", "bound", "drawn", "turn"] ["generator", "bound"] (defScope s_law_random) := ⟨rfl, rfl, rfl, by decide +kernel, rfl, by decide +kernel, by decide +kernel⟩
theorem w_law_random (B : Blt mg) (C__law_hash : Cal P w K mg base 1 "_law_hash" s_law_hash ["seed", "index"] f_law_hash) {f : Addr} {fd : FuncData} (F : Fun K "_law_random" "_law_random" s_law_random f fd) : FnG P w K mg base 2 f fd ["generator", "bound"] f_law_random :=
  have sc := sc_law_random
  fnG_of F sc (hN := by decide) fun cdv A outer sh H ga bo hr hg =>
    (ds_cons (ds_if (dt_cmp (gt_d (hu64 hr)) (PE.rd (d_gen (i := 0) (k := 0) (pv 0))) (PE.rd d_int)) (ds_cons (ds_asg (d_op mod_d (PE.rd (d_t1 int_c B.int_ (by kernel_rfl) (PE.rd (d_gen (i := 0) (k := 0) (pv 0))))) (d_rv (pv 1))) (dg_name (pg_name (i := 2) sc.nd rfl (by first | exact .inl rfl | exact .inr rfl)))) (ds_cons (ds_gen (i := 0) (k := 0) (pv 0) (d_op fdiv_d (PE.rd (d_gen (i := 0) (k := 0) (pv 0))) (d_rv (pv 1)))) (ds_one (ds_ret (d_v (pv 2)))))) ds_nil) (ds_cons (ds_asg d_int (dg_name (pg_name (i := 2) sc.nd rfl (by first | exact .inl rfl | exact .inr rfl)))) (ds_cons (ds_for PassesOwn.never rfl (di_r1 B.range_ (PE.rd (d_op add_d (PE.rd d_int) (PE.rd (d_op fdiv_d (PE.rd (d_bits (d_rv (pv 1)))) (PE.rd d_int)))))) (dg_name (pg_name (i := 3) sc.nd rfl (by first | exact .inl rfl | exact .inr rfl))) (ds_cons (ds_gen (i := 0) (k := 2) (pv 0) (d_op add_d (PE.rd (d_gen (i := 0) (k := 2) (pv 0))) (PE.rd d_int))) (ds_one (ds_asg (d_op add_d (PE.rd (d_op mul_d (d_rv (pv 2)) (PE.rd d_int))) (PE.rd (dc C__law_hash hr hg (das_cons (d_gen (i := 0) (k := 1) (pv 0)) (das_cons (d_gen (i := 0) (k := 2) (pv 0)) das_nil))))) (dg_name (pg_name (i := 2) sc.nd rfl (by first | exact .inl rfl | exact .inr rfl))))))) (ds_one (ds_ret (d_op mod_d (PE.rd (d_t1 int_c B.int_ (by kernel_rfl) (d_rv (pv 2)))) (d_rv (pv 1))))))))
theorem sc_law_cell : FnScope ["script", "index"] ["script", "index"] (defScope s_law_cell) := ⟨rfl, rfl, rfl, by decide +kernel, rfl, by decide +kernel, by decide +kernel⟩
theorem sc_law_generator : FnScope ["script", "index", "seed"] ["script", "index"] (defScope s_law_generator) := ⟨rfl, rfl, rfl, by decide +kernel, rfl, by decide +kernel, by decide +kernel⟩
theorem sc_law_pick : FnScope ["generator", "things"] ["generator", "things"] (defScope s_law_pick) := ⟨rfl, rfl, rfl, by decide +kernel, rfl, by decide +kernel, by decide +kernel⟩
theorem w_law_pick (B : Blt mg) (C__law_random : Cal P w K mg base 2 "_law_random" s_law_random ["generator", "bound"] f_law_random) {f : Addr} {fd : FuncData} (F : Fun K "_law_pick" "_law_pick" s_law_pick f fd) : FnG P w K mg base 3 f fd ["generator", "things"] f_law_pick :=
  have sc := sc_law_pick
  fnG_of F sc (hN := by decide) fun cdv A outer sh H ga bo hr hg =>
    (ds_one (ds_ret (d_ix (d_rv (pv 1)) (PE.rd (dc C__law_random hr hg (das_cons (d_v (pv 0)) (das_cons (d_b1 len_c B.len_ (by kernel_rfl) (d_rv (pv 1))) das_nil)))))))
theorem sc_law_same : FnScope ["found", "due", "one", "other", "name"] ["found", "due"] (defScope s_law_same) := ⟨rfl, rfl, rfl, by decide +kernel, rfl, by decide +kernel, by decide +kernel⟩
theorem w_law_same (B : Blt mg) (a : At K mg "_law_same" s_law_same ["found", "due"]) : ∀ n, Cal P w K mg base n "_law_same" s_law_same ["found", "due"] (f_law_same n)
  | 0 => a.cal fun f fd F => FnG.stuck
  | n + 1 =>
    have sc := sc_law_same
    have C__law_same := w_law_same B a n
    a.cal fun f fd F => fnG_of F sc (hN := by decide) fun cdv A outer sh H ga bo hr hg =>
    (ds_cons (ds_if (d_test (PE.rd (d_isi2 (t := "list") (u := "tuple") (by decide) (by decide) B.isi (by kernel_rfl) B.list_ (by kernel_rfl) B.tuple_ (by kernel_rfl) (d_rv (pv 1))))) (ds_cons (ds_if (PW.pt (dw_or (dt_cmp (ne_d (hu64 hr)) (PE.rd (d_isi (t := "list") (by decide) B.isi (by kernel_rfl) B.list_ (by kernel_rfl) (d_rv (pv 0)))) (PE.rd (d_isi (t := "list") (by decide) B.isi (by kernel_rfl) B.list_ (by kernel_rfl) (d_rv (pv 1))))) (dw_one_or (dt_cmp (ne_d (hu64 hr)) (PE.rd (d_isi (t := "tuple") (by decide) B.isi (by kernel_rfl) B.tuple_ (by kernel_rfl) (d_rv (pv 0)))) (PE.rd (d_isi (t := "tuple") (by decide) B.isi (by kernel_rfl) B.tuple_ (by kernel_rfl) (d_rv (pv 1)))))))) (ds_one (ds_ret d_bl)) ds_nil) (ds_one (ds_ret (d_and (PE.rd (d_cmp (eq_d (hu64 hr)) (PE.rd (d_b1 len_c B.len_ (by kernel_rfl) (d_rv (pv 0)))) (PE.rd (d_b1 len_c B.len_ (by kernel_rfl) (d_rv (pv 1)))))) (d_one (d_b1 (all_c rfl) B.all_ (by kernel_rfl) (PE.rd (d_lc rfl sc.nd (blkOk_by (own := [("one", 2), ("other", 3)]) (by kernel_rfl)) (PI.b (di_zip B.zip_ (d_v (pv 0)) (d_v (pv 1)))) (fun _ _ _ _ _ => (dg_tup rfl (dgs_cons (dg_name (pg_name (i := 2) sc.nd rfl (by first | exact .inl rfl | exact .inr rfl))) (dgs_cons (dg_name (pg_name (i := 3) sc.nd rfl (by first | exact .inl rfl | exact .inr rfl))) dgs_nil)))) (fun _ _ _ _ _ => dts_nil) (fun _ _ _ _ _ => (dc C__law_same hr hg (das_cons (d_v (pv 2)) (das_cons (d_v (pv 3)) das_nil)) (Nat.le_refl _))))))))))) ds_nil) (ds_cons (ds_if (d_test (PE.rd (d_isi (t := "dict") (by decide) B.isi (by kernel_rfl) B.dict_ (by kernel_rfl) (d_rv (pv 1))))) (ds_cons (ds_if (PW.pt (dw_or (dt_not (d_test (PE.rd (d_isi (t := "dict") (by decide) B.isi (by kernel_rfl) B.dict_ (by kernel_rfl) (d_rv (pv 0)))))) (dw_one_or (dt_cmp (ne_d (hu64 hr)) (PE.rd (d_b1 len_c B.len_ (by kernel_rfl) (d_rv (pv 0)))) (PE.rd (d_b1 len_c B.len_ (by kernel_rfl) (d_rv (pv 1)))))))) (ds_one (ds_ret d_bl)) ds_nil) (ds_one (ds_ret (d_b1 (all_c rfl) B.all_ (by kernel_rfl) (PE.rd (d_lc rfl sc.nd (blkOk_by (own := [("name", 4)]) (by kernel_rfl)) (PI.b (di_lst (d_v (pv 1)))) (fun _ _ _ _ _ => (dg_name (pg_name (i := 4) sc.nd rfl (by first | exact .inl rfl | exact .inr rfl)))) (fun _ _ _ _ _ => dts_nil) (fun _ _ _ _ _ => (d_and (PE.rd (d_cmp (in_d (hu65 hr)) (d_rv (pv 4)) (d_rv (pv 0)))) (d_one (dc C__law_same hr hg (das_cons (d_ix (d_rv (pv 0)) (d_rv (pv 4))) (das_cons (d_ix (d_rv (pv 1)) (d_rv (pv 4))) das_nil)) (Nat.le_refl _))))))))))) ds_nil) (ds_cons (ds_if (d_test (PE.rd (d_isi (t := "str") (by decide) B.isi (by kernel_rfl) B.str_ (by kernel_rfl) (d_rv (pv 1))))) (ds_one (ds_ret (d_and (PE.rd (d_isi (t := "str") (by decide) B.isi (by kernel_rfl) B.str_ (by kernel_rfl) (d_rv (pv 0)))) (d_one (d_cmp (eq_d (hu64 hr)) (d_rv (pv 0)) (d_rv (pv 1))))))) ds_nil) (ds_cons (ds_if (dt_isN (d_rv (pv 1))) (ds_one (ds_ret (d_isN (d_rv (pv 0))))) ds_nil) (ds_one (ds_ret (d_and (PE.rd (d_isi (t := "int") (by decide) B.isi (by kernel_rfl) B.int_ (by kernel_rfl) (d_rv (pv 0)))) (d_and (PE.rd (d_cmp (eq_d (hu64 hr)) (PE.rd (d_isi (t := "bool") (by decide) B.isi (by kernel_rfl) B.bool_ (by kernel_rfl) (d_rv (pv 0)))) (PE.rd (d_isi (t := "bool") (by decide) B.isi (by kernel_rfl) B.bool_ (by kernel_rfl) (d_rv (pv 1)))))) (d_one (d_cmp (eq_d (hu64 hr)) (d_rv (pv 0)) (d_rv (pv 1))))))))))))
theorem sc_law_shuffled : FnScope ["generator", "things", "left", "found"] ["generator", "things"] (defScope s_law_shuffled) := ⟨rfl, rfl, rfl, by decide +kernel, rfl, by decide +kernel, by decide +kernel⟩
theorem w_law_shuffled (B : Blt mg) (C__law_random : Cal P w K mg base 2 "_law_random" s_law_random ["generator", "bound"] f_law_random) {f : Addr} {fd : FuncData} (F : Fun K "_law_shuffled" "_law_shuffled" s_law_shuffled f fd) : FnG P w K mg base 3 f fd ["generator", "things"] f_law_shuffled :=
  have sc := sc_law_shuffled
  fnG_of F sc (hN := by decide) fun cdv A outer sh H ga bo hr hg =>
    (ds_cons (ds_parOO (by decide) (ps_par (i := 2) (j := 3) rfl sc.nd rfl rfl (by decide) rfl rfl (pa_cons (dn_list B.list_ (by kernel_rfl) (d_rv (pv 1))) (pa_cons (dn_lst das_nil) pa_nil)) rfl)) (ds_cons (ds_while 1000 PassesOwn.never (dt_cmp (ne_d (hu64 hr)) (d_rv (pv 2)) (PE.rd (d_lst das_nil))) (ds_one (ds_apop (pv 3) (pv 2) (dc C__law_random hr hg (das_cons (d_v (pv 0)) (das_cons (d_b1 len_c B.len_ (by kernel_rfl) (d_rv (pv 2))) das_nil)))))) (dss_frz (ds_one (ds_ret (d_v (pv 3)))))))
theorem sc_law_wheels : FnScope ["generator", "most", "codes", "found", "product", "turn", "figures"] ["generator", "most", "codes"] (defScope s_law_wheels) := ⟨rfl, rfl, rfl, by decide +kernel, rfl, by decide +kernel, by decide +kernel⟩
theorem w_law_wheels (B : Blt mg) (C__law_random : Cal P w K mg base 2 "_law_random" s_law_random ["generator", "bound"] f_law_random) (C__law_shuffled : Cal P w K mg base 3 "_law_shuffled" s_law_shuffled ["generator", "things"] f_law_shuffled) {f : Addr} {fd : FuncData} (F : Fun K "_law_wheels" "_law_wheels" s_law_wheels f fd) : FnG P w K mg base 4 f fd ["generator", "most", "codes"] f_law_wheels :=
  have sc := sc_law_wheels
  fnG_of F sc (hN := by decide) fun cdv A outer sh H ga bo hr hg =>
    (ds_cons (ds_par (by decide) (ps_par (i := 3) (j := 4) rfl sc.nd rfl rfl (by decide) rfl rfl (pa_cons (d_lst das_nil) (pa_cons d_int pa_nil)) rfl)) (ds_cons (ds_for PassesOwn.never rfl (di_r1 B.range_ (PE.rd (d_op add_d (PE.rd d_int) (PE.rd (dc C__law_random hr hg (das_cons (d_v (pv 0)) (das_cons (d_v (pv 1)) das_nil))))))) (dg_name (pg_name (i := 5) sc.nd rfl (by first | exact .inl rfl | exact .inr rfl))) (ds_cons (ds_asg (d_b1 (sorted_c (hu65 hr)) B.sorted_ (by kernel_rfl) (PE.rd (d_cut (PE.rd (dc C__law_shuffled hr hg (das_cons (d_v (pv 0)) (das_cons (d_lst (das_cons d_int (das_cons d_int (das_cons d_int (das_cons d_int (das_cons d_int (das_cons d_int (das_cons d_int (das_cons d_int (das_cons d_int (das_cons d_int das_nil))))))))))) das_nil)))) do_none (do_some (PE.rd (d_op add_d (PE.rd d_int) (PE.rd (dc C__law_random hr hg (das_cons (d_v (pv 0)) (das_cons d_int das_nil)))))))))) (dg_name (pg_name (i := 6) sc.nd rfl (by first | exact .inl rfl | exact .inr rfl)))) (ds_one (ds_if (dt_cmp (le_d (hu64 hr)) (PE.rd (d_op mul_d (d_rv (pv 4)) (PE.rd (d_b1 len_c B.len_ (by kernel_rfl) (d_rv (pv 6)))))) (d_rv (pv 2))) (ds_one (ds_par (by decide) (ps_par (i := 3) (j := 4) rfl sc.nd rfl rfl (by decide) rfl rfl (pa_cons (d_op add_d (d_rv (pv 3)) (PE.rd (d_lst (das_cons (d_v (pv 6)) das_nil)))) (pa_cons (d_op mul_d (d_rv (pv 4)) (PE.rd (d_b1 len_c B.len_ (by kernel_rfl) (d_rv (pv 6))))) pa_nil)) rfl))) ds_nil)))) (ds_one (ds_ret (d_if (dt_cmp (ne_d (hu64 hr)) (d_rv (pv 3)) (PE.rd (d_lst das_nil))) (d_v (pv 3)) (d_lst (das_cons (d_lst (das_cons d_int das_nil)) das_nil)))))))
theorem sc_law_codes : FnScope ["wheels", "found", "figures", "longer", "code", "figure"] ["wheels"] (defScope s_law_codes) := ⟨rfl, rfl, rfl, by decide +kernel, rfl, by decide +kernel, by decide +kernel⟩
theorem w_law_codes (B : Blt mg)  {f : Addr} {fd : FuncData} (F : Fun K "_law_codes" "_law_codes" s_law_codes f fd) : FnG P w K mg base 1 f fd ["wheels"] f_law_codes :=
  have sc := sc_law_codes
  fnG_of F sc (hN := by decide) fun cdv A outer sh H ga bo hr hg =>
    (ds_cons (ds_asg (d_lst (das_cons (d_lst das_nil) das_nil)) (dg_name (pg_name (i := 1) sc.nd rfl (by first | exact .inl rfl | exact .inr rfl)))) (ds_cons (ds_for PassesOwn.never rfl (di_lst (d_v (pv 0))) (dg_name (pg_name (i := 2) sc.nd rfl (by first | exact .inl rfl | exact .inr rfl))) (ds_cons (ds_asg (d_lst das_nil) (dg_name (pg_name (i := 3) sc.nd rfl (by first | exact .inl rfl | exact .inr rfl)))) (ds_cons (ds_for PassesOwn.never rfl (di_lst (d_v (pv 1))) (dg_name (pg_name (i := 4) sc.nd rfl (by first | exact .inl rfl | exact .inr rfl))) (ds_one (ds_asg (d_op add_d (d_rv (pv 3)) (PE.rd (d_lc rfl sc.nd (blkOk_by (own := [("figure", 5)]) (by kernel_rfl)) (PI.b (di_lst (d_v (pv 2)))) (fun _ _ _ _ _ => (dg_name (pg_name (i := 5) sc.nd rfl (by first | exact .inl rfl | exact .inr rfl)))) (fun _ _ _ _ _ => dts_nil) (fun _ _ _ _ _ => (d_op add_d (d_rv (pv 4)) (PE.rd (d_lst (das_cons (d_v (pv 5)) das_nil)))))))) (dg_name (pg_name (i := 3) sc.nd rfl (by first | exact .inl rfl | exact .inr rfl)))))) (ds_one (ds_asg (d_v (pv 3)) (dg_name (pg_name (i := 1) sc.nd rfl (by first | exact .inl rfl | exact .inr rfl)))))))) (ds_one (ds_ret (d_v (pv 1))))))
theorem sc_law_alike : FnScope ["code", "other", "at", "figure"] ["code", "other"] (defScope s_law_alike) := ⟨rfl, rfl, rfl, by decide +kernel, rfl, by decide +kernel, by decide +kernel⟩
theorem w_law_alike (B : Blt mg)  {f : Addr} {fd : FuncData} (F : Fun K "_law_alike" "_law_alike" s_law_alike f fd) : FnG P w K mg base 1 f fd ["code", "other"] f_law_alike :=
  have sc := sc_law_alike
  fnG_of F sc (hN := by decide) fun cdv A outer sh H ga bo hr hg =>
    (ds_one (ds_ret (d_b1 len_c B.len_ (by kernel_rfl) (PE.rd (d_lc rfl sc.nd (blkOk_by (own := [("at", 2), ("figure", 3)]) (by kernel_rfl)) (PI.b (di_enum B.enumerate_ (d_v (pv 0)))) (fun _ _ _ _ _ => (dg_tup rfl (dgs_cons (dg_name (pg_name (i := 2) sc.nd rfl (by first | exact .inl rfl | exact .inr rfl))) (dgs_cons (dg_name (pg_name (i := 3) sc.nd rfl (by first | exact .inl rfl | exact .inr rfl))) dgs_nil)))) (fun _ _ _ _ _ => (dts_one (dt_cmp (eq_d (hu64 hr)) (d_rv (pv 3)) (PE.rd (d_ix (d_rv (pv 1)) (d_rv (pv 2))))))) (fun _ _ _ _ _ => (d_v (pv 2))))))))
theorem sc_law_turned : FnScope ["wheels", "code", "late", "apart", "figures", "figure", "other"] ["wheels", "code", "late"] (defScope s_law_turned) := ⟨rfl, rfl, rfl, by decide +kernel, rfl, by decide +kernel, by decide +kernel⟩
theorem w_law_turned (B : Blt mg)  {f : Addr} {fd : FuncData} (F : Fun K "_law_turned" "_law_turned" s_law_turned f fd) : FnG P w K mg base 1 f fd ["wheels", "code", "late"] f_law_turned :=
  have sc := sc_law_turned
  fnG_of F sc (hN := by decide) fun cdv A outer sh H ga bo hr hg =>
    (ds_cons (ds_lc  (i := 3) rfl sc.nd rfl rfl (sw_true rfl rfl rfl (by decide +kernel)) (blkOk_by (own := [("figures", 4), ("figure", 5), ("other", 6)]) (by kernel_rfl)) (PI.b (di_zip3 B.zip_ (d_v (pv 0)) (d_v (pv 1)) (d_v (pv 2)))) (fun _ _ _ _ _ => (dg_tup rfl (dgs_cons (dg_name (pg_name (i := 4) sc.nd rfl (by first | exact .inl rfl | exact .inr rfl))) (dgs_cons (dg_name (pg_name (i := 5) sc.nd rfl (by first | exact .inl rfl | exact .inr rfl))) (dgs_cons (dg_name (pg_name (i := 6) sc.nd rfl (by first | exact .inl rfl | exact .inr rfl))) dgs_nil))))) (fun _ _ _ _ _ => dts_nil) (fun _ _ _ _ _ => (d_b1 abs_c B.abs_ (by kernel_rfl) (PE.rd (d_op sub_d (PE.rd (d_index (d_rv (pv 4)) (d_rv (pv 5)))) (PE.rd (d_index (d_rv (pv 4)) (d_rv (pv 6))))))))) (ds_one (ds_ret (d_cmp (in_d (hu65 hr)) (PE.rd (d_cut (PE.rd (d_rev (PE.rd (d_b1 (sorted_c (hu65 hr)) B.sorted_ (by kernel_rfl) (d_rv (pv 3)))))) do_none (do_some (PE.rd d_int)))) (PE.rd (d_lst (das_cons (d_lst (das_cons d_int das_nil)) (das_cons (d_lst (das_cons d_int (das_cons d_int das_nil))) das_nil))))))))
theorem sc_law_is_row : FnScope ["wheels", "value", "code", "late", "at"] ["wheels", "value"] (defScope s_law_is_row) := ⟨rfl, rfl, rfl, by decide +kernel, rfl, by decide +kernel, by decide +kernel⟩
theorem w_law_is_row (B : Blt mg) (C__law_codes : Cal P w K mg base 1 "_law_codes" s_law_codes ["wheels"] f_law_codes) (C__law_turned : Cal P w K mg base 1 "_law_turned" s_law_turned ["wheels", "code", "late"] f_law_turned) {f : Addr} {fd : FuncData} (F : Fun K "_law_is_row" "_law_is_row" s_law_is_row f fd) : FnG P w K mg base 2 f fd ["wheels", "value"] f_law_is_row :=
  have sc := sc_law_is_row
  fnG_of F sc (hN := by decide) fun cdv A outer sh H ga bo hr hg =>
    (ds_cons (ds_if (PW.pt (dw_or (dt_not (d_test (PE.rd (d_isi (t := "list") (by decide) B.isi (by kernel_rfl) B.list_ (by kernel_rfl) (d_rv (pv 1)))))) (dw_or (dt_cmp (ne_d (hu64 hr)) (PE.rd (d_b1 len_c B.len_ (by kernel_rfl) (d_rv (pv 1)))) (PE.rd (d_b1 len_c B.len_ (by kernel_rfl) (PE.rd (dc C__law_codes hr hg (das_cons (d_v (pv 0)) das_nil)))))) (dw_one_or (dt_cmp (ne_d (hu64 hr)) (PE.rd (d_lc rfl sc.nd (blkOk_by (own := [("code", 2)]) (by kernel_rfl)) (PI.b (di_lst (d_v (pv 1)))) (fun _ _ _ _ _ => (dg_name (pg_name (i := 2) sc.nd rfl (by first | exact .inl rfl | exact .inr rfl)))) (fun _ _ _ _ _ => (dts_one (PW.pt (dw_or (dt_not (d_test (PE.rd (d_isi (t := "list") (by decide) B.isi (by kernel_rfl) B.list_ (by kernel_rfl) (d_rv (pv 2)))))) (dw_one_or (dt_cmp (notIn_d (hu65 hr)) (PE.rd (d_b1 (repr_c hg (hu65 hr)) B.repr_ (by kernel_rfl) (d_rv (pv 2)))) (PE.rd (d_lc rfl sc.nd (blkOk_by (own := [("late", 3)]) (by kernel_rfl)) (PI.b (di_lst (dc C__law_codes hr hg (das_cons (d_v (pv 0)) das_nil)))) (fun _ _ _ _ _ => (dg_name (pg_name (i := 3) sc.nd rfl (by first | exact .inl rfl | exact .inr rfl)))) (fun _ _ _ _ _ => dts_nil) (fun _ _ _ _ _ => (d_b1 (repr_c hg (hu65 hr)) B.repr_ (by kernel_rfl) (d_rv (pv 3)))))))))))) (fun _ _ _ _ _ => (d_v (pv 2))))) (PE.rd (d_lst das_nil))))))) (ds_one (ds_ret d_bl)) ds_nil) (ds_cons (ds_if (dt_cmp (ne_d (hu64 hr)) (PE.rd (d_b1 (sorted_c (hu65 hr)) B.sorted_ (by kernel_rfl) (d_rv (pv 1)))) (PE.rd (dc C__law_codes hr hg (das_cons (d_v (pv 0)) das_nil)))) (ds_one (ds_ret d_bl)) ds_nil) (ds_one (ds_ret (d_cmp (eq_d (hu64 hr)) (PE.rd (d_lc rfl sc.nd (blkOk_by (own := [("at", 4)]) (by kernel_rfl)) (PI.b (di_r2 B.range_ (PE.rd d_int) (PE.rd (d_b1 len_c B.len_ (by kernel_rfl) (d_rv (pv 1)))))) (fun _ _ _ _ _ => (dg_name (pg_name (i := 4) sc.nd rfl (by first | exact .inl rfl | exact .inr rfl)))) (fun _ _ _ _ _ => (dts_one (dt_not (d_test (PE.rd (dc C__law_turned hr hg (das_cons (d_v (pv 0)) (das_cons (d_ix (d_rv (pv 1)) (PE.rd (d_op sub_d (d_rv (pv 4)) (PE.rd d_int)))) (das_cons (d_ix (d_rv (pv 1)) (d_rv (pv 4))) das_nil))))))))) (fun _ _ _ _ _ => (d_v (pv 4))))) (PE.rd (d_lst das_nil)))))))
theorem sc_law_values : FnScope ["generator", "row", "at", "to", "swapped", "found", "odd", "spot", "code"] ["generator", "row"] (defScope s_law_values) := ⟨rfl, rfl, rfl, by decide +kernel, rfl, by decide +kernel, by decide +kernel⟩
theorem w_law_values (B : Blt mg) (C__law_random : Cal P w K mg base 2 "_law_random" s_law_random ["generator", "bound"] f_law_random) {f : Addr} {fd : FuncData} (F : Fun K "_law_values" "_law_values" s_law_values f fd) : FnG P w K mg base 3 f fd ["generator", "row"] f_law_values :=
  have sc := sc_law_values
  fnG_of F sc (hN := by decide) fun cdv A outer sh H ga bo hr hg =>
    (ds_cons (ds_asg (d_tup (das_cons (dc C__law_random hr hg (das_cons (d_v (pv 0)) (das_cons (d_b1 len_c B.len_ (by kernel_rfl) (d_rv (pv 1))) das_nil))) (das_cons (dc C__law_random hr hg (das_cons (d_v (pv 0)) (das_cons (d_b1 len_c B.len_ (by kernel_rfl) (d_rv (pv 1))) das_nil))) das_nil))) (dg_tup rfl (dgs_cons (dg_name (pg_name (i := 2) sc.nd rfl (by first | exact .inl rfl | exact .inr rfl))) (dgs_cons (dg_name (pg_name (i := 3) sc.nd rfl (by first | exact .inl rfl | exact .inr rfl))) dgs_nil)))) (ds_cons (ds_lc  (i := 4) rfl sc.nd rfl rfl (sw_true rfl rfl rfl (by decide +kernel)) (blkOk_by (own := [("spot", 7), ("code", 8)]) (by kernel_rfl)) (PI.b (di_enum B.enumerate_ (d_v (pv 1)))) (fun _ _ _ _ _ => (dg_tup rfl (dgs_cons (dg_name (pg_name (i := 7) sc.nd rfl (by first | exact .inl rfl | exact .inr rfl))) (dgs_cons (dg_name (pg_name (i := 8) sc.nd rfl (by first | exact .inl rfl | exact .inr rfl))) dgs_nil)))) (fun _ _ _ _ _ => dts_nil) (fun _ _ _ _ _ => (d_if (dt_cmp (eq_d (hu64 hr)) (d_rv (pv 7)) (d_rv (pv 2))) (d_ix (d_rv (pv 1)) (d_rv (pv 3))) (d_if (dt_cmp (eq_d (hu64 hr)) (d_rv (pv 7)) (d_rv (pv 3))) (d_ix (d_rv (pv 1)) (d_rv (pv 2))) (d_v (pv 8)))))) (ds_cons (ds_own (dn_lst (das_cons (d_v (pv 1)) (das_cons (d_rev (d_rv (pv 1))) (das_cons (d_cut (d_rv (pv 1)) (do_some (PE.rd d_int)) do_none) (das_cons (d_cut (d_rv (pv 1)) do_none (do_some (PE.rd (d_neg (PE.rd d_int))))) (das_cons (d_op add_d (d_rv (pv 1)) (PE.rd (d_cut (d_rv (pv 1)) (do_some (PE.rd (d_neg (PE.rd d_int)))) do_none))) (das_cons (d_op add_d (PE.rd (d_cut (d_rv (pv 1)) (do_some (PE.rd d_int)) do_none)) (PE.rd (d_cut (d_rv (pv 1)) do_none (do_some (PE.rd d_int))))) (das_cons (d_v (pv 4)) (das_cons (d_b1 (sorted_c (hu65 hr)) B.sorted_ (by kernel_rfl) (d_rv (pv 1))) (das_cons (d_t1 tuple_c B.tuple_ (by kernel_rfl) (d_rv (pv 1))) (das_cons d_non (das_cons (d_lst das_nil) (das_cons (d_tup das_nil) (das_cons d_dct0 (das_cons d_str (das_cons (d_lc rfl sc.nd (blkOk_by (own := [("code", 8)]) (by kernel_rfl)) (PI.b (di_lst (d_v (pv 1)))) (fun _ _ _ _ _ => (dg_name (pg_name (i := 8) sc.nd rfl (by first | exact .inl rfl | exact .inr rfl)))) (fun _ _ _ _ _ => dts_nil) (fun _ _ _ _ _ => (d_t1 tuple_c B.tuple_ (by kernel_rfl) (d_rv (pv 8))))) das_nil)))))))))))))))) (pg_name (i := 5) sc.nd rfl (by first | exact .inl rfl | exact .inr rfl))) (ds_cons (ds_for PassesOwn.never rfl (di_lst (d_lst (das_cons d_non (das_cons (d_lst das_nil) (das_cons (d_cut (PE.rd (d_ix (d_rv (pv 1)) (d_rv (pv 2)))) do_none (do_some (PE.rd (d_neg (PE.rd d_int))))) (das_cons (d_op add_d (PE.rd (d_ix (d_rv (pv 1)) (d_rv (pv 2)))) (PE.rd (d_lst (das_cons d_int das_nil)))) (das_cons (d_tup (das_cons d_int das_nil)) (das_cons (d_op mul_d (PE.rd (d_lst (das_cons d_bl das_nil))) (PE.rd (d_b1 len_c B.len_ (by kernel_rfl) (PE.rd (d_ix (d_rv (pv 1)) (d_rv (pv 2))))))) (das_cons (d_ix (d_rv (pv 1)) (d_rv (pv 3))) das_nil))))))))) (dg_name (pg_name (i := 6) sc.nd rfl (by first | exact .inl rfl | exact .inr rfl))) (ds_one (ds_app (pv 5) (d_op add_d (PE.rd (d_op add_d (PE.rd (d_cut (d_rv (pv 1)) do_none (do_some (d_rv (pv 2))))) (PE.rd (d_lst (das_cons (d_v (pv 6)) das_nil))))) (PE.rd (d_cut (d_rv (pv 1)) (do_some (PE.rd (d_op add_d (d_rv (pv 2)) (PE.rd d_int)))) do_none)))))) (dss_frz (ds_one (ds_ret (d_v (pv 5)))))))))
theorem sc_law_right : FnScope ["generator", "wheels", "kept", "row", "value", "due", "shown"] ["generator"] (defScope s_law_right) := ⟨rfl, rfl, rfl, by decide +kernel, rfl, by decide +kernel, by decide +kernel⟩
theorem sc_law : FnScope ["script", "index", "generator", "far"] ["script"] (defScope s_law) := ⟨rfl, rfl, rfl, by decide +kernel, rfl, by decide +kernel, by decide +kernel⟩
end
end K76

/-! ## HK76 -/
set_option Elab.async false
set_option autoImplicit false
set_option linter.all false
set_option maxRecDepth 100000
set_option maxHeartbeats 4000000
namespace K76
open PySem PySem.Spec PyProof.Rows L2 DL
section
variable {P : Program} {w : World} {K : PySem.W.Frag} {mg : Str → Option Value} {base : Heap}
/-- a number of the script -/
def cellOf (ns : List Int) (i : Nat) : Int := match ns[i]? with
  | some x => x
  | none => (ns.take 1).sum % 1000003
def spCell (K : PySem.W.Frag) : List V → Hp → VK → Prop := fun vs H Q => ∃ (a : Addr) (ns : List Int) (i : Nat), vs = [.ref a, .int i] ∧ SqL K H a (ns.map V.int) ∧ i < 1000 ∧ ∀ H', Same H H' → Q (.int (cellOf ns i)) H'
theorem q_law_cell (B : Blt mg) {f : Addr} {fd : FuncData} (F : Fun K "_law_cell" "_law_cell" s_law_cell f fd) : FnQ P w K mg base 1 f fd ["script", "index"] (spCell K) :=
  fnQ_of F sc_law_cell fun cdv A outer sh H vs Q hr hg hl ⟨a, ns, i, e, hS, hi, q⟩ => by
    subst e
    refine ⟨_, pss_cons (ps_if (pt_cmpR op_lt (pv 1) (pe_callB call_len_seq (by rfl) B.len_ (by kernel_rfl) (pa_cons (pv 0) pa_nil)) rfl) (pss_one (ps_ret (pe_ix ix_list (pv 0) (pv 1) (fun _ _ => rfl)))) pss_nil)
      (pss_one (ps_ret (pe_op op_mod (pe_callB (cr_sum rfl) (by rfl) B.sum_ (by kernel_rfl) (pa_cons (pe_slice sl_list (pv 0) po_none (po_some pe_int)) pa_nil)) pe_int))), ?_⟩
    refine ⟨.int i, rfl, .ref a, rfl, a, ns.map V.int, rfl, .inl hS, i, (ns.map V.int).length, rfl, rfl, _, rfl, ?_⟩
    by_cases h : i < ns.length
    · rw [decide_eq_true (show (i : Int) < ((ns.map V.int).length : Nat) by rw [List.length_map]; omega)]
      refine iteT ⟨.ref a, rfl, .int i, rfl, a, _, i, .int ns[i], rfl, rfl, hS, atI_nat (by rw [List.getElem?_map, List.getElem?_eq_getElem h]; rfl), ?_⟩
      have q' := q H (.refl H)
      unfold cellOf at q'
      rw [List.getElem?_eq_getElem h] at q'
      exact q'
    · rw [decide_eq_false (show ¬ (i : Int) < ((ns.map V.int).length : Nat) by rw [List.length_map]; omega)]
      refine iteF ⟨.ref a, rfl, 1, rfl, a, _, rfl, hS, fun p hp => ?_⟩
      have ec : cutV (ns.map V.int) none (some 1) = (ns.take 1).map V.int := by
        rw [cut_eq]
        unfold cut cutEnd
        rw [List.map_take]
        cases ns <;> simp
      refine ⟨p, ns.take 1, rfl, SqL.of (by rw [upd_same, ec]), _, _, rfl, rfl, (show (0 : Int) < 1000003 by decide), ?_⟩
      have q' := q (upd H p (.lst (cutV (ns.map V.int) none (some 1)))) fun b o e => by rw [upd_ne (ne_of_none e hp)]; exact e
      unfold cellOf at q'
      rw [List.getElem?_eq_none (by omega)] at q'
      exact q'
/-! ### the generator's list -/
def big18 : Int := 10 ^ 18
def gen0 (x : Int) : Int := (if x - 10 ^ 18 < 0 then 0 else x - 10 ^ 18) % (10 ^ 60) ^ 10
def genOf (ns : List Int) (i : Nat) : List Int := [gen0 (cellOf ns i), cellOf ns i % 2147483647, 1000 * (i : Int)]
def spGen (K : PySem.W.Frag) : List V → Hp → VK → Prop := fun vs H Q => ∃ (a : Addr) (ns : List Int) (i : Nat), vs = [.ref a, .int i] ∧ SqL K H a (ns.map V.int) ∧ i < 1000 ∧ ∀ p H', Same H H' → H p = none → H' p = some (.lst ((genOf ns i).map V.int)) → Q (.ref p) H'
def genE : Es := esC (eO dMod (eF dInt (eO dMax2 (eO dSub (eV 2) (eO dPow (eK (.int 10)) (eK (.int 18)))) (eK (.int 0)))) (eO dPow (eO dPow (eK (.int 10)) (eK (.int 60))) (eK (.int 10)))) (esC (eO dMod (eF dInt (eV 2)) (eK (.int 2147483647))) (esC (eO dMul (eK (.int 1000)) (eV 1)) esN))
theorem q_law_generator (B : Blt mg) (C : ∃ f fd, mg "_law_cell" = some (.ref f) ∧ Fun K "_law_cell" "_law_cell" s_law_cell f fd ∧ Binds K fd ["script", "index"] [] ∧ FnQ P w K mg base 1 f fd ["script", "index"] (spCell K)) {f : Addr} {fd : FuncData} (F : Fun K "_law_generator" "_law_generator" s_law_generator f fd) : FnQ P w K mg base 2 f fd ["script", "index"] (spGen K) :=
  fnQ_of F sc_law_generator fun cdv A outer sh H vs Q hr hg hl ⟨a, ns, i, e, hS, hi, q⟩ => by
    subst e
    obtain ⟨fc, fdc, c1, c2, c3, c4⟩ := C
    have sc := sc_law_generator
    refine ⟨_, pss_cons (ps_set (i := 2) sc.nd rfl (by first | exact .inl rfl | exact .inr rfl) (pe_callQ c4 hr hg c1 c2.kp c3 (pa_cons (pv 0) (pa_cons (pv 1) pa_nil))))
      (pss_one (ps_ret (dn_lst (c := ⟨K, mg, none, fun _ => none⟩) (fs := genE) (das_cons (d_op mod_d (.rd (d_t1 int_c B.int_ (by kernel_rfl) (.rd (d_b2 (max2_c rfl) B.max_ (by kernel_rfl) (.rd (d_op sub_d (d_rv (pv 2)) (.rd (d_op pow_d (.rd d_int) (.rd d_int))))) (.rd d_int))))) (.rd (d_op pow_d (.rd (d_op pow_d (.rd d_int) (.rd d_int))) (.rd d_int))))
        (das_cons (d_op mod_d (.rd (d_t1 int_c B.int_ (by kernel_rfl) (d_rv (pv 2)))) (.rd d_int)) (das_cons (d_op mul_d (.rd d_int) (d_rv (pv 1))) das_nil)))))), ?_⟩
    refine ⟨.ref a, rfl, .int i, rfl, rfl, a, ns, i, rfl, hS, hi, fun H1 s1 => ?_⟩
    refine ⟨H1, fun _ => none, [.no, .val (.int i), .val (.int (cellOf ns i))], [], (genOf ns i).map D.int, [], ⟨fun b o e => (by cases e), ⟨fun b e => (by cases e), fun b o e => (by cases e), fun b e => (by cases e)⟩, rfl, fun j d h => ?_, fun j xs h => ?_, fun j k xs ys ne h1 h2 => ?_, fun b o e => (by cases e)⟩, ?_, fun p vs F' H' st e1 e2 e3 r => ?_⟩
    · match j, h with
      | 0, h => cases h
      | 1, h => cases h; exact ⟨.int i, rfl, .int _⟩
      | 2, h => cases h; exact ⟨_, rfl, .int _⟩
    · match j, h with
      | 0, h => cases h
      | 1, h => cases h
      | 2, h => cases h
    · match j, h1 with
      | 0, h => cases h
      | 1, h => cases h
      | 2, h => cases h
    · have p1 : dPow (.int 10) (.int 18) = pure (.int (10 ^ 18)) := rfl
      have p2 : dPow (.int 10) (.int 60) = pure (.int (10 ^ 60)) := rfl
      have p3 : dPow (.int (10 ^ 60)) (.int 10) = pure (.int ((10 ^ 60) ^ 10)) := rfl
      have m1 : dMul (.int 1000) (.int i) = pure (.int (1000 * i)) := by
        show (if big 1000 + big i < 1000000 then _ else _) = _
        unfold big
        rw [if_pos]
        have h2 : (i : Int).natAbs.log2 ≤ i := Nat.log2_le_self i
        have h3 : (1000 : Int).natAbs.log2 = 9 := by decide
        omega
      refine ok_bind.mpr ⟨_, _, (?_ : Ok (genE _) [] ((genOf ns i).map D.int) []), ok_pure.mpr ⟨rfl, rfl⟩⟩
      have ee : genE [.no, .val (.int i), .val (.int (cellOf ns i))] = pure ((genOf ns i).map D.int) := by
        simp only [genE, esC, esN, eO, eF, eV, eK, pure_bind, p1, p2, p3, m1, dSub, dMax2, dInt, List.getElem?_cons_succ, List.getElem?_cons_zero, dMod]
        rfl
      rw [ee]
      exact ok_pure.mpr ⟨rfl, rfl⟩
    · rw [RepAll.ofInts r] at e1
      exact q p H' (s1.trans fun b o e => st.ext b o (fun z => (by cases z)) e) (by
        cases e : H p with
        | none => rfl
        | some u => rw [s1 p u e] at e3; cases e3) e1
end
end K76

/-! ## RK76 -/
set_option Elab.async false
set_option autoImplicit false
set_option linter.all false
set_option maxRecDepth 100000
set_option maxHeartbeats 4000000
namespace K76
open PySem PySem.Spec PyProof.Rows L2 DL
section
variable {P : Program} {w : World} {K : PySem.W.Frag} {mg : Str → Option Value} {base : Heap}
theorem w_law_right {k : Nat} (B : Blt mg) (C__law_wheels : Cal P w K mg base k "_law_wheels" s_law_wheels ["generator", "most", "codes"] f_law_wheels) (C_turn_row : Cal P w K mg base k "turn_row" s_turn_row ["wheels"] f_turn_row)
    (C__law_is_row : Cal P w K mg base k "_law_is_row" s_law_is_row ["wheels", "value"] f_law_is_row) (C__law_values : Cal P w K mg base k "_law_values" s_law_values ["generator", "row"] f_law_values)
    (C__law_same : Cal P w K mg base k "_law_same" s_law_same ["found", "due"] (f_law_same 3)) (C_is_turn_row : Cal P w K mg base k "is_turn_row" s_is_turn_row ["wheels", "value"] f_is_turn_row)
    {f : Addr} {fd : FuncData} (F : Fun K "_law_right" "_law_right" s_law_right f fd) : FnG P w K mg base (k + 1) f fd ["generator"] f_law_right :=
  have sc := sc_law_right
  fnG_of F sc (hN := by decide) fun cdv A outer sh H ga bo hr hg => by
    obtain ⟨ft, fdt, t1, t2, t3, t4⟩ := C_turn_row.ex
    have hj : k ≤ k := Nat.le_refl k
    refine ds_cons (ds_asg (dc (hj := hj) C__law_wheels hr hg (das_cons (d_v (pv 0)) (das_cons d_int (das_cons d_int das_nil)))) (dg_name (pg_name (i := 1) sc.nd rfl (by first | exact .inl rfl | exact .inr rfl)))) (ds_cons (ds_asg (d_b1 (repr_c hg (hu65 hr)) B.repr_ (by kernel_rfl) (d_rv (pv 1))) (dg_name (pg_name (i := 2) sc.nd rfl (by first | exact .inl rfl | exact .inr rfl)))) (ds_cons ((ps_for PassesOwn.never rfl (pi_list (pe_lst (pa_cons (pe_callQ t4.new hr hg t1 t2.kp t3 (pa_cons (pv 1) pa_nil)) (pa_cons (pe_callQK0 (ks := ["wheels"]) (ix := [0]) t4.new hr hg t1 t2.kp (kwB_of t2 kw_turn_row_0_wheels) (pk_cons (pv 1) pk_nil)) pa_nil))))
      (pg_name (i := 3) sc.nd rfl (by first | exact .inl rfl | exact .inr rfl)) (pss_cons (psx fun ga bo => (ds_if (dt_not (d_test (PE.rd (dcI (hj := hj) C__law_is_row hr hg (das_cons (d_v (pv 1)) (das_cons (d_v (pv 3)) das_nil)))))) (ds_one (ds_ret d_bl)) ds_nil)) (pss_cons (psx fun ga bo => (ds_for PassesOwn.never rfl (di_lst (dc (hj := hj) C__law_values hr hg (das_cons (d_v (pv 0)) (das_cons (d_v (pv 3)) das_nil)))) (dg_name (pg_name (i := 4) sc.nd rfl (by first | exact .inl rfl | exact .inr rfl))) (ds_cons (ds_par (by decide) (ps_par (i := 5) (j := 6) rfl sc.nd rfl rfl (by decide) rfl rfl (pa_cons (dcI (hj := hj) C__law_is_row hr hg (das_cons (d_v (pv 1)) (das_cons (d_v (pv 4)) das_nil))) (pa_cons (d_b1 (repr_c hg (hu65 hr)) B.repr_ (by kernel_rfl) (d_ub (d_v (pv 4)))) pa_nil)) rfl)) (ds_one (ds_if (PW.pt (dw_or (dt_not (d_test (PE.rd (dc (hj := hj) C__law_same hr hg (das_cons (d_lst (das_cons (dcI (hj := hj) C_is_turn_row hr hg (das_cons (d_v (pv 1)) (das_cons (d_v (pv 4)) das_nil))) (das_cons (dcIK0 (hj := hj) C_is_turn_row hr hg (kw_is_turn_row_0_value_wheels) (dk_cons (d_v (pv 4)) (dk_cons (d_v (pv 1)) dk_nil)) (esN_cons (esN_cons esN_nil))) das_nil))) (das_cons (d_lst (das_cons (d_v (pv 5)) (das_cons (d_v (pv 5)) das_nil))) das_nil)))))) (dw_one_or (dt_cmp (ne_d (hu64 hr)) (PE.rd (d_b1 (repr_c hg (hu65 hr)) B.repr_ (by kernel_rfl) (d_ub (d_v (pv 4))))) (d_ub (d_v (pv 6))))))) (ds_one (ds_ret d_bl)) ds_nil))))) (pss_cons (ps_odd1 (i := 3) (pv 3)) (pss_one (ps_odd0 (i := 3) (pv 3))))))).imp rows_imp) (ds_one (ds_ret (d_and (PE.rd (dc (hj := hj) C__law_is_row hr hg (das_cons (d_v (pv 1)) (das_cons (dc (hj := hj) C_turn_row hr hg (das_cons (d_v (pv 1)) das_nil)) das_nil)))) (d_one (d_cmp (eq_d (hu64 hr)) (PE.rd (d_b1 (repr_c hg (hu65 hr)) B.repr_ (by kernel_rfl) (d_rv (pv 1)))) (d_rv (pv 2)))))))))
end
end K76

/-! ## LK76 -/
set_option Elab.async false
set_option autoImplicit false
set_option linter.all false
set_option maxRecDepth 100000
set_option maxHeartbeats 4000000
namespace K76
open PySem PySem.Spec PyProof.Rows L2 DL
section
variable {P : Program} {w : World} {K : PySem.W.Frag} {mg : Str → Option Value} {base : Heap}
def tTx (K : PySem.W.Frag) (mg : Str → Option Value) (f : E) : TT := fun σ H Q => ∃ ga bo, tT ⟨K, mg, ga, bo⟩ f σ H Q
theorem ptx {X : Cx} {e : Expr} {f : E} (h : ∀ ga bo, PT X e (tT ⟨X.K, X.mg, ga, bo⟩ f)) : PT X e (tTx X.K X.mg f) := ⟨fun pins t σ H Q I ⟨ga, bo, q⟩ => (h ga bo).run pins t σ H Q I q⟩
def spLaw (K : PySem.W.Frag) : List V → Hp → VK → Prop := fun vs H Q => ∃ (a : Addr) (ns : List Int), vs = [.ref a] ∧ SqL K H a (ns.map V.int) ∧ ∀ H', Q (.bl true) H'
def eTurns : E := eOr (eF dNot (eCall f_law_right (esC (eW 2) esN))) (eF dNot (eCall f_law_right (esC (eW 2) esN)))
theorem q_law {k : Nat} (B : Blt mg) (C__law_right : Cal P w K mg base (k + 2) "_law_right" s_law_right ["generator"] f_law_right) (C_is_turn_row : Cal P w K mg base (k + 2) "is_turn_row" s_is_turn_row ["wheels", "value"] f_is_turn_row)
    (C : ∃ f fd, mg "_law_generator" = some (.ref f) ∧ Fun K "_law_generator" "_law_generator" s_law_generator f fd ∧ Binds K fd ["script", "index"] [] ∧ FnQ P w K mg base 2 f fd ["script", "index"] (spGen K))
    (right : ∀ (ns : List Int) (i : Nat), i < 3 → ∃ g1 g2, Ok (f_law_right [.gen]) (genOf ns i) (.bl true) g1 ∧ Ok (f_law_right [.gen]) g1 (.bl true) g2) (far : Ok (sLaw76 [.no, .no, .no, .no]) [] (.rt (.bl true)) [])
    {f : Addr} {fd : FuncData} (F : Fun K "law" "law" s_law f fd) : FnQ P w K mg base (k + 3) f fd ["script"] (spLaw K) :=
  fnQ_of F sc_law fun cdv A outer sh H vs Q hr hg hl ⟨a, ns, e, hS, q⟩ => by
    subst e
    obtain ⟨fc, fdc, c1, c2, c3, c4⟩ := C
    have sc := sc_law
    have hj : k + 2 ≤ k + 2 := Nat.le_refl _
    have hj2 : 2 ≤ k + 2 := by omega
    refine ⟨_, pss_cons (ps_for PassesOwn.never rfl (pi_range1 (by rfl) B.range_ (pa_cons pe_int pa_nil)) (pg_name (i := 1) sc.nd rfl (by first | exact .inl rfl | exact .inr rfl))
      (pss_cons (ps_set (i := 2) sc.nd rfl (by first | exact .inl rfl | exact .inr rfl) (pe_callQ (c4.mono hj2) hr hg c1 c2.kp c3 (pa_cons (pv 0) (pa_cons (pv 1) pa_nil))))
        (pss_one (ps_if (ptx (f := eTurns) fun ga bo => PW.pt (dw_or (dt_not (d_test (PE.rd (dc (hj := hj) C__law_right hr hg (das_cons (d_v (pv 2)) das_nil))))) (dw_one_or (dt_not (d_test (PE.rd (dc (hj := hj) C__law_right hr hg (das_cons (d_v (pv 2)) das_nil)))))))) pss_never pss_nil))))
      ((ds_cons (c := ⟨K, mg, none, fun _ => none⟩) (ds_asg (d_lst (das_cons (d_lst (das_cons d_int (das_cons d_int (das_cons d_int das_nil)))) (das_cons (d_lst (das_cons d_int das_nil)) das_nil))) (dg_name (pg_name (i := 3) sc.nd rfl (by first | exact .inl rfl | exact .inr rfl)))) (ds_one (ds_ret (d_cmp (eq_d (hu64 hr)) (PE.rd (d_lst (das_cons (dc (hj := hj) C_is_turn_row hr hg (das_cons (d_v (pv 3)) (das_cons (d_lst (das_cons (d_lst (das_cons d_int (das_cons d_int das_nil))) (das_cons (d_lst (das_cons d_int (das_cons d_int das_nil))) (das_cons (d_lst (das_cons d_int (das_cons d_int das_nil))) das_nil)))) das_nil))) (das_cons (dc (hj := hj) C_is_turn_row hr hg (das_cons (d_v (pv 3)) (das_cons (d_lst (das_cons (d_lst (das_cons d_int (das_cons d_int das_nil))) (das_cons (d_lst (das_cons d_int (das_cons d_int das_nil))) (das_cons (d_lst (das_cons d_int (das_cons d_int das_nil))) das_nil)))) das_nil))) (das_cons (dc (hj := hj) C_is_turn_row hr hg (das_cons (d_lst (das_cons (d_lst (das_cons d_int das_nil)) das_nil)) (das_cons (d_lst (das_cons (d_lst (das_cons d_int das_nil)) das_nil)) das_nil))) (das_cons (dc (hj := hj) C_is_turn_row hr hg (das_cons (d_lst (das_cons (d_lst (das_cons d_int das_nil)) das_nil)) (das_cons (d_lst das_nil) das_nil))) das_nil)))))) (PE.rd (d_lst (das_cons d_bl (das_cons d_bl (das_cons d_bl (das_cons d_bl das_nil))))))))))), ?_⟩
    refine ⟨3, rfl, by decide, by decide, ?_⟩
    refine ⟨fun i m σ H' => m = 3 - i ∧ i ≤ 3 ∧ σ.length = 4 ∧ σ[0]? = some (some (.ref a)) ∧ SqL K H' a (ns.map V.int), ⟨3, rfl, by decide, rfl, rfl, hS⟩, fun i m σ H1 h => ?_⟩
    obtain ⟨rfl, hi, hlen, h0, hS1⟩ := h
    by_cases hlt : i < 3
    · refine .inr ⟨hlt, fun σ' H' => σ'.length = 4 ∧ σ'[0]? = some (some (.ref a)) ∧ SqL K H' a (ns.map V.int), fun σ' H' hN => ⟨3 - (i + 1), by omega, rfl, hlt, hN⟩, fun x H2 hy => ?_⟩
      obtain ⟨rfl, rfl⟩ := hy
      have e0 : (σ.set 1 (some (V.int (0 + (i : Nat)))))[0]? = some (some (.ref a)) := by rw [List.getElem?_set_ne (by decide)]; exact h0
      have e1 : (σ.set 1 (some (V.int (0 + (i : Nat)))))[1]? = some (some (.int i)) := by rw [List.getElem?_set_self (by omega), Int.zero_add]
      refine ⟨.ref a, e0, .int i, e1, rfl, a, ns, i, rfl, hS1, by omega, fun p H3 s3 hp hp3 => ?_⟩
      obtain ⟨g1, g2, o1, o2⟩ := right ns i hlt
      have ap : a ≠ p ∨ ∃ o, K.lookup a = some o := by
        rcases hS1 with h | ⟨o, _, _, h, _⟩
        · refine .inl fun z => ?_
          rcases h with h | ⟨od, h⟩
          · rw [z, hp] at h; cases h
          · rw [z, hp] at h; cases h
        · exact .inr ⟨o, h⟩
      refine ⟨some p, fun _ => none, H3, fun _ => none, [.no, .no, .val .gen, .no], genOf ns i, false, g2, ⟨fun b o e => (by cases e), ⟨fun b e => ⟨rfl, by cases e; exact hp3⟩, fun b o e => (by cases e), fun b e => rfl⟩, by simp [hlen], fun j d h => ?_, fun j xs h => ?_, fun j j2 xs ys ne h1 h2 => ?_, fun b o e => (by cases e)⟩, ?_, fun F' H' st => iteF ?_⟩
      · match j, h with
        | 0, h => cases h
        | 1, h => cases h
        | 2, h =>
          cases h
          exact ⟨.ref p, by rw [List.getElem?_set_self (by simp [hlen])], .gen rfl⟩
        | 3, h => cases h
        | j + 4, h => simp at h
      · match j, h with
        | 0, h => cases h
        | 1, h => cases h
        | 2, h => cases h
        | 3, h => cases h
        | j + 4, h => simp at h
      · match j, h1 with
        | 0, h => cases h
        | 1, h => cases h
        | 2, h => cases h
        | 3, h => cases h
        | j + 4, h => simp at h
      · refine ok_bind.mpr ⟨.bl false, g1, ok_bind.mpr ⟨.bl true, g1, ok_bind.mpr ⟨[.gen], genOf ns i, ok_bind.mpr ⟨.gen, genOf ns i, ok_pure.mpr ⟨rfl, rfl⟩, ok_pure.mpr ⟨rfl, rfl⟩⟩, o1⟩, ok_pure.mpr ⟨rfl, rfl⟩⟩, ?_⟩
        exact ok_bind.mpr ⟨.bl true, g2, ok_bind.mpr ⟨[.gen], g1, ok_bind.mpr ⟨.gen, g1, ok_pure.mpr ⟨rfl, rfl⟩, ok_pure.mpr ⟨rfl, rfl⟩⟩, o2⟩, ok_pure.mpr ⟨rfl, rfl⟩⟩
      · refine ⟨by simp [hlen], by rw [List.getElem?_set_ne (by decide)]; exact e0, ?_⟩
        rcases hS1 with h | h
        · refine .inl ?_
          have ne : a ≠ p := fun z => by
            rcases h with h | ⟨od, h⟩
            · rw [z, hp] at h; cases h
            · rw [z, hp] at h; cases h
          rcases h with h | ⟨od, h⟩
          · exact .inl (st.ext a _ (fun z => ne (Option.some.inj z).symm) (s3 a _ h))
          · exact .inr ⟨od, st.ext a _ (fun z => ne (Option.some.inj z).symm) (s3 a _ h)⟩
        · exact .inr h
    · have e : i = 3 := by omega
      subst e
      refine .inl ⟨Nat.le_refl _, ?_⟩
      refine ⟨fun _ => none, H1, fun _ => none, [.no, .no, .no, .no], [], _, [], ⟨fun b o e => (by cases e), ⟨fun b e => (by cases e), fun b o e => (by cases e), fun b e => (by cases e)⟩, by simp [hlen], fun j d h => ?_, fun j xs h => ?_, fun j j2 xs ys ne h1 h2 => ?_, fun b o e => (by cases e)⟩, .refl (fun b o e => (by cases e)) ⟨fun b e => (by cases e), fun b o e => (by cases e), fun b e => (by cases e)⟩, far, fun v F' H' st r => ?_⟩
      · match j, h with
        | 0, h => cases h
        | 1, h => cases h
        | 2, h => cases h
        | 3, h => cases h
        | j + 4, h => simp at h
      · match j, h with
        | 0, h => cases h
        | 1, h => cases h
        | 2, h => cases h
        | 3, h => cases h
        | j + 4, h => simp at h
      · match j, h1 with
        | 0, h => cases h
        | 1, h => cases h
        | 2, h => cases h
        | 3, h => cases h
        | j + 4, h => simp at h
      · cases r
        exact q H'
end
end K76

/-! ## DEval -/
set_option autoImplicit false
set_option linter.all false
set_option maxRecDepth 100000
/-! DEval: what the pure pieces come to. -/
namespace DL
open PySem

/-! ### comprehensions, loops -/
theorem lcGo_map {α : Type} {g : G} {tt te : E} {δ : Dlt} {emb : α → D} {γ : α → Dlt} {p : α → Bool} {f : α → D} : ∀ {xs : List α}, (∀ x ∈ xs, g (emb x) δ = some (γ x)) → (∀ x ∈ xs, tt (γ x) = pure (.bl (p x))) → (∀ x ∈ xs, p x = true → te (γ x) = pure (f x)) →
    lcGo g tt te δ (xs.map emb) = pure ((xs.filter p).map f)
  | [], _, _, _ => rfl
  | x :: xs, h1, h2, h3 => by
    have ih := lcGo_map (fun y hy => h1 y (List.mem_cons_of_mem _ hy)) (fun y hy => h2 y (List.mem_cons_of_mem _ hy)) (fun y hy => h3 y (List.mem_cons_of_mem _ hy))
    show (liftG (g (emb x) δ) >>= _) = _
    rw [h1 x List.mem_cons_self]
    show (tt (γ x) >>= _) = _
    rw [h2 x List.mem_cons_self, pure_bind]
    cases hp : p x with
    | true =>
      show (te (γ x) >>= _) = _
      rw [h3 x List.mem_cons_self hp, pure_bind, ih, pure_bind, List.filter_cons_of_pos hp]
      rfl
    | false =>
      show lcGo g tt te δ (xs.map emb) = _
      rw [ih, List.filter_cons_of_neg (by rw [hp]; simp)]
theorem eLc_map {α : Type} {vs : List Nat} {g : G} {src : Es} {tt te : E} {δ : Dlt} {emb : α → D} {γ : α → Dlt} {p : α → Bool} {f : α → D} {xs : List α} (hs : src δ = pure (xs.map emb)) (h1 : ∀ x ∈ xs, g (emb x) (wipeD δ vs) = some (γ x)) (h2 : ∀ x ∈ xs, tt (γ x) = pure (.bl (p x)))
    (h3 : ∀ x ∈ xs, p x = true → te (γ x) = pure (f x)) (hl : xs.length ≤ 1000000) : eLc vs g src tt te δ = pure (.lst ((xs.filter p).map f)) := by
  unfold eLc
  rw [hs, pure_bind, lcGo_map h1 h2 h3, pure_bind, if_pos]
  unfold lim
  have := List.length_filter_le p xs
  simp only [List.length_map]
  exact decide_eq_true (by omega)
/-- without a test -/
theorem eLc_all {α : Type} {vs : List Nat} {g : G} {src : Es} {te : E} {δ : Dlt} {emb : α → D} {γ : α → Dlt} {f : α → D} {xs : List α} (hs : src δ = pure (xs.map emb)) (h1 : ∀ x ∈ xs, g (emb x) (wipeD δ vs) = some (γ x))
    (h3 : ∀ x ∈ xs, te (γ x) = pure (f x)) (hl : xs.length ≤ 1000000) : eLc vs g src (eK (.bl true)) te δ = pure (.lst (xs.map f)) := by
  have h := eLc_map (tt := eK (.bl true)) (p := fun _ => true) hs h1 (fun _ _ => rfl) (fun x hx _ => h3 x hx) hl
  rw [List.filter_eq_self.mpr (fun _ _ => rfl)] at h
  exact h
theorem forGo_inv {α β : Type} {g : G} {s : S} {emb : α → D} {step : β → α → β} {I : β → Dlt → Prop} : ∀ {xs : List α} {b : β} {δ : Dlt}, I b δ → (∀ x ∈ xs, ∀ b δ, I b δ → ∃ δ1 δ2, g (emb x) δ = some δ1 ∧ s δ1 = pure (.nx δ2) ∧ I (step b x) δ2) →
    ∃ δ', forGo g s (xs.map emb) δ = pure (.nx δ') ∧ I (xs.foldl step b) δ'
  | [], _, _, h, _ => ⟨_, rfl, h⟩
  | x :: xs, b, δ, h, hs => by
    obtain ⟨δ1, δ2, h1, h2, h3⟩ := hs x List.mem_cons_self b δ h
    obtain ⟨δ', h4, h5⟩ := forGo_inv h3 (fun y hy => hs y (List.mem_cons_of_mem _ hy))
    refine ⟨δ', ?_, h5⟩
    show (liftG (g (emb x) δ) >>= _) = _
    rw [h1]
    show (s δ1 >>= _) = _
    rw [h2, pure_bind]
    exact h4
/-- by the part that is done -/
theorem forGo_pre {α : Type} {g : G} {s : S} {emb : α → D} {I : List α → Dlt → Prop} : ∀ {xs pre : List α} {δ : Dlt}, I pre δ → (∀ p x q δ, pre ++ xs = p ++ x :: q → I p δ → ∃ δ1 δ2, g (emb x) δ = some δ1 ∧ s δ1 = pure (.nx δ2) ∧ I (p ++ [x]) δ2) →
    ∃ δ', forGo g s (xs.map emb) δ = pure (.nx δ') ∧ I (pre ++ xs) δ'
  | [], pre, _, h, _ => ⟨_, rfl, by rw [List.append_nil]; exact h⟩
  | x :: xs, pre, δ, h, hs => by
    obtain ⟨δ1, δ2, h1, h2, h3⟩ := hs pre x xs δ rfl h
    have e : pre ++ x :: xs = pre ++ [x] ++ xs := by simp
    obtain ⟨δ', h4, h5⟩ := forGo_pre (pre := pre ++ [x]) h3 (fun p y q δ he => hs p y q δ (by rw [e]; exact he))
    refine ⟨δ', ?_, by rw [e]; exact h5⟩
    show (liftG (g (emb x) δ) >>= _) = _
    rw [h1]
    show (s δ1 >>= _) = _
    rw [h2, pure_bind]
    exact h4
theorem lc2_map {α β : Type} {g : G} {tt : E} {δ : Dlt} {in1 : Es} {emb : α → D} {γ : α → Dlt} {f : α → List D} : ∀ {xs : List α}, (∀ x ∈ xs, g (emb x) δ = some (γ x)) → (∀ x ∈ xs, tt (γ x) = pure (.bl true)) → (∀ x ∈ xs, in1 (γ x) = pure (f x)) →
    lc2Go g tt in1 δ (xs.map emb) = pure (xs.flatMap f)
  | [], _, _, _ => rfl
  | x :: xs, h1, h2, h3 => by
    have ih := lc2_map (β := β) (fun y hy => h1 y (List.mem_cons_of_mem _ hy)) (fun y hy => h2 y (List.mem_cons_of_mem _ hy)) (fun y hy => h3 y (List.mem_cons_of_mem _ hy))
    show (liftG (g (emb x) δ) >>= _) = _
    rw [h1 x List.mem_cons_self]
    show (tt (γ x) >>= _) = _
    rw [h2 x List.mem_cons_self, pure_bind]
    show (in1 (γ x) >>= _) = _
    rw [h3 x List.mem_cons_self, pure_bind, ih, pure_bind, List.flatMap_cons]

theorem fn_rt {n p : Nat} {s : S} {ds : List D} {d : D} (hl : ds.length = p) (h : s (startD n ds) = pure (.rt d)) : fn n p s ds = pure d := by
  unfold fn
  rw [if_pos hl, h, pure_bind]
theorem fn_nx {n p : Nat} {s : S} {ds : List D} {δ : Dlt} (hl : ds.length = p) (h : s (startD n ds) = pure (.nx δ)) : fn n p s ds = pure .non := by
  unfold fn
  rw [if_pos hl, h, pure_bind]
theorem seq_nx {a b : S} {δ δ' : Dlt} (h : a δ = pure (.nx δ')) : sSeq a b δ = b δ' := by
  unfold sSeq
  rw [h, pure_bind]
theorem seq_rt {a b : S} {δ : Dlt} {d : D} (h : a δ = pure (.rt d)) : sSeq a b δ = pure (.rt d) := by
  unfold sSeq
  rw [h, pure_bind]
theorem for_nx {g : G} {src : Es} {s : S} {δ δ' : Dlt} {xs : List D} (h : src δ = pure xs) (h2 : forGo g s xs δ = pure (.nx δ')) : sFor g src s δ = pure (.nx δ') := by
  unfold sFor
  rw [h, pure_bind, h2]
theorem asg_nx {g : G} {e : E} {δ δ' : Dlt} {d : D} (h : e δ = pure d) (h2 : g d δ = some δ') : sAsg g e δ = pure (.nx δ') := by
  unfold sAsg
  rw [h, pure_bind]
  unfold liftG
  rw [h2]
  rfl
theorem ret_rt {e : E} {δ : Dlt} {d : D} (h : e δ = pure d) : sRet e δ = pure (.rt d) := by
  unfold sRet
  rw [h, pure_bind]
theorem do_nx {e : E} {δ : Dlt} {d : D} (h : e δ = pure d) : sDo e δ = pure (.nx δ) := by
  unfold sDo
  rw [h, pure_bind]
theorem if_t {c : E} {a b : S} {δ : Dlt} (h : c δ = pure (.bl true)) : sIf c a b δ = a δ := by
  unfold sIf
  rw [h, pure_bind]
theorem if_f {c : E} {a b : S} {δ : Dlt} (h : c δ = pure (.bl false)) : sIf c a b δ = b δ := by
  unfold sIf
  rw [h, pure_bind]
theorem or_t {a b : E} {δ : Dlt} (h : a δ = pure (.bl true)) : eOr a b δ = pure (.bl true) := by
  unfold eOr
  rw [h, pure_bind]
theorem or_f {a b : E} {δ : Dlt} (h : a δ = pure (.bl false)) : eOr a b δ = b δ := by
  unfold eOr
  rw [h, pure_bind]
theorem and_t {a b : E} {δ : Dlt} (h : a δ = pure (.bl true)) : eAnd a b δ = b δ := by
  unfold eAnd
  rw [h, pure_bind]
theorem and_f {a b : E} {δ : Dlt} (h : a δ = pure (.bl false)) : eAnd a b δ = pure (.bl false) := by
  unfold eAnd
  rw [h, pure_bind]
theorem ife_t {c a b : E} {δ : Dlt} (h : c δ = pure (.bl true)) : eIf c a b δ = a δ := by
  unfold eIf
  rw [h, pure_bind]
theorem ife_f {c a b : E} {δ : Dlt} (h : c δ = pure (.bl false)) : eIf c a b δ = b δ := by
  unfold eIf
  rw [h, pure_bind]
theorem f_eq {h : D → M D} {a : E} {δ : Dlt} {x d : D} (h1 : a δ = pure x) (h2 : h x = pure d) : eF h a δ = pure d := by
  unfold eF
  rw [h1, pure_bind, h2]
theorem o_eq {h : D → D → M D} {a b : E} {δ : Dlt} {x y d : D} (h1 : a δ = pure x) (h2 : b δ = pure y) (h3 : h x y = pure d) : eO h a b δ = pure d := by
  unfold eO
  rw [h1, pure_bind, h2, pure_bind, h3]
theorem es_nil {δ : Dlt} : esN δ = pure [] := rfl
theorem es_cons {a : E} {r : Es} {δ : Dlt} {x : D} {xs : List D} (h1 : a δ = pure x) (h2 : r δ = pure xs) : esC a r δ = pure (x :: xs) := by
  unfold esC
  rw [h1, pure_bind, h2, pure_bind]
theorem lst_eq {es : Es} {δ : Dlt} {xs : List D} (h : es δ = pure xs) (hl : xs.length ≤ 1000000) : eLst es δ = pure (.lst xs) := by
  unfold eLst
  rw [h, pure_bind, if_pos (show lim xs.length = true from decide_eq_true (by omega))]
theorem tup_eq {es : Es} {δ : Dlt} {xs : List D} (h : es δ = pure xs) (hl : xs.length ≤ 1000000) : eTup es δ = pure (.tup xs) := by
  unfold eTup
  rw [h, pure_bind, if_pos (show lim xs.length = true from decide_eq_true (by omega))]
theorem call_eq {f : List D → M D} {es : Es} {δ : Dlt} {xs : List D} {d : D} (h : es δ = pure xs) (h2 : f xs = pure d) : eCall f es δ = pure d := by
  unfold eCall
  rw [h, pure_bind, h2]
theorem xL_eq {a : E} {δ : Dlt} {xs : List D} (h : a δ = pure (.lst xs)) : xL a δ = pure xs := by
  unfold xL
  rw [h, pure_bind]
  rfl
theorem mod_eq {i j : Int} (h : 0 < j) : dMod (.int i) (.int j) = pure (.int (i % j)) := if_pos h
theorem xE_eq {a : E} {δ : Dlt} {xs : List D} (h : a δ = pure (.lst xs)) : xE a δ = pure (numFrom 0 xs) := by
  unfold xE
  rw [h, pure_bind]
theorem cat_eq {xs ys : List D} (h : xs.length + ys.length ≤ 1000000) : dAdd (.lst xs) (.lst ys) = pure (.lst (xs ++ ys)) := if_pos (show lim _ = true from decide_eq_true (by omega))

/-! ### ints, lists of ints, lists of these -/
def codeD (c : List Int) : D := .lst (c.map .int)
def codesD (cs : List (List Int)) : D := .lst (cs.map codeD)
theorem lim_ok {n : Nat} (h : n ≤ 1000000) : lim n = true := decide_eq_true (by omega)
theorem bools_of : ∀ bs : List Bool, bools? (bs.map D.bl) = some bs
  | [] => rfl
  | b :: bs => by rw [List.map_cons, bools?, bools_of bs]; rfl
theorem ints_of : ∀ bs : List Int, ints? (bs.map D.int) = some bs
  | [] => rfl
  | b :: bs => by rw [List.map_cons, ints?, ints_of bs]; rfl
theorem all_bl (bs : List Bool) : dAll (.lst (bs.map D.bl)) = pure (.bl (bs.all id)) := by
  show (match bools? (bs.map D.bl) with | some bs => pure (D.bl (bs.all id)) | none => stuck) = _
  rw [bools_of]
theorem all_bls {α : Type} (xs : List α) (p : α → Bool) : dAll (.lst (xs.map fun x => D.bl (p x))) = pure (.bl (xs.all p)) := by
  have h := all_bl (xs.map p)
  rw [List.map_map, List.all_map] at h
  exact h
theorem imm_ints (c : List Int) : (c.map D.int).all D.imm = true := by
  rw [List.all_map]; exact List.all_eq_true.mpr fun _ _ => rfl
/-- small: == and order serve it -/
def smallI (i : Int) : Prop := i.natAbs.log2 < 1920
theorem small_of {i : Int} (h : i.natAbs < 1000000) : smallI i := by
  unfold smallI
  have := Nat.log2_le_self i.natAbs
  by_cases h0 : i.natAbs = 0
  · rw [h0]; decide
  · exact Nat.lt_of_lt_of_le ((Nat.log2_lt h0).mpr (Nat.lt_trans h (by decide : 1000000 < 2 ^ 20))) (by decide)
theorem cl_code {n : Nat} {c : List Int} (h : ∀ i ∈ c, smallI i) : (codeD c).cl (n + 1) = true := by
  show (c.map D.int).all (D.cl n) = true
  rw [List.all_map, List.all_eq_true]
  intro i hi
  have q := h i hi
  unfold smallI at q
  cases n <;> simpa [D.cl] using q
theorem cl_codes {n : Nat} {cs : List (List Int)} (h : ∀ c ∈ cs, ∀ i ∈ c, smallI i) : (codesD cs).cl (n + 2) = true := by
  show (cs.map codeD).all (D.cl (n + 1)) = true
  rw [List.all_map, List.all_eq_true]
  exact fun c hc => cl_code (h c hc)
theorem eqv_int (i j : Int) : PyData.eqv (D.int i).py (D.int j).py = decide (i = j) := by
  show (i == j) = _
  cases h : (i == j) <;> simp_all
theorem eqv_code : ∀ a b : List Int, PyData.eqvAll (pys (a.map .int)) (pys (b.map .int)) = decide (a = b)
  | [], [] => by simp [pys, PyData.eqvAll]
  | [], _ :: _ => by simp [pys, PyData.eqvAll]
  | _ :: _, [] => by simp [pys, PyData.eqvAll]
  | x :: a, y :: b => by
    have ih := eqv_code a b
    simp only [List.map_cons, pys, PyData.eqvAll, ih, eqv_int]
    by_cases h1 : x = y <;> by_cases h2 : a = b <;> simp [h1, h2]
theorem eqv_codes : ∀ a b : List (List Int), PyData.eqvAll (pys (a.map codeD)) (pys (b.map codeD)) = decide (a = b)
  | [], [] => by simp [pys, PyData.eqvAll]
  | [], _ :: _ => by simp [pys, PyData.eqvAll]
  | _ :: _, [] => by simp [pys, PyData.eqvAll]
  | x :: a, y :: b => by
    have ih := eqv_codes a b
    have e : PyData.eqv (codeD x).py (codeD y).py = decide (x = y) := by
      show PyData.eqv (.list _) (.list _) = _
      simp only [PyData.eqv]
      exact eqv_code x y
    simp only [List.map_cons, pys, PyData.eqvAll, ih, e]
    by_cases h1 : x = y <;> by_cases h2 : a = b <;> simp [h1, h2]
theorem eqB_code {a b : List Int} (ha : ∀ i ∈ a, smallI i) (hb : ∀ i ∈ b, smallI i) : dEqB (codeD a) (codeD b) = some (decide (a = b)) := by
  show (if (codeD a).cl 60 && (codeD b).cl 60 then _ else _) = _
  rw [cl_code (n := 59) ha, cl_code (n := 59) hb]
  show some (PyData.eqv (.list _) (.list _)) = _
  simp only [PyData.eqv]
  rw [eqv_code]
theorem eqB_codes {a b : List (List Int)} (ha : ∀ c ∈ a, ∀ i ∈ c, smallI i) (hb : ∀ c ∈ b, ∀ i ∈ c, smallI i) : dEqB (codesD a) (codesD b) = some (decide (a = b)) := by
  show (if (codesD a).cl 60 && (codesD b).cl 60 then _ else _) = _
  rw [cl_codes (n := 58) ha, cl_codes (n := 58) hb]
  show some (PyData.eqv (.list _) (.list _)) = _
  simp only [PyData.eqv]
  rw [eqv_codes]
theorem idx_int (i : Int) : ∀ c : List Int, idxOf? (.int i) (c.map .int) = c.findIdx? (fun j => decide (j = i))
  | [] => rfl
  | x :: c => by
    rw [List.map_cons, idxOf?, idx_int i c, List.findIdx?_cons, eqv_int]
theorem index_int {c : List Int} {i : Int} {j : Nat} (h : c.findIdx? (fun k => decide (k = i)) = some j) : dIndex (codeD c) (.int i) = pure (.int j) := by
  show (if (D.int i).imm && (c.map D.int).all D.imm then _ else _) = _
  rw [imm_ints]
  show (match idxOf? (.int i) (c.map .int) with | some j => _ | none => _) = _
  rw [idx_int, h]
theorem in_int {c : List Int} {i : Int} : dIn (.int i) (codeD c) = pure (.bl (decide (i ∈ c))) := by
  show liftB (inB (.int i) (c.map D.int)) = _
  unfold inB
  rw [imm_ints]
  show liftB (some ((c.map D.int).any fun y => PyData.eqv y.py (D.int i).py)) = _
  rw [List.any_map]
  show pure (D.bl _) = pure (D.bl _)
  congr 2
  induction c with
  | nil => rfl
  | cons x c ih =>
    rw [List.any_cons, ih]
    show (PyData.eqv (D.int x).py (D.int i).py || _) = _
    rw [eqv_int]
    by_cases h : x = i
    · simp [h]
    · have h' : i ≠ x := fun e => h e.symm
      by_cases h2 : i ∈ c <;> simp [h, h', h2]
end DL

/-! ## DEval2 -/
set_option autoImplicit false
set_option linter.all false
set_option maxRecDepth 100000
/-! DEval2: order, texts. -/
namespace DL
open PySem

/-! ### order -/
theorem leD_total (a b : D) : (leD a b || leD b a) = true := by
  unfold leD PySem.W.dataLt
  cases h1 : PyProof.Rows.lexLt PyProof.Rows.itemOrd (PySem.W.keyToks b.py) (PySem.W.keyToks a.py) with
  | false => rfl
  | true =>
    cases h2 : PyProof.Rows.lexLt PyProof.Rows.itemOrd (PySem.W.keyToks a.py) (PySem.W.keyToks b.py) with
    | false => rfl
    | true =>
      have := PyProof.Rows.lex_trans _ _ _ h1 h2
      rw [PyProof.Rows.lex_irrefl] at this
      cases this
theorem leD_trans (a b c : D) (h1 : leD a b = true) (h2 : leD b c = true) : leD a c = true := by
  unfold leD PySem.W.dataLt at *
  cases h : PyProof.Rows.lexLt PyProof.Rows.itemOrd (PySem.W.keyToks c.py) (PySem.W.keyToks a.py) with
  | false => rfl
  | true =>
    rcases PyProof.Rows.lex_negTrans _ (PySem.W.keyToks b.py) _ h with q | q
    · rw [q] at h2; cases h2
    · rw [q] at h1; cases h1
/-- the order of lists of ints -/
def ltC : List Int → List Int → Bool
  | [], [] => false
  | [], _ :: _ => true
  | _ :: _, [] => false
  | x :: a, y :: b => decide (x < y) || (!decide (y < x) && ltC a b)
theorem lt_toks : ∀ a b : List Int, PyProof.Rows.lexLt PyProof.Rows.itemOrd (PySem.W.keyToksAll (pys (a.map .int))) (PySem.W.keyToksAll (pys (b.map .int))) = ltC a b
  | [], [] => by simp only [List.map_nil, pys, PySem.W.keyToksAll]; exact PyProof.Rows.lex_irrefl _
  | [], y :: b => by
    simp only [List.map_nil, List.map_cons, pys, PySem.W.keyToksAll]
    rw [PyProof.Rows.lex_cons]
    rfl
  | x :: a, [] => by
    simp only [List.map_nil, List.map_cons, pys, PySem.W.keyToksAll]
    rw [PyProof.Rows.lex_cons]
    rfl
  | x :: a, y :: b => by
    have ih := lt_toks a b
    simp only [List.map_cons, pys, PySem.W.keyToksAll, D.py, PySem.W.keyToks, List.cons_append, List.nil_append]
    rw [PyProof.Rows.lex_self, PyProof.Rows.lex_cons, ih]
    rfl
theorem lt_code (a b : List Int) : PySem.W.dataLt (codeD a).py (codeD b).py = ltC a b := lt_toks a b
theorem lt_int (a b : Int) : PySem.W.dataLt (D.int a).py (D.int b).py = decide (a < b) := by
  show PyProof.Rows.lexLt PyProof.Rows.itemOrd [.inl a] [.inl b] = _
  rw [PyProof.Rows.lex_cons]
  show (decide (a < b) || (!decide (b < a) && false)) = _
  simp
theorem alike_code : ∀ a b : List Int, PySem.W.alikeAll (pys (a.map .int)) (pys (b.map .int)) = true
  | [], _ => by simp [pys, PySem.W.alikeAll]
  | _ :: _, [] => by simp [pys, PySem.W.alikeAll]
  | x :: a, y :: b => by
    simp only [List.map_cons, pys, PySem.W.alikeAll, alike_code a b, D.py, PySem.W.alike]
    rfl
def sortC (cs : List (List Int)) : List (List Int) := cs.mergeSort fun a b => !ltC b a
def sortI (c : List Int) : List Int := c.mergeSort fun a b => decide (a ≤ b)
theorem sorted_codes {cs : List (List Int)} (h : ∀ c ∈ cs, ∀ i ∈ c, smallI i) : dSorted (codesD cs) = pure (codesD (sortC cs)) := by
  show (if sortableB (cs.map codeD) then pure (D.lst ((cs.map codeD).mergeSort leD)) else stuck) = _
  have hs : sortableB (cs.map codeD) = true := by
    unfold sortableB
    rw [Bool.and_eq_true, Bool.and_eq_true, Bool.or_eq_true]
    refine ⟨⟨?_, ?_⟩, .inr ?_⟩
    · rw [List.all_map, List.all_eq_true]
      exact fun c hc => cl_code (n := 59) (h c hc)
    · rw [List.all_map, List.all_eq_true]
      intro a _
      show ((cs.map codeD).all _) = true
      rw [List.all_map, List.all_eq_true]
      exact fun b _ => alike_code a b
    · rw [List.all_map, List.all_eq_true]
      exact fun _ _ => rfl
  rw [if_pos hs]
  have e : (sortC cs).map codeD = (cs.map codeD).mergeSort leD := List.map_mergeSort fun a _ b _ => by
    show (!ltC b a) = !(PySem.W.dataLt (codeD b).py (codeD a).py)
    rw [lt_code]
  rw [← e]
  rfl
theorem sorted_ints {c : List Int} (h : ∀ i ∈ c, smallI i) : dSorted (codeD c) = pure (codeD (sortI c)) := by
  show (if sortableB (c.map .int) then pure (D.lst ((c.map .int).mergeSort leD)) else stuck) = _
  have hs : sortableB (c.map D.int) = true := by
    unfold sortableB
    rw [Bool.and_eq_true, Bool.and_eq_true, Bool.or_eq_true]
    refine ⟨⟨?_, ?_⟩, .inr ?_⟩
    · rw [List.all_map, List.all_eq_true]
      intro i hi
      have q := h i hi
      unfold smallI at q
      simpa [D.cl] using q
    · rw [List.all_map, List.all_eq_true]
      intro a _
      show ((c.map D.int).all _) = true
      rw [List.all_map, List.all_eq_true]
      exact fun b _ => rfl
    · rw [List.all_map, List.all_eq_true]
      exact fun _ _ => rfl
  rw [if_pos hs]
  have e : (sortI c).map D.int = (c.map D.int).mergeSort leD := List.map_mergeSort fun a _ b _ => by
    show decide (a ≤ b) = !(PySem.W.dataLt (D.int b).py (D.int a).py)
    rw [lt_int]
    by_cases q : a ≤ b
    · have : ¬ b < a := by omega
      simp [q, this]
    · have : b < a := by omega
      simp [q, this]
  rw [← e]
  rfl
theorem ltC_irrefl : ∀ a : List Int, ltC a a = false
  | [] => rfl
  | x :: a => by simp [ltC, ltC_irrefl a]
theorem ltC_anti : ∀ a b : List Int, (!ltC b a) = true → (!ltC a b) = true → a = b
  | [], [], _, _ => rfl
  | [], _ :: _, _, h => by simp [ltC] at h
  | _ :: _, [], h, _ => by simp [ltC] at h
  | x :: a, y :: b, h1, h2 => by
    simp only [ltC, Bool.not_eq_true', Bool.or_eq_false_iff, decide_eq_false_iff_not, Bool.and_eq_false_iff, Bool.not_eq_false', decide_eq_true_eq] at h1 h2
    have e : x = y := by omega
    subst e
    have q1 : ltC b a = false := by rcases h1.2 with q | q; omega; exact q
    have q2 : ltC a b = false := by rcases h2.2 with q | q; omega; exact q
    rw [ltC_anti a b (by rw [q1]; rfl) (by rw [q2]; rfl)]
theorem sortC_perm (cs : List (List Int)) : (sortC cs).Perm cs := List.mergeSort_perm _ _
theorem sortI_perm (c : List Int) : (sortI c).Perm c := List.mergeSort_perm _ _
/-- what is ordered and of the same things is what sorted tells -/
theorem sortC_eq {cs ds : List (List Int)} (p : cs.Perm ds) (s : ds.Pairwise fun a b => (!ltC b a) = true) : sortC cs = ds := by
  refine List.Perm.eq_of_pairwise (le := fun a b => (!ltC b a) = true) (fun a b _ _ h1 h2 => ltC_anti a b h1 h2) ?_ s ((sortC_perm cs).trans p)
  refine List.pairwise_mergeSort (fun a b c h1 h2 => ?_) (fun a b => ?_) cs
  · have := leD_trans (codeD a) (codeD b) (codeD c) (by unfold leD; rw [lt_code]; exact h1) (by unfold leD; rw [lt_code]; exact h2)
    unfold leD at this
    rw [lt_code] at this
    exact this
  · have := leD_total (codeD a) (codeD b)
    unfold leD at this
    rw [lt_code, lt_code] at this
    exact this
theorem sortI_sorted (c : List Int) : (sortI c).Pairwise fun a b => a ≤ b := by
  have := List.pairwise_mergeSort (le := fun a b : Int => decide (a ≤ b)) (fun a b c h1 h2 => by simp at *; omega) (fun a b => by simp; omega) c
  exact this.imp fun h => by simpa using h

/-! ### texts -/
theorem textLen : ∀ (ts : List Str) (k : Nat) (acc : Str), (textFrom (k + 1) acc ts).length = acc.length + (ts.map fun t => t.length + 2).sum
  | [], k, acc => by show acc.length = _; simp
  | t :: r, k, acc => by
    show (textFrom (k + 1 + 1) (acc ++ (if k + 1 > 0 then ", " else "" : String) ++ t) r).length = _
    rw [textLen r (k + 1), strLen_append, strLen_append, if_pos (Nat.succ_pos k)]
    have e2 : ((", " : String) : Str).length = 2 := rfl
    rw [e2]
    simp only [List.map_cons, List.sum_cons]
    omega
theorem listLen (t : Str) (r : List Str) : (listText (t :: r)).length = 2 + t.length + (r.map fun t => t.length + 2).sum := by
  unfold listText
  rw [strLen_append]
  show (textFrom 1 (("[" : String) ++ (if 0 > 0 then ", " else "" : String) ++ t) r).length + (("]" : String) : Str).length = _
  rw [textLen r 0, strLen_append, strLen_append]
  have e1 : (("[" : String) : Str).length = 1 := rfl
  have e2 : (("]" : String) : Str).length = 1 := rfl
  have e3 : (((if 0 > 0 then ", " else "" : String)) : Str).length = 0 := rfl
  rw [e1, e2, e3]
  omega
theorem digit_len {i : Int} (h0 : 0 ≤ i) (h1 : i < 10) : (D.int i).py.shown.length = 1 := by
  have h : i = 0 ∨ i = 1 ∨ i = 2 ∨ i = 3 ∨ i = 4 ∨ i = 5 ∨ i = 6 ∨ i = 7 ∨ i = 8 ∨ i = 9 := by omega
  rcases h with h | h | h | h | h | h | h | h | h | h <;> (subst h; decide +kernel)
end DL

/-! ## M1K76 -/
set_option autoImplicit false
set_option linter.all false
set_option maxRecDepth 100000
set_option maxHeartbeats 2000000
namespace K76
open PySem DL
/-! ### the mathematics -/
def allC (W : List (List Int)) : List (List Int) := W.foldl (fun cs fs => cs.flatMap fun c => fs.map fun f => c ++ [f]) [[]]
def szC : List (List Int) → Nat
  | [] => 1
  | fs :: W => fs.length * szC W
theorem szC_app : ∀ (a b : List (List Int)), szC (a ++ b) = szC a * szC b
  | [], b => by simp [szC]
  | x :: a, b => by simp [szC, szC_app a b, Nat.mul_assoc]
theorem allC_snoc (W : List (List Int)) (fs : List Int) : allC (W ++ [fs]) = (allC W).flatMap fun c => fs.map fun f => c ++ [f] := by
  unfold allC
  rw [List.foldl_append]
  rfl
theorem snoc_ind {P : List (List Int) → Prop} (h0 : P []) (h1 : ∀ W fs, P W → P (W ++ [fs])) (W : List (List Int)) : P W := by
  have : ∀ V : List (List Int), P V.reverse := fun V => by
    induction V with
    | nil => exact h0
    | cons x V ih => rw [List.reverse_cons]; exact h1 _ _ ih
  rw [← List.reverse_reverse W]
  exact this _
theorem flat_len (cs : List (List Int)) (fs : List Int) : (cs.flatMap fun c => fs.map fun f => c ++ [f]).length = cs.length * fs.length := by
  induction cs with
  | nil => simp
  | cons c cs ih => rw [List.flatMap_cons, List.length_append, ih, List.length_map, List.length_cons, Nat.add_mul]; omega
theorem allC_len (W : List (List Int)) : (allC W).length = szC W := by
  induction W using snoc_ind with
  | h0 => rfl
  | h1 W fs ih => rw [allC_snoc, flat_len, ih, szC_app]; simp [szC]
/-- wheels as the law draws them -/
structure Wh (W : List (List Int)) : Prop where
  ne : W ≠ []
  fs : ∀ c ∈ W, c ≠ [] ∧ (∀ x ∈ c, 0 ≤ x ∧ x < 10) ∧ c.Pairwise (· < ·)
  few : W.length ≤ 4
  sz : szC W ≤ 40
theorem szC_pos : ∀ {W : List (List Int)}, (∀ c ∈ W, c ≠ []) → 1 ≤ szC W
  | [], _ => by simp [szC]
  | c :: W, h => by
    have h1 : 1 ≤ c.length := by
      have := h c List.mem_cons_self
      cases c with
      | nil => exact absurd rfl this
      | cons _ _ => simp
    have h2 := szC_pos (W := W) fun d hd => h d (List.mem_cons_of_mem _ hd)
    show 1 ≤ c.length * szC W
    exact Nat.mul_pos h1 h2
theorem Wh.pre {W p q : List (List Int)} (h : Wh W) (e : W = p ++ q) : szC p ≤ 40 := by
  have h1 := h.sz
  rw [e, szC_app] at h1
  have h2 : 1 ≤ szC q := szC_pos fun c hc => (h.fs c (by rw [e]; exact List.mem_append_right _ hc)).1
  exact Nat.le_trans (Nat.le_mul_of_pos_right _ h2) h1
theorem digit_small {x : Int} (h : 0 ≤ x ∧ x < 10) : smallI x := small_of (by omega)
theorem Wh.len {W : List (List Int)} (h : Wh W) {c : List Int} (hc : c ∈ W) : c.length ≤ 40 := by
  obtain ⟨p, q, e⟩ := List.append_of_mem hc
  have := h.pre (p := p ++ [c]) (q := q) (by simp [e])
  rw [szC_app] at this
  have h2 : 1 ≤ szC p := szC_pos fun d hd => (h.fs d (by rw [e]; exact List.mem_append_left _ hd)).1
  simp only [szC, Nat.mul_one] at this
  exact Nat.le_trans (Nat.le_mul_of_pos_left _ h2) this
theorem allC_in : ∀ (W : List (List Int)), ∀ c ∈ allC W, c.length = W.length ∧ ∀ x ∈ c, ∃ fs ∈ W, x ∈ fs := by
  intro W
  induction W using snoc_ind with
  | h0 => intro c hc; have : c = [] := by simpa [allC] using hc
          subst this; simp
  | h1 W fs ih =>
    intro c hc
    rw [allC_snoc, List.mem_flatMap] at hc
    obtain ⟨d, hd, hc⟩ := hc
    rw [List.mem_map] at hc
    obtain ⟨f, hf, rfl⟩ := hc
    obtain ⟨h1, h2⟩ := ih d hd
    refine ⟨by simp [h1], fun x hx => ?_⟩
    rw [List.mem_append] at hx
    rcases hx with hx | hx
    · obtain ⟨g, hg, hxg⟩ := h2 x hx
      exact ⟨g, List.mem_append_left _ hg, hxg⟩
    · have : x = f := by simpa using hx
      subst this
      exact ⟨fs, by simp, hf⟩
theorem Wh.digits {W : List (List Int)} (h : Wh W) {c : List Int} (hc : c ∈ allC W) : ∀ x ∈ c, 0 ≤ x ∧ x < 10 := fun x hx => by
  obtain ⟨fs, h1, h2⟩ := (allC_in W c hc).2 x hx
  exact (h.fs fs h1).2.1 x h2
theorem Wh.small {W : List (List Int)} (h : Wh W) : ∀ c ∈ W, ∀ i ∈ c, smallI i := fun c hc i hi => digit_small ((h.fs c hc).2.1 i hi)
/-! ### the checks -/
theorem is_count_int (i : Int) : f_is_count [.int i] = pure (.bl (decide (0 ≤ i))) := by
  simp [f_is_count, f_is_whole, fn, startD, sRet, eAnd, eF, eO, eV, eW, eK, eCall, esC, esN, dIsI, D.ty, isTy, dNot, dGe]
theorem is_count_bl (b : Bool) : f_is_count [.bl b] = pure (.bl false) := by
  simp [f_is_count, f_is_whole, fn, startD, sRet, eAnd, eF, eO, eV, eW, eK, eCall, esC, esN, dIsI, D.ty, isTy, dNot, dGe]
theorem eLc_in {α : Type} (xs : List α) (emb : α → D) {δ : Dlt} {i : Nat} (h : eW i δ = pure (.lst (xs.map emb))) : xL (eW i) δ = pure (xs.map emb) := by
  unfold xL
  rw [h, pure_bind]
  rfl
theorem all_codes_eq {W : List (List Int)} (h : Wh W) : f_all_codes [codesD W] = pure (codesD (allC W)) := by
  have loop := forGo_pre (g := gN 2) (s := sAsg (gN 1) (eLc2 [3, 4] [4] (gN 3) (xL (eW 1)) (eK (.bl true)) (gN 4) (xL (eW 2)) (eK (.bl true)) (eO dAdd (eV 3) (eLst (esC (eW 4) (esN)))))) (emb := codeD)
    (I := fun p δ => ∃ a2 a3 a4, δ = [.val (codesD W), .val (codesD (allC p)), a2, a3, a4]) (xs := W) (pre := []) (δ := [.val (codesD W), .val (codesD [[]]), .no, .no, .no]) ⟨.no, .no, .no, rfl⟩ (fun p x q δ e hI => by
      obtain ⟨a2, a3, a4, rfl⟩ := hI
      have hp : szC (p ++ [x]) ≤ 40 := h.pre (q := q) (by rw [List.nil_append] at e; simp [e])
      refine ⟨[.val (codesD W), .val (codesD (allC p)), .val (codeD x), a3, a4], [.val (codesD W), .val (codesD (allC (p ++ [x]))), .val (codeD x), a3, a4], rfl, ?_, _, _, _, rfl⟩
      have l1 := allC_len (p ++ [x])
      have inn : ∀ c ∈ allC p, lcGo (gN 4) (eK (.bl true)) (eO dAdd (eV 3) (eLst (esC (eW 4) esN))) [.val (codesD W), .val (codesD (allC p)), .val (codeD x), .val (codeD c), .no] (x.map .int) = pure (x.map fun f => codeD (c ++ [f])) := fun c hc => by
        have q := lcGo_map (g := gN 4) (tt := eK (.bl true)) (te := eO dAdd (eV 3) (eLst (esC (eW 4) esN))) (δ := [.val (codesD W), .val (codesD (allC p)), .val (codeD x), .val (codeD c), .no]) (emb := D.int) (γ := fun f => [.val (codesD W), .val (codesD (allC p)), .val (codeD x), .val (codeD c), .val (.int f)])
          (p := fun _ => true) (f := fun f => codeD (c ++ [f])) (xs := x) (fun f _ => rfl) (fun f _ => rfl) (fun f _ _ => by
            have hl : (c.map D.int).length ≤ 999999 := by
              rw [List.length_map, (allC_in p c hc).1]
              have := h.few
              rw [List.nil_append] at e
              rw [e] at this
              simp at this
              omega
            simp only [fn, startD, sSeq, sAsg, sRet, sIf, sDo, sFor, sSkip, sPar, eK, eV, eW, eF, eO, esN, esC, eLst, eTup, eCall, eCallI, eAnd, eOr, eIf, eNo, eAt, eCut, gN, liftG, xL, xT, xR, xR2, xE, xZ, xZs, xZ3, pure_bind, List.length_cons, List.length_nil, List.replicate, List.map_cons, List.map_nil, List.cons_append, List.nil_append, List.getElem?_cons_zero, List.getElem?_cons_succ, List.set_cons_zero, List.set_cons_succ, Nat.reduceAdd, Nat.reduceSub, ↓reduceIte, wipeD]
            unfold codeD
            simp only [dAdd, lim_ok (show 1 ≤ 1000000 by decide), ↓reduceIte, pure_bind]
            rw [if_pos (lim_ok (by simp only [List.length_cons, List.length_nil]; omega))]
            simp)
        rw [List.filter_eq_self.mpr (fun _ _ => rfl)] at q
        exact q
      have outer := lc2_map (g := gN 3) (tt := eK (.bl true)) (δ := wipeD [.val (codesD W), .val (codesD (allC p)), .val (codeD x), a3, a4] [3, 4]) (in1 := fun δ' => xL (eW 2) δ' >>= fun zs => lcGo (gN 4) (eK (.bl true)) (eO dAdd (eV 3) (eLst (esC (eW 4) esN))) (wipeD δ' [4]) zs) (emb := codeD)
        (γ := fun c => [.val (codesD W), .val (codesD (allC p)), .val (codeD x), .val (codeD c), .no]) (f := fun c => x.map fun f => codeD (c ++ [f])) (β := D) (xs := allC p) (fun c _ => rfl) (fun c _ => rfl) (fun c hc => by
          show (xL (eW 2) _ >>= _) = _
          rw [eLc_in x D.int (i := 2) rfl, pure_bind]
          exact inn c hc)
      have ee : (allC p).flatMap (fun c => x.map fun f => codeD (c ++ [f])) = (allC (p ++ [x])).map codeD := by
        rw [allC_snoc, List.map_flatMap]
        congr 1
        funext c
        rw [List.map_map]
        rfl
      show (eLc2 _ _ _ _ _ _ _ _ _ _ >>= _) = _
      unfold eLc2
      rw [eLc_in (allC p) codeD (i := 1) rfl, pure_bind, outer, pure_bind, ee, if_pos (lim_ok (by rw [List.length_map, l1]; omega)), pure_bind]
      rfl)
  obtain ⟨δ', h1, a2, a3, a4, h2⟩ := loop
  refine fn_rt rfl ?_
  have s0 : sAsg (gN 1) (eLst (esC (eLst esN) esN)) (startD 5 [codesD W]) = pure (.nx [.val (codesD W), .val (codesD [[]]), .no, .no, .no]) :=
    asg_nx (lst_eq (es_cons (lst_eq es_nil (by simp)) es_nil) (by simp)) rfl
  rw [seq_nx s0, seq_nx (for_nx (eLc_in W codeD (i := 0) rfl) h1), h2]
  rfl
end K76

/-! ## M2K76 -/
set_option autoImplicit false
set_option linter.all false
set_option maxRecDepth 100000
set_option maxHeartbeats 2000000
namespace K76
open PySem DL
def ext (cs : List (List Int)) (fs : List Int) : List (List Int) := cs.flatMap fun c => fs.map fun f => c ++ [f]
theorem ext_snoc (cs : List (List Int)) (c : List Int) (fs : List Int) : ext (cs ++ [c]) fs = ext cs fs ++ fs.map fun f => c ++ [f] := by
  unfold ext
  rw [List.flatMap_append]
  simp
theorem ext_len (cs : List (List Int)) (fs : List Int) : (ext cs fs).length = cs.length * fs.length := flat_len cs fs
theorem mul_mono {a b c : Nat} (h : a ≤ b) (h2 : b * c ≤ 40) : a * c ≤ 40 := Nat.le_trans (Nat.mul_le_mul_right c h) h2
/-- [code + [figure] for figure in ..] -/
theorem ext_row {k : Nat} {src : Es} {A : E} {δ : Dlt} {c fs : List Int} {γ : Int → Dlt} (hs : src δ = pure (fs.map .int)) (hg : ∀ f ∈ fs, gN k (.int f) (wipeD δ [k]) = some (γ f)) (hA : ∀ f ∈ fs, A (γ f) = pure (codeD c)) (hW : ∀ f ∈ fs, eW k (γ f) = pure (.int f)) (hc : c.length ≤ 1000) (hf : fs.length ≤ 1000) :
    eLc [k] (gN k) src (eK (.bl true)) (eO dAdd A (eLst (esC (eW k) esN))) δ = pure (codesD (fs.map fun f => c ++ [f])) := by
  have h := eLc_all (vs := [k]) (g := gN k) (te := eO dAdd A (eLst (esC (eW k) esN))) (δ := δ) (emb := D.int) (γ := γ) (f := fun f => codeD (c ++ [f])) hs hg (fun f hf => by
    refine o_eq (hA f hf) (lst_eq (es_cons (hW f hf) es_nil) (by simp)) ?_
    unfold codeD
    rw [cat_eq (by simp; omega)]
    simp) (by omega)
  rw [h]
  unfold codesD
  rw [List.map_map]
  rfl
theorem law_codes_eq {W : List (List Int)} (h : Wh W) : f_law_codes [codesD W] = pure (codesD (allC W)) := by
  have inner : ∀ (p : List (List Int)) (x : List Int) (q : List (List Int)) (a4 a5 : Sl), W = p ++ x :: q → ∃ b4 b5, forGo (gN 4) (sAsg (gN 3) (eO dAdd (eV 3) (eLc [5] (gN 5) (xL (eW 2)) (eK (.bl true)) (eO dAdd (eV 4) (eLst (esC (eW 5) (esN))))))) ((allC p).map codeD)
      [.val (codesD W), .val (codesD (allC p)), .val (codeD x), .val (codesD []), a4, a5] = pure (.nx [.val (codesD W), .val (codesD (allC p)), .val (codeD x), .val (codesD (ext (allC p) x)), b4, b5]) := fun p x q a4 a5 e => by
    have hp : szC (p ++ [x]) ≤ 40 := h.pre (q := q) (by simp [e])
    have hx : x.length ≤ 1000 := Nat.le_trans (h.len (c := x) (by simp [e])) (by decide)
    have hpl : p.length ≤ 4 := by
      have := h.few
      rw [e] at this
      simp at this
      omega
    obtain ⟨δ', h1, b4, b5, h2⟩ := forGo_pre (g := gN 4) (s := sAsg (gN 3) (eO dAdd (eV 3) (eLc [5] (gN 5) (xL (eW 2)) (eK (.bl true)) (eO dAdd (eV 4) (eLst (esC (eW 5) (esN))))))) (emb := codeD)
      (I := fun r δ => ∃ b4 b5, δ = [.val (codesD W), .val (codesD (allC p)), .val (codeD x), .val (codesD (ext r x)), b4, b5]) (xs := allC p) (pre := []) (δ := [.val (codesD W), .val (codesD (allC p)), .val (codeD x), .val (codesD []), a4, a5]) ⟨a4, a5, rfl⟩ (fun r c t δ e2 hI => by
        obtain ⟨b4, b5, rfl⟩ := hI
        rw [List.nil_append] at e2
        have hc : c ∈ allC p := by rw [e2]; simp
        have lr : (r ++ [c]).length * x.length ≤ 40 := by
          rw [szC_app] at hp
          simp only [szC, Nat.mul_one] at hp
          rw [← allC_len p] at hp
          exact mul_mono (by rw [e2]; simp) hp
        refine ⟨[.val (codesD W), .val (codesD (allC p)), .val (codeD x), .val (codesD (ext r x)), .val (codeD c), b5], [.val (codesD W), .val (codesD (allC p)), .val (codeD x), .val (codesD (ext (r ++ [c]) x)), .val (codeD c), b5], rfl, ?_, _, _, rfl⟩
        refine asg_nx (d := codesD (ext (r ++ [c]) x)) (o_eq (x := codesD (ext r x)) rfl (ext_row (c := c) (fs := x) (γ := fun f => [.val (codesD W), .val (codesD (allC p)), .val (codeD x), .val (codesD (ext r x)), .val (codeD c), .val (.int f)]) rfl (fun f _ => rfl) (fun f _ => rfl) (fun f _ => rfl) (by rw [(allC_in p c hc).1]; omega) hx) ?_) rfl
        have le := ext_len (r ++ [c]) x
        rw [ext_snoc] at le ⊢
        simp only [List.length_append, List.length_map] at le
        unfold codesD
        rw [cat_eq (by simp only [List.length_map]; simp only [List.length_append] at lr; omega)]
        simp)
    exact ⟨b4, b5, by rw [h1, h2]; rfl⟩
  have loop := forGo_pre (g := gN 2) (s := sSeq (sAsg (gN 3) (eLst (esN))) (sSeq (sFor (gN 4) (xL (eW 1)) (sAsg (gN 3) (eO dAdd (eV 3) (eLc [5] (gN 5) (xL (eW 2)) (eK (.bl true)) (eO dAdd (eV 4) (eLst (esC (eW 5) (esN)))))))) (sAsg (gN 1) (eW 3)))) (emb := codeD)
    (I := fun p δ => ∃ a2 a3 a4 a5, δ = [.val (codesD W), .val (codesD (allC p)), a2, a3, a4, a5]) (xs := W) (pre := []) (δ := [.val (codesD W), .val (codesD [[]]), .no, .no, .no, .no]) ⟨.no, .no, .no, .no, rfl⟩ (fun p x q δ e hI => by
      obtain ⟨a2, a3, a4, a5, rfl⟩ := hI
      rw [List.nil_append] at e
      obtain ⟨b4, b5, hin⟩ := inner p x q a4 a5 e
      refine ⟨[.val (codesD W), .val (codesD (allC p)), .val (codeD x), a3, a4, a5], [.val (codesD W), .val (codesD (allC (p ++ [x]))), .val (codeD x), .val (codesD (ext (allC p) x)), b4, b5], rfl, ?_, _, _, _, _, rfl⟩
      have s1 : sAsg (gN 3) (eLst esN) [.val (codesD W), .val (codesD (allC p)), .val (codeD x), a3, a4, a5] = pure (.nx [.val (codesD W), .val (codesD (allC p)), .val (codeD x), .val (codesD []), a4, a5]) := asg_nx (lst_eq es_nil (by simp)) rfl
      rw [seq_nx s1, seq_nx (for_nx (eLc_in (allC p) codeD (i := 1) rfl) hin)]
      exact asg_nx (d := codesD (ext (allC p) x)) rfl (by rw [allC_snoc]; rfl))
  obtain ⟨δ', h1, a2, a3, a4, a5, h2⟩ := loop
  refine fn_rt rfl ?_
  have s0 : sAsg (gN 1) (eLst (esC (eLst esN) esN)) (startD 6 [codesD W]) = pure (.nx [.val (codesD W), .val (codesD [[]]), .no, .no, .no, .no]) :=
    asg_nx (lst_eq (es_cons (lst_eq es_nil (by simp)) es_nil) (by simp)) rfl
  rw [seq_nx s0, seq_nx (for_nx (eLc_in W codeD (i := 0) rfl) h1), h2]
  rfl
/-! ### the row -/
def rowExt (cs : List (List Int)) (fs : List Int) : List (List Int) := cs.zipIdx.flatMap fun p => (if p.2 % 2 = 0 then fs else fs.reverse).map fun f => p.1 ++ [f]
def turnR (W : List (List Int)) : List (List Int) := W.foldl rowExt [[]]
theorem turnR_snoc (W : List (List Int)) (fs : List Int) : turnR (W ++ [fs]) = rowExt (turnR W) fs := by
  unfold turnR
  rw [List.foldl_append]
  rfl
theorem numFrom_map {α : Type} (f : α → D) : ∀ (xs : List α) (n : Nat), numFrom n (xs.map f) = (xs.zipIdx n).map fun p => .tup [.int p.2, f p.1]
  | [], _ => rfl
  | x :: xs, n => by
    rw [List.map_cons, numFrom, numFrom_map f xs (n + 1), List.zipIdx_cons]
    rfl
def extZ (cs : List (List Int × Nat)) (fs : List Int) : List (List Int) := cs.flatMap fun p => (if p.2 % 2 = 0 then fs else fs.reverse).map fun f => p.1 ++ [f]
theorem extZ_snoc (cs : List (List Int × Nat)) (c : List Int × Nat) (fs : List Int) : extZ (cs ++ [c]) fs = extZ cs fs ++ (if c.2 % 2 = 0 then fs else fs.reverse).map fun f => c.1 ++ [f] := by
  unfold extZ
  rw [List.flatMap_append]
  simp
theorem extZ_len (cs : List (List Int × Nat)) (fs : List Int) : (extZ cs fs).length = cs.length * fs.length := by
  induction cs with
  | nil => simp [extZ]
  | cons c cs ih =>
    have e : extZ (c :: cs) fs = (if c.2 % 2 = 0 then fs else fs.reverse).map (fun f => c.1 ++ [f]) ++ extZ cs fs := rfl
    rw [e, List.length_append, ih, List.length_map, List.length_cons, Nat.add_mul]
    split <;> simp <;> omega
theorem rowExt_len (cs : List (List Int)) (fs : List Int) : (rowExt cs fs).length = cs.length * fs.length := by
  have := extZ_len cs.zipIdx fs
  rw [List.length_zipIdx] at this
  exact this
theorem turnR_len (W : List (List Int)) : (turnR W).length = szC W := by
  induction W using snoc_ind with
  | h0 => rfl
  | h1 W fs ih => rw [turnR_snoc, rowExt_len, ih, szC_app]; simp [szC]
theorem turnR_clen (W : List (List Int)) : ∀ c ∈ turnR W, c.length = W.length := by
  induction W using snoc_ind with
  | h0 => intro c hc; have : c = [] := by simpa [turnR] using hc
          subst this; rfl
  | h1 W fs ih =>
    intro c hc
    rw [turnR_snoc] at hc
    unfold rowExt at hc
    rw [List.mem_flatMap] at hc
    obtain ⟨d, hd, hc⟩ := hc
    rw [List.mem_map] at hc
    obtain ⟨f, hf, rfl⟩ := hc
    have := ih d.1 (List.fst_mem_of_mem_zipIdx hd)
    simp [this]
theorem turn_row_eq {W : List (List Int)} (h : Wh W) {w : D} {em : List Int → D} (hrow : rowOf w = pure (W.map em)) (hem : ∀ c : List Int, rowOf (em c) = pure (c.map .int)) (hub : ∀ c : List Int, dUnB (em c) = pure (codeD c)) (hck : f_check_wheels [unB w] = pure .non) : f_turn_row [w] = pure (codesD (turnR W)) := by
  have inner : ∀ (p : List (List Int)) (x : List Int) (q : List (List Int)) (a4 a5 a6 : Sl), W = p ++ x :: q → ∃ b4 b5 b6, forGo (gT [gN 4, gN 5]) (sAsg (gN 3) (eO dAdd (eF dUnB (eW 3)) (eLc [6] (gN 6) (xL (eIf (eO dEq (eO dMod (eF dUnB (eW 4)) (eK (.int 2))) (eK (.int 0))) (eW 2) (eF dRev (eF dUnB (eW 2))))) (eK (.bl true)) (eO dAdd (eF dUnB (eW 5)) (eLst (esC (eW 6) (esN)))))))
      ((turnR p).zipIdx.map fun c => .tup [.int c.2, codeD c.1]) [.val w, .val (codesD (turnR p)), .val (em x), .val (codesD []), a4, a5, a6] = pure (.nx [.val w, .val (codesD (turnR p)), .val (em x), .val (codesD (rowExt (turnR p) x)), b4, b5, b6]) := fun p x q a4 a5 a6 e => by
    have hp : szC (p ++ [x]) ≤ 40 := h.pre (q := q) (by simp [e])
    have hx : x.length ≤ 1000 := Nat.le_trans (h.len (c := x) (by simp [e])) (by decide)
    have hpl : p.length ≤ 4 := by
      have := h.few
      rw [e] at this
      simp at this
      omega
    obtain ⟨δ', h1, b4, b5, b6, h2⟩ := forGo_pre (g := gT [gN 4, gN 5]) (s := sAsg (gN 3) (eO dAdd (eF dUnB (eW 3)) (eLc [6] (gN 6) (xL (eIf (eO dEq (eO dMod (eF dUnB (eW 4)) (eK (.int 2))) (eK (.int 0))) (eW 2) (eF dRev (eF dUnB (eW 2))))) (eK (.bl true)) (eO dAdd (eF dUnB (eW 5)) (eLst (esC (eW 6) (esN))))))) (emb := fun c : List Int × Nat => .tup [.int c.2, codeD c.1])
      (I := fun r δ => ∃ b4 b5 b6, δ = [.val w, .val (codesD (turnR p)), .val (em x), .val (codesD (extZ r x)), b4, b5, b6]) (xs := (turnR p).zipIdx) (pre := []) (δ := [.val w, .val (codesD (turnR p)), .val (em x), .val (codesD []), a4, a5, a6]) ⟨a4, a5, a6, rfl⟩ (fun r c t δ e2 hI => by
        obtain ⟨b4, b5, b6, rfl⟩ := hI
        rw [List.nil_append] at e2
        have hc : c ∈ (turnR p).zipIdx := by rw [e2]; simp
        have hc1 : c.1 ∈ turnR p := List.fst_mem_of_mem_zipIdx hc
        have lr : (r ++ [c]).length * x.length ≤ 40 := by
          rw [szC_app] at hp
          simp only [szC, Nat.mul_one] at hp
          rw [← turnR_len p, ← List.length_zipIdx (l := turnR p) (i := 0)] at hp
          exact mul_mono (by rw [e2]; simp) hp
        refine ⟨[.val w, .val (codesD (turnR p)), .val (em x), .val (codesD (extZ r x)), .val (.int c.2), .val (codeD c.1), b6], [.val w, .val (codesD (turnR p)), .val (em x), .val (codesD (extZ (r ++ [c]) x)), .val (.int c.2), .val (codeD c.1), b6], rfl, ?_, _, _, _, rfl⟩
        have par : eO dEq (eO dMod (eF dUnB (eW 4)) (eK (.int 2))) (eK (.int 0)) [.val w, .val (codesD (turnR p)), .val (em x), .val (codesD (extZ r x)), .val (.int c.2), .val (codeD c.1), b6] = pure (.bl (decide (c.2 % 2 = 0))) := by
          refine o_eq (x := .int ((c.2 : Int) % 2)) (o_eq (x := .int c.2) (f_eq rfl rfl) rfl ?_) rfl ?_
          · exact mod_eq (by decide)
          · show pure (D.bl (decide ((c.2 : Int) % 2 = 0))) = _
            by_cases z : c.2 % 2 = 0
            · rw [decide_eq_true z, decide_eq_true (show (c.2 : Int) % 2 = 0 by omega)]
            · rw [decide_eq_false z, decide_eq_false (show ¬ (c.2 : Int) % 2 = 0 by omega)]
        have src : xL (eIf (eO dEq (eO dMod (eF dUnB (eW 4)) (eK (.int 2))) (eK (.int 0))) (eW 2) (eF dRev (eF dUnB (eW 2)))) [.val w, .val (codesD (turnR p)), .val (em x), .val (codesD (extZ r x)), .val (.int c.2), .val (codeD c.1), b6] = pure ((if c.2 % 2 = 0 then x else x.reverse).map .int) := by
          unfold xL
          by_cases z : c.2 % 2 = 0
          · rw [decide_eq_true z] at par
            rw [ife_t par, if_pos z]
            show (pure (em x) >>= rowOf) = _
            rw [pure_bind, hem]
          · rw [decide_eq_false z] at par
            rw [ife_f par, if_neg z, f_eq (x := codeD x) (d := codeD x.reverse) (f_eq rfl (hub x)) (by unfold codeD; rw [List.map_reverse]; rfl), pure_bind]
            rfl
        refine asg_nx (d := codesD (extZ (r ++ [c]) x)) (o_eq (x := codesD (extZ r x)) (f_eq rfl rfl) (ext_row (c := c.1) (fs := if c.2 % 2 = 0 then x else x.reverse) (γ := fun f => [.val w, .val (codesD (turnR p)), .val (em x), .val (codesD (extZ r x)), .val (.int c.2), .val (codeD c.1), .val (.int f)]) src (fun f _ => rfl) (fun f _ => f_eq rfl rfl) (fun f _ => rfl) (by rw [turnR_clen p c.1 hc1]; omega) (by split <;> first | omega | (simp; omega))) ?_) rfl
        have le := extZ_len (r ++ [c]) x
        rw [extZ_snoc] at le ⊢
        simp only [List.length_append, List.length_map] at le
        unfold codesD
        rw [cat_eq (by simp only [List.length_map]; simp only [List.length_append] at lr; omega)]
        simp)
    exact ⟨b4, b5, b6, by rw [h1, h2]; rfl⟩
  have loop := forGo_pre (g := gN 2) (s := sSeq (sAsg (gN 3) (eLst (esN))) (sSeq (sFor (gT [gN 4, gN 5]) (xE (eW 1)) (sAsg (gN 3) (eO dAdd (eF dUnB (eW 3)) (eLc [6] (gN 6) (xL (eIf (eO dEq (eO dMod (eF dUnB (eW 4)) (eK (.int 2))) (eK (.int 0))) (eW 2) (eF dRev (eF dUnB (eW 2))))) (eK (.bl true)) (eO dAdd (eF dUnB (eW 5)) (eLst (esC (eW 6) (esN)))))))) (sAsg (gN 1) (eW 3)))) (emb := em)
    (I := fun p δ => ∃ a2 a3 a4 a5 a6, δ = [.val w, .val (codesD (turnR p)), a2, a3, a4, a5, a6]) (xs := W) (pre := []) (δ := [.val w, .val (codesD [[]]), .no, .no, .no, .no, .no]) ⟨.no, .no, .no, .no, .no, rfl⟩ (fun p x q δ e hI => by
      obtain ⟨a2, a3, a4, a5, a6, rfl⟩ := hI
      rw [List.nil_append] at e
      obtain ⟨b4, b5, b6, hin⟩ := inner p x q a4 a5 a6 e
      refine ⟨[.val w, .val (codesD (turnR p)), .val (em x), a3, a4, a5, a6], [.val w, .val (codesD (turnR (p ++ [x]))), .val (em x), .val (codesD (rowExt (turnR p) x)), b4, b5, b6], rfl, ?_, _, _, _, _, _, rfl⟩
      have s1 : sAsg (gN 3) (eLst esN) [.val w, .val (codesD (turnR p)), .val (em x), a3, a4, a5, a6] = pure (.nx [.val w, .val (codesD (turnR p)), .val (em x), .val (codesD []), a4, a5, a6]) := asg_nx (lst_eq es_nil (by simp)) rfl
      have sE : xE (eW 1) [.val w, .val (codesD (turnR p)), .val (em x), .val (codesD []), a4, a5, a6] = pure ((turnR p).zipIdx.map fun c => .tup [.int c.2, codeD c.1]) := by
        rw [xE_eq (xs := (turnR p).map codeD) rfl, numFrom_map]
      rw [seq_nx s1, seq_nx (for_nx sE hin)]
      exact asg_nx (d := codesD (rowExt (turnR p) x)) rfl (by rw [turnR_snoc]; rfl))
  obtain ⟨δ', h1, a2, a3, a4, a5, a6, h2⟩ := loop
  refine fn_rt rfl ?_
  have sc : sDo (eCallI f_check_wheels (esC (eW 0) esN)) (startD 7 [w]) = pure (.nx (startD 7 [w])) := do_nx (d := .non) (by
    show (f_check_wheels [unB w] >>= _) = _
    rw [hck]
    rfl)
  have s0 : sAsg (gN 1) (eLst (esC (eLst esN) esN)) (startD 7 [w]) = pure (.nx [.val w, .val (codesD [[]]), .no, .no, .no, .no, .no]) :=
    asg_nx (lst_eq (es_cons (lst_eq es_nil (by simp)) es_nil) (by simp)) rfl
  have sW : xL (eW 0) [.val w, .val (codesD [[]]), .no, .no, .no, .no, .no] = pure (W.map em) := by
    unfold xL
    show (pure w >>= rowOf) = _
    rw [pure_bind, hrow]
  rw [seq_nx sc, seq_nx s0, seq_nx (for_nx sW h1), h2]
  rfl
end K76

/-! ## M3K76 -/
set_option autoImplicit false
set_option linter.all false
set_option maxRecDepth 100000
set_option maxHeartbeats 2000000
namespace K76
open PySem DL
theorem place_nat {n i : Nat} (h : i < n) : place n (i : Int) = some i := by
  unfold place
  rw [if_pos (by omega), if_pos (by omega)]
  simp
theorem ix_lst {xs : List D} {i : Nat} {d : D} (h : xs[i]? = some d) : dIx (.lst xs) (.int i) = pure d := by
  obtain ⟨hi, _⟩ := List.getElem?_eq_some_iff.mp h
  show (match (place xs.length i).bind fun j => xs[j]? with | some v => pure v | none => stuck) = _
  rw [place_nat hi]
  show (match xs[i]? with | some v => pure v | none => stuck) = _
  rw [h]
theorem ix_code {c : List Int} {i : Nat} (h : i < c.length) : dIx (codeD c) (.int i) = pure (.int c[i]) := ix_lst (by rw [List.getElem?_map, List.getElem?_eq_getElem h]; rfl)
theorem ix_codes {c : List (List Int)} {i : Nat} (h : i < c.length) : dIx (codesD c) (.int i) = pure (codeD c[i]) := ix_lst (by rw [List.getElem?_map, List.getElem?_eq_getElem h]; rfl)
theorem eq_code {a b : List Int} (ha : ∀ i ∈ a, smallI i) (hb : ∀ i ∈ b, smallI i) : dEq (codeD a) (codeD b) = pure (.bl (decide (a = b))) := by
  unfold dEq
  rw [eqB_code ha hb]
  rfl
theorem ne_code {a b : List Int} (ha : ∀ i ∈ a, smallI i) (hb : ∀ i ∈ b, smallI i) : dNe (codeD a) (codeD b) = pure (.bl (!decide (a = b))) := by
  unfold dNe
  rw [eqB_code ha hb]
  rfl
theorem ne_codes {a b : List (List Int)} (ha : ∀ c ∈ a, ∀ i ∈ c, smallI i) (hb : ∀ c ∈ b, ∀ i ∈ c, smallI i) : dNe (codesD a) (codesD b) = pure (.bl (!decide (a = b))) := by
  unfold dNe
  rw [eqB_codes ha hb]
  rfl
theorem eq_codes {a b : List (List Int)} (ha : ∀ c ∈ a, ∀ i ∈ c, smallI i) (hb : ∀ c ∈ b, ∀ i ∈ c, smallI i) : dEq (codesD a) (codesD b) = pure (.bl (decide (a = b))) := by
  unfold dEq
  rw [eqB_codes ha hb]
  rfl
theorem range1 {n : Nat} (h : n < 1000000) {e : E} {δ : Dlt} (he : e δ = pure (.int n)) : xR2 (eK (.int 1)) e δ = pure ((List.range (n - 1)).map fun k => .int ((1 + k : Nat) : Int)) := by
  unfold xR2
  show (pure (D.int 1) >>= _) = _
  rw [pure_bind, he, pure_bind]
  show (if -1000000 < (1 : Int) ∧ (1 : Int) < 1000000 ∧ -1000000 < (n : Int) ∧ (n : Int) < 1000000 then pure ((List.range ((n : Int) - 1).toNat).map fun k => D.int (1 + (k : Nat))) else stuck) = _
  rw [if_pos ⟨by decide, by decide, by omega, by omega⟩, show ((n : Int) - 1).toNat = n - 1 by omega]
  congr 1
theorem len_lst (xs : List D) : dLen (.lst xs) = pure (.int xs.length) := rfl
theorem ascends_eq {c : List Int} (h : c.Pairwise (· < ·)) (hl : c.length ≤ 1000) : f_ascends [codeD c] = pure (.bl true) := by
  refine fn_rt rfl (ret_rt ?_)
  have q := eLc_map (vs := [1]) (g := gN 1) (src := xR2 (eK (.int 1)) (eF dLen (eV 0))) (tt := eO dGe (eO dIx (eV 0) (eO dSub (eV 1) (eK (.int 1)))) (eO dIx (eV 0) (eV 1))) (te := eW 1) (δ := startD 2 [codeD c]) (emb := fun k : Nat => D.int ((1 + k : Nat) : Int))
    (γ := fun k => [.val (codeD c), .val (.int ((1 + k : Nat) : Int))]) (p := fun _ => false) (f := fun k => D.int ((1 + k : Nat) : Int)) (xs := List.range (c.length - 1)) (range1 (by omega) (f_eq rfl (by unfold codeD; rw [len_lst, List.length_map]))) (fun k _ => rfl) (fun k hk => by
      rw [List.mem_range] at hk
      have i0 : k < c.length := by omega
      have i1 : 1 + k < c.length := by omega
      have e0 : (1 + k : Nat) - (1 : Int) = (k : Nat) := by omega
      refine o_eq (x := .int c[k]) (y := .int c[1 + k]) (o_eq (x := codeD c) (y := .int k) rfl (o_eq (x := .int ((1 + k : Nat) : Int)) (y := .int 1) rfl rfl (by show pure (D.int _) = _; rw [e0])) (ix_code i0)) (o_eq rfl rfl (ix_code i1)) ?_
      have lt : c[k] < c[1 + k] := List.pairwise_iff_getElem.mp h k (1 + k) i0 i1 (by omega)
      show pure (D.bl (decide (c[1 + k] ≤ c[k]))) = _
      rw [decide_eq_false (by omega)]) (fun k _ e => by cases e) (by rw [List.length_range]; omega)
  rw [List.filter_eq_nil_iff.mpr (by simp)] at q
  exact o_eq (x := .lst []) (y := .lst []) q (lst_eq es_nil (by simp)) (eq_code (a := []) (b := []) (by simp) (by simp))
theorem are_figures_eq {c : List Int} (h1 : c ≠ []) (h2 : ∀ x ∈ c, 0 ≤ x ∧ x < 10) (h3 : c.Pairwise (· < ·)) (hl : c.length ≤ 1000) : f_are_figures [codeD c] = pure (.bl true) := by
  refine fn_rt rfl ?_
  have sm : ∀ i ∈ c, smallI i := fun i hi => digit_small (h2 i hi)
  have q := eLc_all (vs := [1]) (g := gN 1) (src := xL (eW 0)) (te := eAnd (eCall f_is_count (esC (eW 1) (esN))) (eO dLt (eV 1) (eK (.int 10)))) (δ := startD 2 [codeD c]) (emb := D.int) (γ := fun x => [.val (codeD c), .val (.int x)]) (f := fun x => D.bl true) (xs := c) rfl (fun x _ => rfl) (fun x hx => by
      rw [and_t (call_eq (xs := [.int x]) rfl (by rw [is_count_int, decide_eq_true (h2 x hx).1]))]
      refine o_eq (x := .int x) (y := .int 10) rfl rfl ?_
      show pure (D.bl (decide (x < 10))) = _
      rw [decide_eq_true (h2 x hx).2]) (by omega)
  have qa : dAll (.lst (c.map fun _ => D.bl true)) = pure (.bl true) := by
    rw [all_bls c (fun _ => true), show (c.all fun _ => true) = true from List.all_eq_true.mpr fun _ _ => rfl]
  rw [seq_nx (δ' := startD 2 [codeD c])]
  · exact ret_rt (call_eq (xs := [codeD c]) rfl (ascends_eq h3 hl))
  · rw [if_f]
    · rfl
    · rw [or_f (f_eq (x := .bl true) (f_eq (x := codeD c) rfl rfl) rfl)]
      rw [or_f (o_eq (x := codeD c) (y := codeD []) rfl (lst_eq es_nil (by simp)) (by rw [eq_code sm (by simp), decide_eq_false h1]))]
      exact f_eq (x := .bl true) (f_eq q qa) rfl
theorem check_eq {W : List (List Int)} (h : Wh W) : f_check_wheels [codesD W] = pure .non := by
  have hw : f_are_wheels [codesD W] = pure (.bl true) := by
    refine fn_rt rfl (ret_rt ?_)
    have hl : W.length ≤ 1000 := Nat.le_trans h.few (by decide)
    have q := eLc_all (vs := [1]) (g := gN 1) (src := xL (eW 0)) (te := eCall f_are_figures (esC (eW 1) (esN))) (δ := startD 2 [codesD W]) (emb := codeD) (γ := fun x => [.val (codesD W), .val (codeD x)]) (f := fun x => D.bl true) (xs := W) rfl (fun x _ => rfl) (fun x hx => by
      obtain ⟨a, b, c⟩ := h.fs x hx
      exact call_eq (xs := [codeD x]) rfl (are_figures_eq a b c (Nat.le_trans (h.len hx) (by decide)))) (by omega)
    have qa : dAll (.lst (W.map fun _ => D.bl true)) = pure (.bl true) := by
      rw [all_bls W (fun _ => true), show (W.all fun _ => true) = true from List.all_eq_true.mpr fun _ _ => rfl]
    rw [and_t (f_eq (x := codesD W) rfl rfl)]
    rw [and_t (o_eq (x := codesD W) (y := codesD []) rfl (lst_eq es_nil (by simp)) (by rw [ne_codes h.small (by simp), decide_eq_false h.ne]; rfl))]
    exact f_eq q qa
  refine fn_nx (δ := startD 1 [codesD W]) rfl ?_
  rw [if_f (f_eq (x := .bl true) (call_eq (xs := [codesD W]) rfl hw) rfl)]
  rfl
end K76

/-! ## M4K76 -/
set_option autoImplicit false
set_option linter.all false
set_option maxRecDepth 100000
set_option maxHeartbeats 2000000
namespace K76
open PySem DL
/-! ### does a value fit -/
theorem fits_no {W : List (List Int)} {e : D} {t : String} (h : e.ty = some t) (h2 : isTy e "list" = false) : f_code_fits [codesD W, e] = pure (.bl false) := by
  refine fn_rt rfl (seq_rt ?_)
  rw [if_t]
  · exact ret_rt rfl
  · exact or_t (f_eq (x := .bl false) (f_eq (x := e) rfl (by unfold dIsI; rw [h, h2])) rfl)
theorem ne_int (i j : Int) : dNe (.int i) (.int j) = pure (.bl (!decide (i = j))) := rfl
theorem fits_len {W : List (List Int)} {xs : List D} (h : xs.length ≠ W.length) : f_code_fits [codesD W, .lst xs] = pure (.bl false) := by
  refine fn_rt rfl (seq_rt ?_)
  rw [if_t]
  · exact ret_rt rfl
  · rw [or_f (f_eq (x := .bl true) (f_eq (x := .lst xs) rfl rfl) rfl)]
    refine or_t (o_eq (x := .int xs.length) (y := .int W.length) (f_eq (x := .lst xs) rfl rfl) (f_eq (x := codesD W) rfl (by unfold codesD; rw [len_lst, List.length_map])) ?_)
    rw [ne_int, decide_eq_false (by omega)]
    rfl
theorem fits_bools {W : List (List Int)} {bs : List Bool} (h : bs ≠ []) (hl : bs.length ≤ 1000) : f_code_fits [codesD W, .lst (bs.map .bl)] = pure (.bl false) := by
  by_cases hn : (bs.map D.bl).length = W.length
  · refine fn_rt rfl (seq_rt ?_)
    rw [if_t]
    · exact ret_rt rfl
    · rw [or_f (f_eq (x := .bl true) (f_eq (x := .lst (bs.map .bl)) rfl rfl) rfl)]
      rw [or_f (o_eq (x := .int (bs.map D.bl).length) (y := .int W.length) (f_eq (x := .lst (bs.map .bl)) rfl rfl) (f_eq (x := codesD W) rfl (by unfold codesD; rw [len_lst, List.length_map])) (by rw [ne_int, decide_eq_true (by omega)]; rfl))]
      have q := eLc_all (vs := [2]) (g := gN 2) (src := xL (eW 1)) (te := eCall f_is_count (esC (eW 2) (esN))) (δ := startD 4 [codesD W, .lst (bs.map .bl)]) (emb := D.bl) (γ := fun x => [.val (codesD W), .val (.lst (bs.map .bl)), .val (.bl x), .no]) (f := fun x => D.bl false) (xs := bs) rfl (fun x _ => rfl) (fun x hx => call_eq (xs := [.bl x]) rfl (is_count_bl x)) (by omega)
      have qa : dAll (.lst (bs.map fun _ => D.bl false)) = pure (.bl false) := by
        rw [all_bls bs (fun _ => false)]
        cases bs with
        | nil => exact absurd rfl h
        | cons b bs => rfl
      exact f_eq (x := .bl false) (f_eq q qa) rfl
  · exact fits_len (xs := bs.map D.bl) hn
theorem zip2_map {α β : Type} (f : α → D) (g : β → D) : ∀ (xs : List α) (ys : List β), zip2 (xs.map f) (ys.map g) = (xs.zip ys).map fun p => .tup [f p.1, g p.2]
  | [], _ => rfl
  | _ :: _, [] => rfl
  | x :: xs, y :: ys => by
    show .tup [f x, g y] :: zip2 (xs.map f) (ys.map g) = _
    rw [zip2_map f g xs ys]
    rfl
theorem zip3_map {α β γ : Type} (f : α → D) (g : β → D) (h : γ → D) : ∀ (xs : List α) (ys : List β) (zs : List γ), zip3 (xs.map f) (ys.map g) (zs.map h) = (xs.zip (ys.zip zs)).map fun p => .tup [f p.1, g p.2.1, h p.2.2]
  | [], _, _ => rfl
  | _ :: _, [], _ => rfl
  | _ :: _, _ :: _, [] => rfl
  | x :: xs, y :: ys, z :: zs => by
    show .tup [f x, g y, h z] :: zip3 (xs.map f) (ys.map g) (zs.map h) = _
    rw [zip3_map f g h xs ys zs]
    rfl
theorem allC_zip (W : List (List Int)) : ∀ c ∈ allC W, ∀ p ∈ c.zip W, p.1 ∈ p.2 := by
  induction W using snoc_ind with
  | h0 => intro c hc; have : c = [] := by simpa [allC] using hc
          subst this; simp
  | h1 W fs ih =>
    intro c hc
    rw [allC_snoc, List.mem_flatMap] at hc
    obtain ⟨d, hd, hc⟩ := hc
    rw [List.mem_map] at hc
    obtain ⟨f, hf, rfl⟩ := hc
    intro p hp
    rw [List.zip_append (allC_in W d hd).1, List.mem_append] at hp
    rcases hp with hp | hp
    · exact ih d hd p hp
    · have : p = (f, fs) := by simpa using hp
      subst this
      exact hf
theorem fits_code {W : List (List Int)} (h : Wh W) {c : List Int} (hc : c ∈ allC W) : f_code_fits [codesD W, codeD c] = pure (.bl true) := by
  have hl := (allC_in W c hc).1
  have hfew := h.few
  refine fn_rt rfl ?_
  rw [seq_nx (δ' := startD 4 [codesD W, codeD c])]
  · have q := eLc_all (vs := [2, 3]) (g := gT [gN 2, gN 3]) (src := xZs (eW 1) (eW 0)) (te := eO dIn (eV 2) (eV 3)) (δ := startD 4 [codesD W, codeD c]) (emb := fun p : Int × List Int => .tup [.int p.1, codeD p.2]) (γ := fun p => [.val (codesD W), .val (codeD c), .val (.int p.1), .val (codeD p.2)]) (f := fun x => D.bl true) (xs := c.zip W) (by
      show (if (c.map D.int).length = (W.map codeD).length then pure (zip2 (c.map D.int) (W.map codeD)) else stuck) = _
      rw [if_pos (by simp [hl]), zip2_map]) (fun p _ => rfl) (fun p hp => o_eq (x := .int p.1) (y := codeD p.2) rfl rfl (by rw [in_int, decide_eq_true (allC_zip W c hc p hp)])) (by rw [List.length_zip]; omega)
    have qa : dAll (.lst ((c.zip W).map fun _ => D.bl true)) = pure (.bl true) := by
      rw [all_bls (c.zip W) (fun _ => true), show ((c.zip W).all fun _ => true) = true from List.all_eq_true.mpr fun _ _ => rfl]
    exact ret_rt (f_eq q qa)
  · rw [if_f]
    · rfl
    · rw [or_f (f_eq (x := .bl true) (f_eq (x := codeD c) rfl rfl) rfl)]
      rw [or_f (o_eq (x := .int c.length) (y := .int W.length) (f_eq (x := codeD c) rfl (by unfold codeD; rw [len_lst, List.length_map])) (f_eq (x := codesD W) rfl (by unfold codesD; rw [len_lst, List.length_map])) (by rw [ne_int, decide_eq_true (by omega)]; rfl))]
      have q := eLc_all (vs := [2]) (g := gN 2) (src := xL (eW 1)) (te := eCall f_is_count (esC (eW 2) (esN))) (δ := startD 4 [codesD W, codeD c]) (emb := D.int) (γ := fun x => [.val (codesD W), .val (codeD c), .val (.int x), .no]) (f := fun x => D.bl true) (xs := c) rfl (fun x _ => rfl) (fun x hx => call_eq (xs := [.int x]) rfl (by rw [is_count_int, decide_eq_true (h.digits hc x hx).1])) (by omega)
      have qa : dAll (.lst (c.map fun _ => D.bl true)) = pure (.bl true) := by
        rw [all_bls c (fun _ => true), show (c.all fun _ => true) = true from List.all_eq_true.mpr fun _ _ => rfl]
      exact f_eq (x := .bl true) (f_eq q qa) rfl
/-! ### one turn of one wheel -/
def pl (fs : List Int) (x : Int) : Nat := fs.findIdx fun y => decide (y = x)
theorem index_pl {fs : List Int} {x : Int} (h : x ∈ fs) : dIndex (codeD fs) (.int x) = pure (.int (pl fs x)) := by
  refine index_int ?_
  rw [List.findIdx?_eq_some_iff_findIdx_eq]
  exact ⟨List.findIdx_lt_length_of_exists ⟨x, h, by simp⟩, rfl⟩
def z3 (W : List (List Int)) (a b : List Int) : List (List Int × Int × Int) := W.zip (a.zip b)
def absI (i : Int) : Int := if i < 0 then -i else i
def moves (W : List (List Int)) (a b : List Int) : List Int := (z3 W a b).map fun p => absI ((pl p.1 p.2.1 : Int) - (pl p.1 p.2.2 : Int))
theorem moves_nn (W : List (List Int)) (a b : List Int) : ∀ i ∈ moves W a b, 0 ≤ i := fun i hi => by
  unfold moves at hi
  rw [List.mem_map] at hi
  obtain ⟨p, _, rfl⟩ := hi
  unfold absI
  split <;> omega
def adj (W : List (List Int)) (a b : List Int) : Bool := decide (((moves W a b).filter fun i => !decide (i = 0)) = [1])
theorem z3_in {W : List (List Int)} {a b : List Int} (ha : ∀ p ∈ a.zip W, p.1 ∈ p.2) (hb : ∀ p ∈ b.zip W, p.1 ∈ p.2) : ∀ p ∈ z3 W a b, p.1 ∈ W ∧ p.2.1 ∈ p.1 ∧ p.2.2 ∈ p.1 := by
  unfold z3
  induction W generalizing a b with
  | nil => intro p hp; simp at hp
  | cons w W ih =>
    intro p hp
    cases a with
    | nil => simp at hp
    | cons x a =>
      cases b with
      | nil => simp at hp
      | cons y b =>
        rw [List.zip_cons_cons, List.zip_cons_cons, List.mem_cons] at hp
        rcases hp with rfl | hp
        · exact ⟨List.mem_cons_self, ha (x, w) (by simp), hb (y, w) (by simp)⟩
        · obtain ⟨q1, q2, q3⟩ := ih (fun q hq => ha q (by rw [List.zip_cons_cons]; exact List.mem_cons_of_mem _ hq)) (fun q hq => hb q (by rw [List.zip_cons_cons]; exact List.mem_cons_of_mem _ hq)) p hp
          exact ⟨List.mem_cons_of_mem _ q1, q2, q3⟩
theorem z3_len (W : List (List Int)) (a b : List Int) : (z3 W a b).length ≤ W.length := by
  unfold z3
  rw [List.length_zip]
  omega
theorem pl_lt {fs : List Int} {x : Int} (h : x ∈ fs) : pl fs x < fs.length := List.findIdx_lt_length_of_exists ⟨x, h, by simp⟩
theorem is_turn_eq {W : List (List Int)} (h : Wh W) {a b : List Int} (ha : a ∈ allC W) (hb : b ∈ allC W) : f_is_turn [codesD W, codeD a, codeD b] = pure (.bl (adj W a b)) := by
  have hin := z3_in (allC_zip W a ha) (allC_zip W b hb)
  have hlen := z3_len W a b
  have hfew := h.few
  have hml : (moves W a b).length ≤ W.length := by unfold moves; rw [List.length_map]; exact hlen
  refine fn_rt rfl ?_
  have q1 := eLc_all (vs := [5, 6, 7]) (g := gT [gN 5, gN 6, gN 7]) (src := xZ3 (eW 0) (eW 1) (eW 2)) (te := eTup (esC (eO dIndex (eV 5) (eV 6)) (esC (eO dIndex (eV 5) (eV 7)) (esN)))) (δ := startD 9 [codesD W, codeD a, codeD b]) (emb := fun p : List Int × Int × Int => .tup [codeD p.1, .int p.2.1, .int p.2.2])
    (γ := fun p => [.val (codesD W), .val (codeD a), .val (codeD b), .no, .no, .val (codeD p.1), .val (.int p.2.1), .val (.int p.2.2), .no]) (f := fun p => .tup [.int (pl p.1 p.2.1), .int (pl p.1 p.2.2)]) (xs := z3 W a b) (by
      show (pure (zip3 (W.map codeD) (a.map D.int) (b.map D.int)) : M (List D)) = _
      rw [zip3_map]
      rfl) (fun p _ => rfl) (fun p hp => by
      obtain ⟨_, i1, i2⟩ := hin p hp
      exact tup_eq (es_cons (o_eq (x := codeD p.1) (y := .int p.2.1) rfl rfl (index_pl i1)) (es_cons (o_eq (x := codeD p.1) (y := .int p.2.2) rfl rfl (index_pl i2)) es_nil)) (by simp)) (by omega)
  have q2 := eLc_map (vs := [8, 7]) (g := gT [gN 8, gN 7]) (src := xL (eW 3)) (tt := eO dNe (eV 8) (eV 7)) (te := eF dAbs (eO dSub (eV 8) (eV 7))) (δ := [.val (codesD W), .val (codeD a), .val (codeD b), .val (.lst ((z3 W a b).map fun p => .tup [.int (pl p.1 p.2.1), .int (pl p.1 p.2.2)])), .no, .no, .no, .no, .no]) (emb := fun p : List Int × Int × Int => .tup [.int (pl p.1 p.2.1), .int (pl p.1 p.2.2)])
    (γ := fun p => [.val (codesD W), .val (codeD a), .val (codeD b), .val (.lst ((z3 W a b).map fun p => .tup [.int (pl p.1 p.2.1), .int (pl p.1 p.2.2)])), .no, .no, .no, .val (.int (pl p.1 p.2.2)), .val (.int (pl p.1 p.2.1))]) (p := fun p => !decide ((pl p.1 p.2.1 : Int) = (pl p.1 p.2.2 : Int)))
    (f := fun p => .int (absI ((pl p.1 p.2.1 : Int) - (pl p.1 p.2.2 : Int)))) (xs := z3 W a b) rfl (fun p _ => rfl) (fun p _ => o_eq rfl rfl (ne_int _ _)) (fun p _ _ => f_eq (o_eq rfl rfl rfl) rfl) (by omega)
  have e2 : ((z3 W a b).filter fun p => !decide ((pl p.1 p.2.1 : Int) = (pl p.1 p.2.2 : Int))).map (fun p => D.int (absI ((pl p.1 p.2.1 : Int) - (pl p.1 p.2.2 : Int)))) = ((moves W a b).filter fun i => !decide (i = 0)).map .int := by
    unfold moves
    rw [List.filter_map, List.map_map]
    congr 1
    refine List.filter_congr fun p _ => ?_
    show _ = !decide (absI _ = 0)
    congr 2
    unfold absI
    refine propext ⟨fun e => ?_, fun e => ?_⟩
    · split <;> omega
    · split at e <;> omega
  rw [e2] at q2
  have sm : ∀ i ∈ (moves W a b).filter fun i => !decide (i = 0), smallI i := fun i hi => by
    have hi := (List.mem_filter.mp hi).1
    unfold moves at hi
    rw [List.mem_map] at hi
    obtain ⟨p, hp, rfl⟩ := hi
    obtain ⟨i0, i1, i2⟩ := hin p hp
    have l1 := pl_lt i1
    have l2 := pl_lt i2
    have l3 := h.len i0
    refine small_of ?_
    unfold absI
    split <;> omega
  rw [seq_nx (asg_nx (δ' := [.val (codesD W), .val (codeD a), .val (codeD b), .val (.lst ((z3 W a b).map fun p => .tup [.int (pl p.1 p.2.1), .int (pl p.1 p.2.2)])), .no, .no, .no, .no, .no]) q1 rfl), seq_nx (asg_nx (δ' := [.val (codesD W), .val (codeD a), .val (codeD b), .val (.lst ((z3 W a b).map fun p => .tup [.int (pl p.1 p.2.1), .int (pl p.1 p.2.2)])), .val (codeD ((moves W a b).filter fun i => !decide (i = 0))), .no, .no, .no, .no]) q2 rfl)]
  exact ret_rt (o_eq (x := codeD _) (y := codeD [1]) rfl (lst_eq (es_cons rfl es_nil) (by simp)) (eq_code sm (by intro i hi; simp at hi; subst hi; exact small_of (by decide))))
end K76

/-! ## M5K76 -/
set_option autoImplicit false
set_option linter.all false
set_option maxRecDepth 100000
set_option maxHeartbeats 2000000
namespace K76
open PySem DL
/-! ### the law's own turn -/
theorem top2 : ∀ (s : List Int), s.Pairwise (fun a b => b ≤ a) → (∀ i ∈ s, 0 ≤ i) → ((s.take 2 = [1] ∨ s.take 2 = [1, 0]) ↔ (s.filter fun i => !decide (i = 0)) = [1])
  | [], _, _ => by simp
  | [x], _, _ => by
    by_cases h : x = 0
    · subst h; simp
    · simp [h]
  | x :: y :: r, p, n => by
    have hxy : y ≤ x := (List.pairwise_cons.mp p).1 y List.mem_cons_self
    have hy : ∀ z ∈ r, z ≤ y := (List.pairwise_cons.mp (List.pairwise_cons.mp p).2).1
    have ny : 0 ≤ y := n y (by simp)
    have zero : y = 0 → (r.filter fun i => !decide (i = 0)) = [] := fun e => List.filter_eq_nil_iff.mpr fun z hz => by
      have h1 := hy z hz
      have h2 := n z (by simp [hz])
      simp
      omega
    constructor
    · intro h
      have h : x = 1 ∧ y = 0 := by simpa using h
      obtain ⟨rfl, rfl⟩ := h
      simp [zero rfl]
    · intro h
      by_cases hx : x = 0
      · have hy0 : y = 0 := by omega
        subst hx hy0
        simp [zero rfl] at h
      · rw [List.filter_cons_of_pos (by simp [hx])] at h
        have h := List.cons.inj h
        by_cases hy0 : y = 0
        · subst hy0
          right
          simp [h.1]
        · rw [List.filter_cons_of_pos (by simp [hy0])] at h
          exact absurd h.2 (by simp)
theorem adj_top (W : List (List Int)) (a b : List Int) : (decide ((sortI (moves W a b)).reverse.take 2 = [1]) || decide ((sortI (moves W a b)).reverse.take 2 = [1, 0])) = adj W a b := by
  have hp : ((sortI (moves W a b)).reverse).Perm (moves W a b) := (List.reverse_perm _).trans (sortI_perm _)
  have h := top2 (sortI (moves W a b)).reverse (by rw [List.pairwise_reverse]; exact sortI_sorted _) (fun i hi => moves_nn W a b i (hp.mem_iff.mp hi))
  have hf := hp.filter fun i => !decide (i = 0)
  have e : ((sortI (moves W a b)).reverse.filter fun i => !decide (i = 0)) = [1] ↔ ((moves W a b).filter fun i => !decide (i = 0)) = [1] := ⟨fun q => by
    rw [q] at hf
    exact List.perm_singleton.mp hf.symm, fun q => by
    rw [q] at hf
    exact List.perm_singleton.mp hf⟩
  unfold adj
  rw [← Bool.decide_or]
  exact decide_eq_decide.mpr (h.trans e)
theorem moves_small {W : List (List Int)} (h : Wh W) {a b : List Int} (ha : a ∈ allC W) (hb : b ∈ allC W) : ∀ i ∈ moves W a b, smallI i := fun i hi => by
  have hin := z3_in (allC_zip W a ha) (allC_zip W b hb)
  unfold moves at hi
  rw [List.mem_map] at hi
  obtain ⟨p, hp, rfl⟩ := hi
  obtain ⟨i0, i1, i2⟩ := hin p hp
  have l1 := pl_lt i1
  have l2 := pl_lt i2
  have l3 := h.len i0
  refine small_of ?_
  unfold absI
  split <;> omega
theorem cut2 {α : Type} (xs : List α) : cut xs none (some 2) = xs.take 2 := by
  unfold cut cutEnd
  simp only [List.drop_zero, Nat.sub_zero]
  rw [if_neg (by decide)]
  show xs.take (min 2 xs.length) = _
  cases xs with
  | nil => rfl
  | cons x xs =>
    cases xs with
    | nil => rfl
    | cons y xs =>
      congr 1
theorem in_two {t : List Int} (ht : ∀ i ∈ t, smallI i) : dIn (codeD t) (.lst [codeD [1], codeD [1, 0]]) = pure (.bl (decide (t = [1]) || decide (t = [1, 0]))) := by
  have s1 : ∀ i ∈ ([1] : List Int), smallI i := by intro i hi; simp at hi; subst hi; exact small_of (by decide)
  have s2 : ∀ i ∈ ([1, 0] : List Int), smallI i := by
    intro i hi
    simp at hi
    rcases hi with rfl | rfl <;> exact small_of (by decide)
  have e : inB (codeD t) [codeD [1], codeD [1, 0]] = some (decide (t = [1]) || decide (t = [1, 0])) := by
    show (if (codeD t).cl 60 && [codeD [1], codeD [1, 0]].all (D.cl 59) then some ([codeD [1], codeD [1, 0]].any fun y => PyData.eqv y.py (codeD t).py) else none) = _
    rw [if_pos]
    · simp only [List.any_cons, List.any_nil, Bool.or_false]
      have e1 : PyData.eqv (codeD [1]).py (codeD t).py = decide (([1] : List Int) = t) := by
        show PyData.eqv (.list _) (.list _) = _
        simp only [PyData.eqv]
        exact eqv_code [1] t
      have e2 : PyData.eqv (codeD [1, 0]).py (codeD t).py = decide (([1, 0] : List Int) = t) := by
        show PyData.eqv (.list _) (.list _) = _
        simp only [PyData.eqv]
        exact eqv_code [1, 0] t
      rw [e1, e2]
      congr 2
      · exact decide_eq_decide.mpr eq_comm
      · exact decide_eq_decide.mpr eq_comm
    · rw [Bool.and_eq_true]
      refine ⟨cl_code (n := 59) ht, ?_⟩
      simp only [List.all_cons, List.all_nil, Bool.and_true, Bool.and_eq_true]
      exact ⟨cl_code (n := 58) s1, cl_code (n := 58) s2⟩
  show liftB (inB (codeD t) [codeD [1], codeD [1, 0]]) = _
  rw [e]
  rfl
theorem law_turned_eq {W : List (List Int)} (h : Wh W) {a b : List Int} (ha : a ∈ allC W) (hb : b ∈ allC W) : f_law_turned [codesD W, codeD a, codeD b] = pure (.bl (adj W a b)) := by
  have hin := z3_in (allC_zip W a ha) (allC_zip W b hb)
  have hlen := z3_len W a b
  have hfew := h.few
  have sm := moves_small h ha hb
  have q1 := eLc_all (vs := [4, 5, 6]) (g := gT [gN 4, gN 5, gN 6]) (src := xZ3 (eW 0) (eW 1) (eW 2)) (te := eF dAbs (eO dSub (eO dIndex (eV 4) (eV 5)) (eO dIndex (eV 4) (eV 6)))) (δ := startD 7 [codesD W, codeD a, codeD b]) (emb := fun p : List Int × Int × Int => .tup [codeD p.1, .int p.2.1, .int p.2.2])
    (γ := fun p => [.val (codesD W), .val (codeD a), .val (codeD b), .no, .val (codeD p.1), .val (.int p.2.1), .val (.int p.2.2)]) (f := fun p => .int (absI ((pl p.1 p.2.1 : Int) - (pl p.1 p.2.2 : Int)))) (xs := z3 W a b) (by
      show (pure (zip3 (W.map codeD) (a.map D.int) (b.map D.int)) : M (List D)) = _
      rw [zip3_map]
      rfl) (fun p _ => rfl) (fun p hp => by
      obtain ⟨_, i1, i2⟩ := hin p hp
      exact f_eq (o_eq (o_eq (x := codeD p.1) (y := .int p.2.1) rfl rfl (index_pl i1)) (o_eq (x := codeD p.1) (y := .int p.2.2) rfl rfl (index_pl i2)) rfl) rfl) (by omega)
  have e1 : (z3 W a b).map (fun p => D.int (absI ((pl p.1 p.2.1 : Int) - (pl p.1 p.2.2 : Int)))) = (moves W a b).map .int := by
    unfold moves
    rw [List.map_map]
    rfl
  rw [e1] at q1
  refine fn_rt rfl ?_
  rw [seq_nx (asg_nx (δ' := [.val (codesD W), .val (codeD a), .val (codeD b), .val (codeD (moves W a b)), .no, .no, .no]) q1 rfl)]
  have sm2 : ∀ i ∈ (sortI (moves W a b)).reverse.take 2, smallI i := fun i hi => sm i ((sortI_perm _).mem_iff.mp (by simpa using List.mem_of_mem_take hi))
  have qc : eCut (eF dRev (eF dSorted (eV 3))) eNo (eAt (eK (.int 2))) [.val (codesD W), .val (codeD a), .val (codeD b), .val (codeD (moves W a b)), .no, .no, .no] = pure (codeD ((sortI (moves W a b)).reverse.take 2)) := by
    unfold eCut
    rw [f_eq (x := codeD (sortI (moves W a b))) (d := codeD (sortI (moves W a b)).reverse) (f_eq (x := codeD (moves W a b)) rfl (sorted_ints sm)) (by unfold codeD; rw [List.map_reverse]; rfl), pure_bind]
    show (pure (D.lst (cut _ none (some 2))) : M D) = _
    rw [cut2]
    unfold codeD
    rw [List.map_take]
  refine ret_rt (o_eq qc (lst_eq (es_cons (lst_eq (es_cons rfl es_nil) (by simp)) (es_cons (lst_eq (es_cons rfl (es_cons rfl es_nil)) (by simp)) es_nil)) (by simp)) ?_)
  rw [← adj_top]
  exact in_two sm2
end K76

/-! ## M6K76 -/
set_option autoImplicit false
set_option linter.all false
set_option maxRecDepth 100000
set_option maxHeartbeats 2000000
namespace K76
open PySem DL
/-! ### texts of codes -/
theorem shown_lst (xs : List D) : (D.lst xs).py.shown = listText (PyData.shownAll (pys xs)) := by
  show PyData.shown (.list (pys xs)) = _
  simp only [PyData.shown]
theorem shown_pys : ∀ xs : List D, PyData.shownAll (pys xs) = xs.map fun d => d.py.shown
  | [] => by simp [pys, PyData.shownAll]
  | x :: xs => by simp only [pys, PyData.shownAll, shown_pys xs, List.map_cons]
/-- a list's text by its items' texts of one length -/
theorem shown_len {xs : List D} {n : Nat} (h : ∀ d ∈ xs, d.py.shown.length = n) : (D.lst xs).py.shown.length = if xs = [] then 2 else (n + 2) * xs.length := by
  rw [shown_lst, shown_pys]
  cases xs with
  | nil => rw [if_pos rfl]; exact (congrArg Str.length listText_nil).trans rfl
  | cons x xs =>
    rw [if_neg (by simp), List.map_cons, listLen, h x List.mem_cons_self]
    have e : ((xs.map fun d => d.py.shown).map fun t => t.length + 2).sum = (n + 2) * xs.length := by
      have h' : ∀ d ∈ xs, d.py.shown.length = n := fun d hd => h d (List.mem_cons_of_mem _ hd)
      clear h
      induction xs with
      | nil => simp
      | cons y ys ih =>
        rw [List.map_cons, List.map_cons, List.sum_cons, ih fun d hd => h' d (List.mem_cons_of_mem _ hd), h' y List.mem_cons_self, List.length_cons, Nat.mul_add]
        omega
    rw [e, List.length_cons, Nat.mul_add]
    omega
theorem shown_code {c : List Int} (h : ∀ x ∈ c, 0 ≤ x ∧ x < 10) : (codeD c).py.shown.length = if c = [] then 2 else 3 * c.length := by
  have := shown_len (xs := c.map D.int) (n := 1) (fun d hd => by
    rw [List.mem_map] at hd
    obtain ⟨x, hx, rfl⟩ := hd
    exact digit_len (h x hx).1 (h x hx).2)
  rw [List.length_map] at this
  rw [show (codeD c) = D.lst (c.map D.int) from rfl, this]
  cases c <;> simp
theorem repr_cl {d : D} (h : d.cl 60 = true) (hl : d.py.shown.length ≤ 1000000) : dRepr d = pure (.str d.py.shown) := by
  unfold dRepr
  rw [if_pos]
  rw [Bool.and_eq_true]
  refine ⟨?_, lim_ok hl⟩
  unfold D.rp
  cases d with
  | dct kvs => simp [D.cl] at h
  | _ => exact h
theorem repr_code {c : List Int} (h : ∀ x ∈ c, 0 ≤ x ∧ x < 10) (hl : c.length ≤ 1000) : dRepr (codeD c) = pure (.str (codeD c).py.shown) := by
  refine repr_cl (cl_code (n := 59) fun i hi => digit_small (h i hi)) ?_
  rw [shown_code h]
  split <;> omega
def shs (W : List (List Int)) : List Str := (allC W).map fun c => (codeD c).py.shown
theorem imm_strs {α : Type} (xs : List α) (f : α → Str) : (xs.map fun x => D.str (f x)).all D.imm = true := by
  rw [List.all_map]; exact List.all_eq_true.mpr fun _ _ => rfl
theorem notIn_strs {α : Type} (xs : List α) (f : α → Str) (s : Str) : dNotIn (.str s) (.lst (xs.map fun x => D.str (f x))) = pure (.bl (!decide (s ∈ xs.map f))) := by
  show liftB ((inB (.str s) (xs.map fun x => D.str (f x))).map (!·)) = _
  unfold inB
  rw [imm_strs]
  show liftB ((some ((xs.map fun x => D.str (f x)).any fun y => PyData.eqv y.py (D.str s).py)).map (!·)) = _
  have e : ((xs.map fun x => D.str (f x)).any fun y => PyData.eqv y.py (D.str s).py) = decide (s ∈ xs.map f) := by
    rw [List.any_map]
    induction xs with
    | nil => rfl
    | cons x xs ih =>
      rw [List.any_cons, ih, List.map_cons]
      show (f x == s || _) = _
      by_cases h : f x = s
      · simp [h]
      · have h' : s ≠ f x := fun e => h e.symm
        have hb : (f x == s) = false := by
          cases q : (f x == s) with
          | false => rfl
          | true => exact absurd (eq_of_beq q) h
        by_cases h2 : s ∈ xs.map f <;> simp [hb, h', h2]
  rw [e]
  rfl
/-- what the law tests of each code of a value -/
def eTest : E := eOr (eF dNot (eF (fun d => dIsI d "list") (eV 2))) (eO dNotIn (eF dRepr (eV 2)) (eLc [3] (gN 3) (xL (eCall f_law_codes (esC (eW 0) (esN)))) (eK (.bl true)) (eF dRepr (eV 3))))
theorem reprs_eq {W : List (List Int)} (h : Wh W) {a b c : Sl} {v : D} : eLc [3] (gN 3) (xL (eCall f_law_codes (esC (eW 0) (esN)))) (eK (.bl true)) (eF dRepr (eV 3)) [.val (codesD W), .val v, a, b, c] = pure (.lst ((allC W).map fun c => D.str (codeD c).py.shown)) := by
  have hl := allC_len W
  have hs := h.sz
  have hf := h.few
  exact eLc_all (emb := codeD) (γ := fun x => [.val (codesD W), .val v, a, .val (codeD x), c]) (xL_eq (call_eq (xs := [codesD W]) rfl (law_codes_eq h))) (fun x _ => rfl) (fun x hx => f_eq (x := codeD x) rfl (repr_code (h.digits hx) (by rw [(allC_in W x hx).1]; omega))) (by omega)
/-- an element of a value: a code, or one that no code is -/
inductive El (W : List (List Int)) : D → Bool → Prop
  | code {c : List Int} : c ∈ allC W → El W (codeD c) true
  | odd {d : D} {t : String} : d.ty = some t → isTy d "list" = false → d.cl 59 = true → El W d false
  | lst {xs : List D} : f_code_fits [codesD W, .lst xs] = pure (.bl false) → dRepr (.lst xs) = pure (.str (D.lst xs).py.shown) → (D.lst xs).py.shown ∉ shs W → (D.lst xs).cl 59 = true → El W (.lst xs) false
theorem el_fits {W : List (List Int)} (h : Wh W) {d : D} {b : Bool} (e : El W d b) : f_code_fits [codesD W, d] = pure (.bl b) := by
  cases e with
  | code hc => exact fits_code h hc
  | odd ht hi _ => exact fits_no ht hi
  | lst hf _ _ _ => exact hf
theorem el_test {W : List (List Int)} (h : Wh W) {d : D} {b : Bool} (e : El W d b) {v : D} {x y : Sl} : eTest [.val (codesD W), .val v, .val d, x, y] = pure (.bl (!b)) := by
  unfold eTest
  have hf := h.few
  cases e with
  | @code c hc =>
    rw [or_f (f_eq (x := .bl true) (f_eq (x := codeD c) rfl rfl) rfl)]
    refine o_eq (f_eq (x := codeD c) rfl (repr_code (h.digits hc) (by rw [(allC_in W c hc).1]; omega))) (reprs_eq h) ?_
    rw [notIn_strs, decide_eq_true (List.mem_map_of_mem hc)]
  | odd ht hi _ => exact or_t (f_eq (x := .bl false) (f_eq rfl (by unfold dIsI; rw [ht, hi])) rfl)
  | @lst xs _ hr hn _ =>
    rw [or_f (f_eq (x := .bl true) (f_eq (x := .lst xs) rfl rfl) rfl)]
    refine o_eq (f_eq (x := .lst xs) rfl hr) (reprs_eq h) ?_
    rw [notIn_strs, decide_eq_false (show ¬ (D.lst xs).py.shown ∈ List.map (fun c => (codeD c).py.shown) (allC W) from hn)]
theorem el_cl {W : List (List Int)} (h : Wh W) {d : D} (e : El W d false) : d.cl 59 = true := by
  cases e with
  | odd _ _ hc => exact hc
  | lst _ _ _ hc => exact hc
theorem ne_nil {xs : List D} (h : ∀ d ∈ xs, d.cl 59 = true) : dNe (.lst xs) (.lst []) = pure (.bl (!decide (xs = []))) := by
  show liftB ((if (D.lst xs).cl 60 && (D.lst []).cl 60 then some (PyData.eqv (.list (pys xs)) (.list (pys []))) else none).map (!·)) = _
  rw [if_pos]
  · have e : PyData.eqv (.list (pys xs)) (.list (pys [])) = decide (xs = []) := by
      simp only [PyData.eqv]
      cases xs <;> simp [pys, PyData.eqvAll]
    rw [e]
    rfl
  · rw [Bool.and_eq_true]
    exact ⟨List.all_eq_true.mpr h, rfl⟩
end K76

/-! ## M7K76 -/
set_option autoImplicit false
set_option linter.all false
set_option maxRecDepth 100000
set_option maxHeartbeats 2000000
namespace K76
open PySem DL
/-! ### is a value a row -/
def rowB (W : List (List Int)) (cs : List (List Int)) : Bool := decide (sortC cs = allC W) && (List.range (cs.length - 1)).all fun k => adj W (cs.getD k []) (cs.getD (k + 1) [])
theorem row_no {W : List (List Int)} (h : Wh W) {v : D} {t : String} (ht : v.ty = some t) (hi : isTy v "list" = false) : f_is_turn_row [codesD W, v] = pure (.bl false) ∧ f_law_is_row [codesD W, v] = pure (.bl false) := by
  constructor
  · refine fn_rt rfl ?_
    rw [seq_nx (do_nx (call_eq (xs := [codesD W]) rfl (check_eq h)))]
    refine seq_rt ?_
    rw [if_t]
    · exact ret_rt rfl
    · exact or_t (f_eq (x := .bl false) (f_eq (x := v) rfl (by unfold dIsI; rw [ht, hi])) rfl)
  · refine fn_rt rfl (seq_rt ?_)
    rw [if_t]
    · exact ret_rt rfl
    · exact or_t (f_eq (x := .bl false) (f_eq (x := v) rfl (by unfold dIsI; rw [ht, hi])) rfl)
theorem fits_all {W : List (List Int)} (h : Wh W) {es : List (D × Bool)} (he : ∀ e ∈ es, El W e.1 e.2) (hl : es.length ≤ 1000) : eF dAll (eLc [2] (gN 2) (xL (eW 1)) (eK (.bl true)) (eCall f_code_fits (esC (eW 0) (esC (eW 2) (esN))))) (startD 4 [codesD W, .lst (es.map (·.1))]) = pure (.bl (es.all (·.2))) := by
  have q := eLc_all (vs := [2]) (g := gN 2) (src := xL (eW 1)) (te := eCall f_code_fits (esC (eW 0) (esC (eW 2) (esN)))) (δ := startD 4 [codesD W, .lst (es.map (·.1))]) (emb := fun e : D × Bool => e.1) (γ := fun e => [.val (codesD W), .val (.lst (es.map (·.1))), .val e.1, .no]) (f := fun e => D.bl e.2) (xs := es) rfl (fun e _ => rfl)
    (fun e hx => call_eq (xs := [codesD W, e.1]) rfl (el_fits h (he e hx))) (by omega)
  exact f_eq q (all_bls es (·.2))
theorem codes_len {W : List (List Int)} (h : Wh W) {δ : Dlt} (h0 : eW 0 δ = pure (codesD W)) : eF dLen (eCall f_law_codes (esC (eW 0) (esN))) δ = pure (.int (allC W).length) :=
  f_eq (call_eq (xs := [codesD W]) (es_cons h0 es_nil) (law_codes_eq h)) (by unfold codesD; rw [len_lst, List.length_map])
theorem tests_all {W : List (List Int)} (h : Wh W) {es : List (D × Bool)} (he : ∀ e ∈ es, El W e.1 e.2) (hl : es.length ≤ 1000) : eLc [2] (gN 2) (xL (eW 1)) eTest (eW 2) (startD 5 [codesD W, .lst (es.map (·.1))]) = pure (.lst ((es.filter fun e => !e.2).map (·.1))) :=
  eLc_map (vs := [2]) (g := gN 2) (src := xL (eW 1)) (tt := eTest) (te := eW 2) (δ := startD 5 [codesD W, .lst (es.map (·.1))]) (emb := fun e : D × Bool => e.1) (γ := fun e => [.val (codesD W), .val (.lst (es.map (·.1))), .val e.1, .no, .no]) (p := fun e => !e.2) (f := fun e => e.1) (xs := es) rfl (fun e _ => rfl)
    (fun e hx => el_test h (he e hx)) (fun e _ _ => rfl) (by omega)
theorem row_bad {W : List (List Int)} (h : Wh W) {es : List (D × Bool)} (he : ∀ e ∈ es, El W e.1 e.2) (hb : ∃ e ∈ es, e.2 = false) (hl : es.length ≤ 1000) : f_is_turn_row [codesD W, .lst (es.map (·.1))] = pure (.bl false) ∧ f_law_is_row [codesD W, .lst (es.map (·.1))] = pure (.bl false) := by
  obtain ⟨e0, m0, b0⟩ := hb
  constructor
  · refine fn_rt rfl ?_
    rw [seq_nx (do_nx (call_eq (xs := [codesD W]) rfl (check_eq h)))]
    refine seq_rt ?_
    rw [if_t]
    · exact ret_rt rfl
    · rw [or_f (f_eq (x := .bl true) (f_eq (x := .lst (es.map (·.1))) rfl rfl) rfl)]
      refine f_eq (x := .bl false) ?_ rfl
      rw [fits_all h he hl, show es.all (·.2) = false from List.all_eq_false.mpr ⟨e0, m0, by simp [b0]⟩]
  · refine fn_rt rfl (seq_rt ?_)
    rw [if_t]
    · exact ret_rt rfl
    · rw [or_f (f_eq (x := .bl true) (f_eq (x := .lst (es.map (·.1))) rfl rfl) rfl)]
      by_cases hn : ((es.map (·.1)).length : Int) = ((allC W).length : Nat)
      · rw [or_f (o_eq (x := .int (es.map (·.1)).length) (f_eq (x := .lst (es.map (·.1))) rfl rfl) (codes_len h rfl) (by rw [ne_int, decide_eq_true hn]; rfl))]
        refine o_eq (tests_all h he hl) (lst_eq es_nil (by simp)) ?_
        rw [ne_nil fun d hd => ?_, decide_eq_false]
        · rfl
        · intro z
          have : e0.1 ∈ (es.filter fun e => !e.2).map (·.1) := List.mem_map_of_mem (List.mem_filter.mpr ⟨m0, by simp [b0]⟩)
          rw [z] at this
          cases this
        · rw [List.mem_map] at hd
          obtain ⟨e, hd, rfl⟩ := hd
          obtain ⟨hd, hf⟩ := List.mem_filter.mp hd
          have hf : e.2 = false := by simpa using hf
          have q := he e hd
          rw [hf] at q
          exact el_cl h q
      · refine or_t (o_eq (x := .int (es.map (·.1)).length) (f_eq (x := .lst (es.map (·.1))) rfl rfl) (codes_len h rfl) ?_)
        rw [ne_int, decide_eq_false hn]
        rfl
theorem sorted_small {W : List (List Int)} (h : Wh W) {cs : List (List Int)} (hc : ∀ c ∈ cs, c ∈ allC W) : ∀ c ∈ cs, ∀ i ∈ c, smallI i := fun c hx i hi => digit_small (h.digits (hc c hx) i hi)
theorem getD_of {α : Type} {xs : List α} {k : Nat} (d : α) (h : k < xs.length) : xs.getD k d = xs[k] := by
  simp [List.getD, List.getElem?_eq_getElem h]
theorem row_good {W : List (List Int)} (h : Wh W) {cs : List (List Int)} (hc : ∀ c ∈ cs, c ∈ allC W) (hl : cs.length ≤ 1000) : f_is_turn_row [codesD W, codesD cs] = pure (.bl (rowB W cs)) ∧ f_law_is_row [codesD W, codesD cs] = pure (.bl (rowB W cs)) := by
  have sm := sorted_small h hc
  have sm2 : ∀ c ∈ sortC cs, ∀ i ∈ c, smallI i := fun c hx => sm c ((sortC_perm cs).mem_iff.mp hx)
  have smA := sorted_small h (cs := allC W) fun c hx => hx
  have ee : (cs.map fun c => (codeD c, true)).map (·.1) = cs.map codeD := by rw [List.map_map]; rfl
  have he : ∀ e ∈ cs.map fun c => (codeD c, true), El W e.1 e.2 := fun e hx => by
    rw [List.mem_map] at hx
    obtain ⟨c, hx, rfl⟩ := hx
    exact .code (hc c hx)
  have hl' : (cs.map fun c => (codeD c, true)).length ≤ 1000 := by rw [List.length_map]; exact hl
  have q1 := fits_all h he hl'
  have q2 := tests_all h he hl'
  rw [ee] at q1 q2
  have a1 : (cs.map fun c => (codeD c, true)).all (·.2) = true := by rw [List.all_map]; exact List.all_eq_true.mpr fun _ _ => rfl
  rw [a1] at q1
  have a2 : ((cs.map fun c => (codeD c, true)).filter fun e => !e.2) = [] := List.filter_eq_nil_iff.mpr fun e hx => by
    rw [List.mem_map] at hx
    obtain ⟨c, _, rfl⟩ := hx
    simp
  rw [a2] at q2
  have pair : ∀ k, k ∈ List.range (cs.length - 1) → ∃ (h0 : k < cs.length) (h1 : k + 1 < cs.length), ((1 + k : Nat) : Int) - 1 = (k : Nat) := fun k hk => by
    rw [List.mem_range] at hk
    exact ⟨by omega, by omega, by omega⟩
  constructor
  · refine fn_rt rfl ?_
    rw [seq_nx (do_nx (call_eq (xs := [codesD W]) rfl (check_eq h)))]
    rw [seq_nx (δ' := startD 4 [codesD W, codesD cs])]
    · by_cases hs : sortC cs = allC W
      · rw [seq_nx (δ' := startD 4 [codesD W, codesD cs])]
        · have q := eLc_all (vs := [3]) (g := gN 3) (src := xR2 (eK (.int 1)) (eF dLen (eV 1))) (te := eCall f_is_turn (esC (eW 0) (esC (eO dIx (eV 1) (eO dSub (eV 3) (eK (.int 1)))) (esC (eO dIx (eV 1) (eV 3)) (esN))))) (δ := startD 4 [codesD W, codesD cs]) (emb := fun k : Nat => D.int ((1 + k : Nat) : Int))
            (γ := fun k => [.val (codesD W), .val (codesD cs), .no, .val (.int ((1 + k : Nat) : Int))]) (f := fun k => D.bl (adj W (cs.getD k []) (cs.getD (k + 1) []))) (xs := List.range (cs.length - 1)) (range1 (by omega) (f_eq rfl (by unfold codesD; rw [len_lst, List.length_map]))) (fun k _ => rfl) (fun k hk => by
              obtain ⟨h0, h1, h2⟩ := pair k hk
              refine call_eq (xs := [codesD W, codeD cs[k], codeD cs[k + 1]]) (es_cons rfl (es_cons (o_eq (x := codesD cs) (y := .int k) rfl (o_eq (x := .int ((1 + k : Nat) : Int)) (y := .int 1) rfl rfl (by show (pure (D.int _) : M D) = _; rw [h2])) (ix_codes h0)) (es_cons (o_eq (x := codesD cs) (y := .int ((k + 1 : Nat) : Int)) rfl (by rw [Nat.add_comm k 1]; rfl) (ix_codes h1)) es_nil))) ?_
              rw [is_turn_eq h (hc _ (List.getElem_mem h0)) (hc _ (List.getElem_mem h1)), getD_of [] h0, getD_of [] h1]) (by rw [List.length_range]; omega)
          refine ret_rt (f_eq q ?_)
          rw [all_bls]
          unfold rowB
          rw [decide_eq_true hs, Bool.true_and]
        · rw [if_f]
          · rfl
          · refine o_eq (x := codesD (sortC cs)) (y := codesD (allC W)) (f_eq (x := codesD cs) rfl (sorted_codes sm)) (call_eq (xs := [codesD W]) rfl (all_codes_eq h)) ?_
            rw [ne_codes sm2 smA, decide_eq_true hs]
            rfl
      · refine seq_rt ?_
        unfold rowB
        rw [decide_eq_false hs, Bool.false_and]
        rw [if_t]
        · exact ret_rt rfl
        · refine o_eq (x := codesD (sortC cs)) (y := codesD (allC W)) (f_eq (x := codesD cs) rfl (sorted_codes sm)) (call_eq (xs := [codesD W]) rfl (all_codes_eq h)) ?_
          rw [ne_codes sm2 smA, decide_eq_false hs]
          rfl
    · rw [if_f]
      · rfl
      · rw [or_f (f_eq (x := .bl true) (f_eq (x := codesD cs) rfl rfl) rfl)]
        exact f_eq (x := .bl true) q1 rfl
  · refine fn_rt rfl ?_
    by_cases hn : cs.length = (allC W).length
    · rw [seq_nx (δ' := startD 5 [codesD W, codesD cs])]
      · by_cases hs : sortC cs = allC W
        · rw [seq_nx (δ' := startD 5 [codesD W, codesD cs])]
          · have q := eLc_map (vs := [4]) (g := gN 4) (src := xR2 (eK (.int 1)) (eF dLen (eV 1))) (tt := eF dNot (eCall f_law_turned (esC (eW 0) (esC (eO dIx (eV 1) (eO dSub (eV 4) (eK (.int 1)))) (esC (eO dIx (eV 1) (eV 4)) (esN)))))) (te := eW 4) (δ := startD 5 [codesD W, codesD cs]) (emb := fun k : Nat => D.int ((1 + k : Nat) : Int))
              (γ := fun k => [.val (codesD W), .val (codesD cs), .no, .no, .val (.int ((1 + k : Nat) : Int))]) (p := fun k => !adj W (cs.getD k []) (cs.getD (k + 1) [])) (f := fun k => D.int ((1 + k : Nat) : Int)) (xs := List.range (cs.length - 1)) (range1 (by omega) (f_eq rfl (by unfold codesD; rw [len_lst, List.length_map]))) (fun k _ => rfl) (fun k hk => by
                obtain ⟨h0, h1, h2⟩ := pair k hk
                refine f_eq (x := .bl (adj W (cs.getD k []) (cs.getD (k + 1) []))) (call_eq (xs := [codesD W, codeD cs[k], codeD cs[k + 1]]) (es_cons rfl (es_cons (o_eq (x := codesD cs) (y := .int k) rfl (o_eq (x := .int ((1 + k : Nat) : Int)) (y := .int 1) rfl rfl (by show (pure (D.int _) : M D) = _; rw [h2])) (ix_codes h0)) (es_cons (o_eq (x := codesD cs) (y := .int ((k + 1 : Nat) : Int)) rfl (by rw [Nat.add_comm k 1]; rfl) (ix_codes h1)) es_nil))) ?_) rfl
                rw [law_turned_eq h (hc _ (List.getElem_mem h0)) (hc _ (List.getElem_mem h1)), getD_of [] h0, getD_of [] h1]) (fun k _ _ => rfl) (by rw [List.length_range]; omega)
            refine ret_rt (o_eq (y := .lst []) q (lst_eq es_nil (by simp)) ?_)
            have e2 : (((List.range (cs.length - 1)).filter fun k => !adj W (cs.getD k []) (cs.getD (k + 1) [])).map fun k => D.int ((1 + k : Nat) : Int)) = ((((List.range (cs.length - 1)).filter fun k => !adj W (cs.getD k []) (cs.getD (k + 1) [])).map fun k => ((1 + k : Nat) : Int)).map .int) := by
              rw [List.map_map]
              rfl
            rw [e2]
            refine (eq_code (b := []) (fun i hi => ?_) (by simp)).trans ?_
            · rw [List.mem_map] at hi
              obtain ⟨k, hk, rfl⟩ := hi
              have hk := List.mem_range.mp (List.mem_filter.mp hk).1
              exact small_of (by omega)
            · unfold rowB
              rw [decide_eq_true hs, Bool.true_and]
              congr 2
              refine Bool.eq_iff_iff.mpr ?_
              rw [decide_eq_true_iff]
              rw [List.map_eq_nil_iff, List.filter_eq_nil_iff, List.all_eq_true]
              constructor
              · exact fun q k hk => by simpa using q k hk
              · exact fun q k hk => by simpa using q k hk
          · rw [if_f]
            · rfl
            · refine o_eq (x := codesD (sortC cs)) (y := codesD (allC W)) (f_eq (x := codesD cs) rfl (sorted_codes sm)) (call_eq (xs := [codesD W]) rfl (law_codes_eq h)) ?_
              rw [ne_codes sm2 smA, decide_eq_true hs]
              rfl
        · refine seq_rt ?_
          unfold rowB
          rw [decide_eq_false hs, Bool.false_and]
          rw [if_t]
          · exact ret_rt rfl
          · refine o_eq (x := codesD (sortC cs)) (y := codesD (allC W)) (f_eq (x := codesD cs) rfl (sorted_codes sm)) (call_eq (xs := [codesD W]) rfl (law_codes_eq h)) ?_
            rw [ne_codes sm2 smA, decide_eq_false hs]
            rfl
      · rw [if_f]
        · rfl
        · rw [or_f (f_eq (x := .bl true) (f_eq (x := codesD cs) rfl rfl) rfl)]
          rw [or_f (o_eq (x := .int cs.length) (f_eq (x := codesD cs) rfl (by unfold codesD; rw [len_lst, List.length_map])) (codes_len h rfl) (by rw [ne_int, decide_eq_true (by omega)]; rfl))]
          exact o_eq q2 (lst_eq es_nil (by simp)) (ne_nil (xs := []) fun d hd => by cases hd)
    · have hs : sortC cs ≠ allC W := fun e => hn (by rw [← e]; exact (sortC_perm cs).length_eq.symm)
      unfold rowB
      rw [decide_eq_false hs, Bool.false_and]
      refine seq_rt ?_
      rw [if_t]
      · exact ret_rt rfl
      · rw [or_f (f_eq (x := .bl true) (f_eq (x := codesD cs) rfl rfl) rfl)]
        refine or_t (o_eq (x := .int cs.length) (f_eq (x := codesD cs) rfl (by unfold codesD; rw [len_lst, List.length_map])) (codes_len h rfl) ?_)
        rw [ne_int, decide_eq_false (by omega)]
        rfl
end K76

/-! ## M8K76 -/
set_option autoImplicit false
set_option linter.all false
set_option maxRecDepth 100000
set_option maxHeartbeats 2000000
namespace K76
open PySem DL
/-! ### the row's codes are all codes -/
theorem extZ_perm (fs : List Int) : ∀ zs : List (List Int × Nat), (extZ zs fs).Perm (ext (zs.map (·.1)) fs)
  | [] => .nil
  | z :: zs => by
    have e1 : extZ (z :: zs) fs = (if z.2 % 2 = 0 then fs else fs.reverse).map (fun f => z.1 ++ [f]) ++ extZ zs fs := rfl
    have e2 : ext ((z :: zs).map (·.1)) fs = fs.map (fun f => z.1 ++ [f]) ++ ext (zs.map (·.1)) fs := rfl
    rw [e1, e2]
    refine List.Perm.append ?_ (extZ_perm fs zs)
    split
    · exact .refl _
    · exact (List.reverse_perm fs).map _
theorem rowExt_perm (cs : List (List Int)) (fs : List Int) : (rowExt cs fs).Perm (ext cs fs) := by
  have h := extZ_perm fs cs.zipIdx
  rw [show cs.zipIdx.map (·.1) = cs from List.zipIdx_map_fst 0 cs] at h
  exact h
theorem turnR_perm (W : List (List Int)) : (turnR W).Perm (allC W) := by
  induction W using snoc_ind with
  | h0 => exact .refl _
  | h1 W fs ih =>
    rw [turnR_snoc, allC_snoc]
    exact (rowExt_perm _ _).trans (List.Perm.flatMap_right _ ih)
theorem ltC_snoc_same : ∀ (c : List Int) {f g : Int}, f < g → ltC (c ++ [f]) (c ++ [g]) = true
  | [], f, g, h => by simp [ltC, h]
  | x :: c, f, g, h => by simp [ltC, ltC_snoc_same c h]
theorem ltC_snoc : ∀ (c d : List Int) {f g : Int}, c.length = d.length → ltC c d = true → ltC (c ++ [f]) (d ++ [g]) = true
  | [], [], _, _, _, h => by simp [ltC] at h
  | x :: c, y :: d, f, g, hl, h => by
    simp only [ltC, Bool.or_eq_true, decide_eq_true_eq, Bool.and_eq_true, Bool.not_eq_true', decide_eq_false_iff_not] at h
    simp only [List.cons_append, ltC, Bool.or_eq_true, decide_eq_true_eq, Bool.and_eq_true, Bool.not_eq_true', decide_eq_false_iff_not]
    rcases h with h | ⟨h1, h2⟩
    · exact .inl h
    · exact .inr ⟨h1, ltC_snoc c d (by simpa using hl) h2⟩
  | [], _ :: _, _, _, hl, _ => by simp at hl
  | _ :: _, [], _, _, hl, _ => by simp at hl
theorem allC_sorted : ∀ W : List (List Int), (∀ c ∈ W, c.Pairwise (· < ·)) → (allC W).Pairwise fun a b => ltC a b = true := by
  intro W
  induction W using snoc_ind with
  | h0 => intro _; simp [allC]
  | h1 W fs ih =>
    intro h
    have ih := ih fun c hc => h c (List.mem_append_left _ hc)
    have hf := h fs (by simp)
    rw [allC_snoc, List.pairwise_flatMap]
    refine ⟨fun c _ => ?_, ?_⟩
    · rw [List.pairwise_map]
      exact hf.imp fun q => ltC_snoc_same c q
    · refine List.Pairwise.imp_of_mem (fun {c d} hc hd q => ?_) ih
      intro x hx y hy
      rw [List.mem_map] at hx hy
      obtain ⟨f, _, rfl⟩ := hx
      obtain ⟨g, _, rfl⟩ := hy
      exact ltC_snoc c d (by rw [(allC_in W c hc).1, (allC_in W d hd).1]) q
theorem ltC_asymm (a b : List Int) (h : ltC a b = true) : (!ltC b a) = true := by
  cases q : ltC b a with
  | false => rfl
  | true =>
    have := leD_total (codeD a) (codeD b)
    unfold leD at this
    rw [lt_code, lt_code, h, q] at this
    cases this
theorem sort_turnR {W : List (List Int)} (h : ∀ c ∈ W, c.Pairwise (· < ·)) : sortC (turnR W) = allC W :=
  sortC_eq (turnR_perm W) ((allC_sorted W h).imp fun q => ltC_asymm _ _ q)
/-! ### each is a turn behind the one ahead -/
def ch {α : Type} (R : α → α → Prop) (l : List α) : Prop := ∀ k (h : k + 1 < l.length), R (l[k]'(by omega)) l[k + 1]
theorem ch_nil {α : Type} {R : α → α → Prop} : ch R ([] : List α) := fun k h => by simp at h
theorem ch_map {α β : Type} {R : β → β → Prop} {f : α → β} {l : List α} (h : ch (fun x y => R (f x) (f y)) l) : ch R (l.map f) := fun k hk => by
  rw [List.length_map] at hk
  simp only [List.getElem_map]
  exact h k hk
theorem ch_rev {α : Type} {R : α → α → Prop} {l : List α} (h : ch (fun x y => R y x) l) : ch R l.reverse := fun k hk => by
  rw [List.length_reverse] at hk
  have q := h (l.length - 1 - (k + 1)) (by omega)
  simp only [List.getElem_reverse]
  have e : l.length - 1 - (k + 1) + 1 = l.length - 1 - k := by omega
  simp only [e] at q
  exact q
theorem ch_app {α : Type} {R : α → α → Prop} {a b : List α} (ha : ch R a) (hb : ch R b) (hab : ∀ x y, a.getLast? = some x → b.head? = some y → R x y) : ch R (a ++ b) := fun k hk => by
  rw [List.length_append] at hk
  by_cases h1 : k + 1 < a.length
  · rw [List.getElem_append_left (by omega), List.getElem_append_left h1]
    exact ha k h1
  · by_cases h2 : k < a.length
    · have e : k + 1 = a.length := by omega
      rw [List.getElem_append_left h2, List.getElem_append_right (by omega)]
      refine hab _ _ ?_ ?_
      · rw [List.getLast?_eq_getElem?, show a.length - 1 = k by omega, List.getElem?_eq_getElem h2]
      · rw [List.head?_eq_getElem?, show b[k + 1 - a.length] = b[0]'(by omega) by congr 1; omega, List.getElem?_eq_getElem]
    · rw [List.getElem_append_right (by omega), List.getElem_append_right (by omega)]
      have q := hb (k - a.length) (by omega)
      have e : k - a.length + 1 = k + 1 - a.length := by omega
      simp only [e] at q
      exact q
theorem moves_snoc {W : List (List Int)} {a b : List Int} {fs : List Int} {x y : Int} (ha : a.length = W.length) (hb : b.length = W.length) : moves (W ++ [fs]) (a ++ [x]) (b ++ [y]) = moves W a b ++ [absI ((pl fs x : Int) - (pl fs y : Int))] := by
  unfold moves z3
  rw [List.zip_append (show a.length = b.length by omega), List.zip_append (show W.length = (a.zip b).length by rw [List.length_zip]; omega), List.map_append]
  rfl
theorem moves_self (W : List (List Int)) (a : List Int) : ((moves W a a).filter fun i => !decide (i = 0)) = [] := by
  refine List.filter_eq_nil_iff.mpr fun i hi => ?_
  have : i = 0 := by
    unfold moves z3 at hi
    rw [List.mem_map] at hi
    obtain ⟨p, hp, rfl⟩ := hi
    have hp2 := (List.of_mem_zip hp).2
    have e : p.2.1 = p.2.2 := by
      clear hp
      generalize p.2 = q at hp2
      induction a with
      | nil => simp at hp2
      | cons x a ih =>
        rw [List.zip_cons_cons, List.mem_cons] at hp2
        rcases hp2 with rfl | hp2
        · rfl
        · exact ih hp2
    rw [e]
    unfold absI
    split <;> omega
  simp [this]
theorem adj_in {W : List (List Int)} {c : List Int} {fs : List Int} {x y : Int} (hc : c.length = W.length) (h : absI ((pl fs x : Int) - (pl fs y : Int)) = 1) : adj (W ++ [fs]) (c ++ [x]) (c ++ [y]) = true := by
  unfold adj
  rw [moves_snoc hc hc, List.filter_append, moves_self, h]
  rfl
theorem adj_over {W : List (List Int)} {c d : List Int} {fs : List Int} {x : Int} (hc : c.length = W.length) (hd : d.length = W.length) (h : adj W c d = true) : adj (W ++ [fs]) (c ++ [x]) (d ++ [x]) = true := by
  unfold adj at h ⊢
  rw [moves_snoc hc hd, List.filter_append, of_decide_eq_true h]
  have e : absI ((pl fs x : Int) - (pl fs x : Int)) = 0 := by
    unfold absI
    split <;> omega
  rw [e]
  rfl
theorem pl_at {fs : List Int} (hn : fs.Pairwise (· < ·)) {k : Nat} (h : k < fs.length) : pl fs fs[k] = k := by
  unfold pl
  rw [List.findIdx_eq h]
  refine ⟨by simp, fun j hj => ?_⟩
  have := List.pairwise_iff_getElem.mp hn j k (by omega) h hj
  exact decide_eq_false (by omega)
theorem ch_fs {fs : List Int} (hn : fs.Pairwise (· < ·)) : ch (fun x y => absI ((pl fs x : Int) - (pl fs y : Int)) = 1 ∧ absI ((pl fs y : Int) - (pl fs x : Int)) = 1) fs := fun k h => by
  show absI ((pl fs fs[k] : Int) - (pl fs fs[k + 1] : Int)) = 1 ∧ absI ((pl fs fs[k + 1] : Int) - (pl fs fs[k] : Int)) = 1
  rw [pl_at hn (show k < fs.length by omega), pl_at hn h]
  unfold absI
  constructor <;> (split <;> omega)
theorem block_ch {W : List (List Int)} {c : List Int} {fs : List Int} (hn : fs.Pairwise (· < ·)) (hc : c.length = W.length) (n : Nat) : ch (fun a b => adj (W ++ [fs]) a b = true) ((if n % 2 = 0 then fs else fs.reverse).map fun f => c ++ [f]) := by
  refine ch_map ?_
  split
  · exact fun k h => adj_in hc (ch_fs hn k h).1
  · exact ch_rev fun k h => adj_in hc (ch_fs hn k h).2
theorem head_app {α : Type} {a b : List α} (h : a ≠ []) : (a ++ b).head? = a.head? := by
  cases a with
  | nil => exact absurd rfl h
  | cons x a => rfl
theorem extZ_ch {W : List (List Int)} {fs : List Int} (hn : fs.Pairwise (· < ·)) (hne : fs ≠ []) : ∀ (cs : List (List Int)) (n : Nat), (∀ c ∈ cs, c.length = W.length) → ch (fun a b => adj W a b = true) cs → ch (fun a b => adj (W ++ [fs]) a b = true) (extZ (cs.zipIdx n) fs)
  | [], _, _, _ => ch_nil
  | [c], n, hl, _ => by
    have e : extZ ([c].zipIdx n) fs = (if n % 2 = 0 then fs else fs.reverse).map (fun f => c ++ [f]) := by
      show _ ++ [] = _
      rw [List.append_nil]
    rw [e]
    exact block_ch hn (hl c (by simp)) n
  | c :: d :: cs, n, hl, hch => by
    have ih := extZ_ch hn hne (d :: cs) (n + 1) (fun x hx => hl x (List.mem_cons_of_mem _ hx)) (fun k h => by
      have q := hch (k + 1) (by simpa using h)
      simpa using q)
    have e : extZ ((c :: d :: cs).zipIdx n) fs = (if n % 2 = 0 then fs else fs.reverse).map (fun f => c ++ [f]) ++ extZ ((d :: cs).zipIdx (n + 1)) fs := rfl
    rw [e]
    refine ch_app (block_ch hn (hl c (by simp)) n) ih fun x y hx hy => ?_
    have hcd : adj W c d = true := hch 0 (by simp)
    have e2 : extZ ((d :: cs).zipIdx (n + 1)) fs = (if (n + 1) % 2 = 0 then fs else fs.reverse).map (fun f => d ++ [f]) ++ extZ (cs.zipIdx (n + 1 + 1)) fs := rfl
    rw [e2] at hy
    have hne2 : ((if (n + 1) % 2 = 0 then fs else fs.reverse).map fun f => d ++ [f]) ≠ [] := by
      split <;> simp [hne]
    rw [head_app hne2, List.head?_map] at hy
    rw [List.getLast?_map] at hx
    obtain ⟨f, hf, rfl⟩ := Option.map_eq_some_iff.mp hx
    obtain ⟨g, hg, rfl⟩ := Option.map_eq_some_iff.mp hy
    have e3 : f = g := by
      by_cases z : n % 2 = 0
      · rw [if_pos z] at hf
        rw [if_neg (by omega), List.head?_reverse, hf] at hg
        exact Option.some.inj hg
      · rw [if_neg z, List.getLast?_reverse] at hf
        rw [if_pos (by omega), hf] at hg
        exact Option.some.inj hg
    subst e3
    exact adj_over (hl c (by simp)) (hl d (by simp)) hcd
theorem turnR_ch : ∀ W : List (List Int), (∀ c ∈ W, c ≠ [] ∧ c.Pairwise (· < ·)) → ch (fun a b => adj W a b = true) (turnR W) := by
  intro W
  induction W using snoc_ind with
  | h0 => intro _ k h; simp [turnR] at h
  | h1 W fs ih =>
    intro h
    rw [turnR_snoc]
    obtain ⟨h1, h2⟩ := h fs (by simp)
    exact extZ_ch h2 h1 (turnR W) 0 (turnR_clen W) (ih fun c hc => h c (List.mem_append_left _ hc))
theorem rowB_turnR {W : List (List Int)} (h : Wh W) : rowB W (turnR W) = true := by
  unfold rowB
  rw [decide_eq_true (sort_turnR fun c hc => (h.fs c hc).2.2), Bool.true_and, List.all_eq_true]
  intro k hk
  rw [List.mem_range] at hk
  rw [getD_of [] (show k < (turnR W).length by omega), getD_of [] (show k + 1 < (turnR W).length by omega)]
  exact turnR_ch W (fun c hc => ⟨(h.fs c hc).1, (h.fs c hc).2.2⟩) k (by omega)
end K76

/-! ## DYld -/
set_option autoImplicit false
set_option linter.all false
set_option maxRecDepth 100000
/-! DYld: what a def that draws may come to. -/
namespace DL
open PySem
/-- the generator's state, after at most so many draws -/
def St (k : Nat) (g : Gs) : Prop := ∃ a b c : Int, g = [a, b, c] ∧ 0 ≤ b ∧ b < 2147483647 ∧ 0 ≤ c ∧ c ≤ 3000 + k
theorem St.mono {j k : Nat} {g : Gs} (h : St j g) (q : j ≤ k) : St k g := by
  obtain ⟨a, b, c, e, h1, h2, h3, h4⟩ := h
  exact ⟨a, b, c, e, h1, h2, h3, by omega⟩
/-- whatever is drawn, it ends, and P holds of it -/
def Yl {α : Type} (n : Nat) (m : M α) (P : α → Prop) : Prop := ∀ k g, St k g → k + n ≤ 1000000 → ∃ a g', Ok m g a g' ∧ P a ∧ St (k + n) g'
theorem yl_pure {α : Type} {a : α} {P : α → Prop} (h : P a) : Yl 0 (pure a) P := fun k g s _ => ⟨a, g, ok_pure.mpr ⟨rfl, rfl⟩, h, s⟩
theorem yl_eq {α : Type} {m : M α} {a : α} {P : α → Prop} (e : m = pure a) (h : P a) : Yl 0 m P := by
  rw [e]; exact yl_pure h
theorem yl_bind {α β : Type} {n j : Nat} {m : M α} {f : α → M β} {P : α → Prop} {Q : β → Prop} (h : Yl n m P) (h2 : ∀ a, P a → Yl j (f a) Q) : Yl (n + j) (m >>= f) Q := fun k g s hk => by
  obtain ⟨a, g1, o1, p, s1⟩ := h k g s (by omega)
  obtain ⟨b, g2, o2, q, s2⟩ := h2 a p (k + n) g1 s1 (by omega)
  exact ⟨b, g2, ok_bind.mpr ⟨a, g1, o1, o2⟩, q, s2.mono (by omega)⟩
theorem Yl.mono {α : Type} {n j : Nat} {m : M α} {P Q : α → Prop} (h : Yl n m P) (hn : n ≤ j) (hp : ∀ a, P a → Q a) : Yl j m Q := fun k g s hk => by
  obtain ⟨a, g1, o1, p, s1⟩ := h k g s (by omega)
  exact ⟨a, g1, o1, hp a p, s1.mono (by omega)⟩
/-- the first step tells its value -/
theorem yl_step {α β : Type} {j : Nat} {m : M α} {f : α → M β} {a : α} {Q : β → Prop} (e : m = pure a) (h : Yl j (f a) Q) : Yl j (m >>= f) Q := by
  rw [e, pure_bind]; exact h
theorem yl_seq {n j : Nat} {a b : S} {δ : Dlt} {P : Dlt → Prop} {Q : Fl → Prop} (h : Yl n (a δ) fun r => ∃ δ', r = .nx δ' ∧ P δ') (h2 : ∀ δ', P δ' → Yl j (b δ') Q) : Yl (n + j) (sSeq a b δ) Q :=
  yl_bind h fun r ⟨δ', e, p⟩ => by
    subst e
    exact h2 δ' p
theorem yl_seq0 {j : Nat} {a b : S} {δ δ' : Dlt} {Q : Fl → Prop} (h : a δ = pure (.nx δ')) (h2 : Yl j (b δ') Q) : Yl j (sSeq a b δ) Q := by
  rw [seq_nx h]; exact h2
theorem yl_asg {n : Nat} {g : G} {e : E} {δ : Dlt} {P : D → Prop} {Q : Dlt → Prop} (h : Yl n (e δ) P) (h2 : ∀ d, P d → ∃ δ', g d δ = some δ' ∧ Q δ') : Yl n (sAsg g e δ) fun r => ∃ δ', r = .nx δ' ∧ Q δ' :=
  (yl_bind (j := 0) h fun d p => by
    obtain ⟨δ', e1, q⟩ := h2 d p
    unfold liftG
    rw [e1]
    exact yl_pure ⟨δ', rfl, q⟩).mono (by omega) fun _ q => q
theorem yl_ret {n : Nat} {e : E} {δ : Dlt} {P : D → Prop} (h : Yl n (e δ) P) : Yl n (sRet e δ) fun r => ∃ d, r = .rt d ∧ P d :=
  (yl_bind (j := 0) h fun d p => yl_pure ⟨d, rfl, p⟩).mono (by omega) fun _ q => q
theorem yl_fn {n p j : Nat} {s : S} {ds : List D} {P : D → Prop} (hl : ds.length = p) (h : Yl j (s (startD n ds)) fun r => ∃ d, r = .rt d ∧ P d) : Yl j (fn n p s ds) P := by
  unfold fn
  rw [if_pos hl]
  exact (yl_bind (j := 0) h fun r ⟨d, e, q⟩ => by subst e; exact yl_pure q).mono (by omega) fun _ q => q
theorem yl_call {n j : Nat} {f : List D → M D} {es : Es} {δ : Dlt} {P : List D → Prop} {Q : D → Prop} (h : Yl n (es δ) P) (h2 : ∀ ds, P ds → Yl j (f ds) Q) : Yl (n + j) (eCall f es δ) Q := yl_bind h h2
theorem yl_o {n j : Nat} {f : D → D → M D} {a b : E} {δ : Dlt} {P : D → Prop} {Q : D → Prop} {R : D → Prop} (h : Yl n (a δ) P) (h2 : Yl j (b δ) Q) (h3 : ∀ x y, P x → Q y → ∃ d, f x y = pure d ∧ R d) : Yl (n + j) (eO f a b δ) R :=
  (yl_bind (j := j + 0) h fun x p => yl_bind h2 fun y q => by
    obtain ⟨d, e, r⟩ := h3 x y p q
    exact yl_eq e r).mono (by omega) fun _ q => q
theorem yl_for {α : Type} {n : Nat} {g : G} {s : S} {emb : α → D} {I : List α → Dlt → Prop} : ∀ {xs pre : List α} {δ : Dlt}, I pre δ → (∀ p x q δ, pre ++ xs = p ++ x :: q → I p δ → ∃ δ1, g (emb x) δ = some δ1 ∧ Yl n (s δ1) fun r => ∃ δ2, r = .nx δ2 ∧ I (p ++ [x]) δ2) →
    Yl (n * xs.length) (forGo g s (xs.map emb) δ) fun r => ∃ δ', r = .nx δ' ∧ I (pre ++ xs) δ'
  | [], pre, _, h, _ => yl_pure ⟨_, rfl, by rw [List.append_nil]; exact h⟩
  | x :: xs, pre, δ, h, hs => by
    obtain ⟨δ1, h1, h2⟩ := hs pre x xs δ rfl h
    have e : pre ++ x :: xs = pre ++ [x] ++ xs := by simp
    show Yl _ (liftG (g (emb x) δ) >>= _) _
    rw [h1]
    have q : Yl (n + n * xs.length) (s δ1 >>= fun r => match r with
      | .nx δ' => forGo g s (xs.map emb) δ'
      | .ct δ' => forGo g s (xs.map emb) δ'
      | .bk δ' => pure (.nx δ')
      | .rt d => pure (.rt d)) fun r => ∃ δ', r = .nx δ' ∧ I (pre ++ x :: xs) δ' := yl_bind h2 fun r ⟨δ2, er, i2⟩ => by
        subst er
        rw [e]
        exact yl_for (pre := pre ++ [x]) i2 fun p y q δ he => hs p y q δ (by rw [e]; exact he)
    refine q.mono ?_ fun _ z => z
    rw [List.length_cons, Nat.mul_add]
    omega
/-! ### numbers within 64 bits -/
theorem mul_small {i j : Int} (h1 : i.natAbs < 2 ^ 64) (h2 : j.natAbs < 2 ^ 64) : dMul (.int i) (.int j) = pure (.int (i * j)) := by
  have l : ∀ k : Int, k.natAbs < 2 ^ 64 → big k < 64 := fun k h => by
    unfold big
    by_cases h0 : k.natAbs = 0
    · rw [h0]; decide
    · exact (Nat.log2_lt h0).mpr h
  have a := l i h1
  have b := l j h2
  exact if_pos (show big i + big j < 1000000 by omega)
theorem fdiv_eq {i j : Int} (h : 0 < j) (h2 : j < 2 ^ 64) : dFdiv (.int i) (.int j) = pure (.int (i / j)) := by
  refine if_pos ⟨h, ?_⟩
  unfold big
  by_cases h0 : j.natAbs = 0
  · rw [h0]; decide
  · exact Nat.lt_trans ((Nat.log2_lt h0).mpr (show j.natAbs < 2 ^ 64 by omega)) (by decide)
end DL

/-! ## M9K76 -/
set_option autoImplicit false
set_option linter.all false
set_option maxRecDepth 100000
set_option maxHeartbeats 2000000
namespace K76
open PySem DL
/-! ### what is drawn -/
theorem hash_eq {s i : Int} (hs : 0 ≤ s) (hs2 : s < 2147483647) (hi : 0 ≤ i) (hi2 : i ≤ 2000000) : ∃ h, f_law_hash [.int s, .int i] = pure (.int h) ∧ 0 ≤ h ∧ h < 2147483647 := by
  have m1a : 0 ≤ (s * 1140671 + 27644437 * i * i + 131 * i + 19) % 2147483629 := Int.emod_nonneg _ (by decide)
  have m1b : (s * 1140671 + 27644437 * i * i + 131 * i + 19) % 2147483629 < 2147483629 := Int.emod_lt_of_pos _ (by decide)
  refine ⟨((((s * 1140671 + 27644437 * i * i + 131 * i + 19) % 2147483629 * ((s * 1140671 + 27644437 * i * i + 131 * i + 19) % 2147483629) + 62089 * i + 32416187) % 2147483587) * 48271) % 2147483647, ?_, Int.emod_nonneg _ (by decide), Int.emod_lt_of_pos _ (by decide)⟩
  generalize hm : (s * 1140671 + 27644437 * i * i + 131 * i + 19) % 2147483629 = m at m1a m1b
  have m2a : 0 ≤ (m * m + 62089 * i + 32416187) % 2147483587 := Int.emod_nonneg _ (by decide)
  have m2b : (m * m + 62089 * i + 32416187) % 2147483587 < 2147483587 := Int.emod_lt_of_pos _ (by decide)
  generalize hn : (m * m + 62089 * i + 32416187) % 2147483587 = n at m2a m2b
  refine fn_rt rfl ?_
  rw [seq_nx (asg_nx (δ' := [.val (.int s), .val (.int i), .val (.int m)]) (d := .int m) ?_ rfl), seq_nx (asg_nx (δ' := [.val (.int s), .val (.int i), .val (.int n)]) (d := .int n) ?_ rfl)]
  · exact ret_rt (o_eq (f_eq (o_eq rfl rfl (mul_small (by omega) (by omega))) rfl) rfl (mod_eq (by decide)))
  · rw [← hn]
    exact o_eq (f_eq (o_eq (o_eq (o_eq rfl rfl (mul_small (by omega) (by omega))) (o_eq rfl rfl (mul_small (by omega) (by omega))) rfl) rfl rfl) rfl) rfl (mod_eq (by decide))
  · rw [← hm]
    exact o_eq (f_eq (o_eq (o_eq (o_eq (o_eq rfl rfl (mul_small (by omega) (by omega))) (o_eq (o_eq rfl rfl (mul_small (by omega) (by omega))) rfl (mul_small (by omega) (by omega))) rfl) (o_eq rfl rfl (mul_small (by omega) (by omega))) rfl) rfl rfl) rfl) rfl (mod_eq (by decide))
theorem random_yl {b : Int} (h1 : 1 ≤ b) (h2 : b ≤ 1000) : Yl 1 (f_law_random [.gen, .int b]) fun d => ∃ r : Nat, d = .int r ∧ (r : Int) < b := by
  rintro k g ⟨x, s, c, rfl, hs1, hs2, hc1, hc2⟩ hk
  have bits : (Builtin.Int.intBits b : Int) / 30 = 0 := by
    have := PyProof.Rows.intBits_le (a := b) (k := 10) (by omega)
    omega
  have emb : ∀ y : Int, 0 ≤ y % b → y % b < b → ∃ r : Nat, D.int (y % b) = .int r ∧ (r : Int) < b := fun y q1 q2 => ⟨(y % b).toNat, by rw [Int.toNat_of_nonneg q1], by rw [Int.toNat_of_nonneg q1]; exact q2⟩
  by_cases hx : 0 < x
  · refine ⟨.int (x % b), [x / b, s, c], ?_, emb x (Int.emod_nonneg _ (by omega)) (Int.emod_lt_of_pos _ (by omega)), _, _, _, rfl, hs1, hs2, hc1, by omega⟩
    have g0 : Ok (eG 0 0 [.val .gen, .val (.int b), .no, .no]) [x, s, c] (.int x) [x, s, c] := rfl
    have g0' : Ok (eG 0 0 [.val .gen, .val (.int b), .val (.int (x % b)), .no]) [x, s, c] (.int x) [x, s, c] := rfl
    refine ok_bind.mpr ⟨.rt (.int (x % b)), _, ok_bind.mpr ⟨.rt (.int (x % b)), [x / b, s, c], ?_, ok_pure.mpr ⟨rfl, rfl⟩⟩, ok_pure.mpr ⟨rfl, rfl⟩⟩
    refine ok_bind.mpr ⟨.bl true, [x, s, c], ok_bind.mpr ⟨_, _, g0, ok_bind.mpr ⟨.int 0, _, ok_pure.mpr ⟨rfl, rfl⟩, ok_pure.mpr ⟨by rw [decide_eq_true hx], rfl⟩⟩⟩, ?_⟩
    refine ok_bind.mpr ⟨.nx [.val .gen, .val (.int b), .val (.int (x % b)), .no], [x, s, c], ok_bind.mpr ⟨.int (x % b), [x, s, c], ok_bind.mpr ⟨.int x, [x, s, c], ok_bind.mpr ⟨_, _, g0, ok_pure.mpr ⟨rfl, rfl⟩⟩, ok_bind.mpr ⟨.int b, [x, s, c], ok_pure.mpr ⟨rfl, rfl⟩, ?_⟩⟩, ok_bind.mpr ⟨_, _, ok_pure.mpr ⟨rfl, rfl⟩, ok_pure.mpr ⟨rfl, rfl⟩⟩⟩, ?_⟩
    · rw [mod_eq (by omega)]; exact ok_pure.mpr ⟨rfl, rfl⟩
    refine ok_bind.mpr ⟨.nx [.val .gen, .val (.int b), .val (.int (x % b)), .no], [x / b, s, c], ok_bind.mpr ⟨.int (x / b), [x, s, c], ok_bind.mpr ⟨_, _, g0', ok_bind.mpr ⟨.int b, [x, s, c], ok_pure.mpr ⟨rfl, rfl⟩, ?_⟩⟩, ok_bind.mpr ⟨(), [x / b, s, c], rfl, ok_pure.mpr ⟨rfl, rfl⟩⟩⟩, ok_pure.mpr ⟨rfl, rfl⟩⟩
    rw [fdiv_eq (by omega) (by omega)]; exact ok_pure.mpr ⟨rfl, rfl⟩
  · obtain ⟨h, eh, hh1, hh2⟩ := hash_eq (s := s) (i := c + 1) hs1 hs2 (by omega) (by omega)
    refine ⟨.int (h % b), [x, s, c + 1], ?_, emb h (Int.emod_nonneg _ (by omega)) (Int.emod_lt_of_pos _ (by omega)), _, _, _, rfl, hs1, hs2, by omega, by omega⟩
    have g0 : Ok (eG 0 0 [.val .gen, .val (.int b), .no, .no]) [x, s, c] (.int x) [x, s, c] := rfl
    refine ok_bind.mpr ⟨.rt (.int (h % b)), _, ok_bind.mpr ⟨.nx [.val .gen, .val (.int b), .no, .no], [x, s, c], ok_bind.mpr ⟨.bl false, [x, s, c], ok_bind.mpr ⟨_, _, g0, ok_bind.mpr ⟨.int 0, _, ok_pure.mpr ⟨rfl, rfl⟩, ok_pure.mpr ⟨by rw [decide_eq_false hx], rfl⟩⟩⟩, ok_pure.mpr ⟨rfl, rfl⟩⟩, ?_⟩, ok_pure.mpr ⟨rfl, rfl⟩⟩
    refine ok_bind.mpr ⟨.nx [.val .gen, .val (.int b), .val (.int 0), .no], [x, s, c], rfl, ?_⟩
    refine ok_bind.mpr ⟨.nx [.val .gen, .val (.int b), .val (.int h), .val (.int 0)], [x, s, c + 1], ok_bind.mpr ⟨[.int 0], [x, s, c], ?_, ?_⟩, ?_⟩
    · have e : xR (eO dAdd (eK (.int 1)) (eO dFdiv (eF dBits (eV 1)) (eK (.int 30)))) [.val .gen, .val (.int b), .val (.int 0), .no] = pure [.int 0] := by
        unfold xR
        rw [o_eq (x := .int 1) (y := .int 0) (d := .int 1) rfl (o_eq (x := .int (Builtin.Int.intBits b : Nat)) (y := .int 30) (f_eq (x := .int b) rfl rfl) rfl (by rw [fdiv_eq (by decide) (by decide), bits])) rfl, pure_bind]
        rfl
      rw [e]; exact ok_pure.mpr ⟨rfl, rfl⟩
    · have gs : Ok (eG 0 1 [.val .gen, .val (.int b), .val (.int 0), .val (.int 0)]) [x, s, c + 1] (.int s) [x, s, c + 1] := rfl
      have gc : Ok (eG 0 2 [.val .gen, .val (.int b), .val (.int 0), .val (.int 0)]) [x, s, c + 1] (.int (c + 1)) [x, s, c + 1] := rfl
      have gc0 : Ok (eG 0 2 [.val .gen, .val (.int b), .val (.int 0), .val (.int 0)]) [x, s, c] (.int c) [x, s, c] := rfl
      refine ok_bind.mpr ⟨[.val .gen, .val (.int b), .val (.int 0), .val (.int 0)], [x, s, c], rfl, ok_bind.mpr ⟨.nx [.val .gen, .val (.int b), .val (.int h), .val (.int 0)], [x, s, c + 1], ok_bind.mpr ⟨.nx [.val .gen, .val (.int b), .val (.int 0), .val (.int 0)], [x, s, c + 1], ok_bind.mpr ⟨.int (c + 1), [x, s, c], ok_bind.mpr ⟨_, _, gc0, ok_bind.mpr ⟨.int 1, _, ok_pure.mpr ⟨rfl, rfl⟩, ok_pure.mpr ⟨rfl, rfl⟩⟩⟩, rfl⟩, ?_⟩, ok_pure.mpr ⟨rfl, rfl⟩⟩⟩
      refine ok_bind.mpr ⟨.int h, [x, s, c + 1], ok_bind.mpr ⟨.int 0, [x, s, c + 1], ok_bind.mpr ⟨.int 0, [x, s, c + 1], ok_pure.mpr ⟨rfl, rfl⟩, ok_bind.mpr ⟨.int 2147483587, [x, s, c + 1], ok_pure.mpr ⟨rfl, rfl⟩, ?_⟩⟩, ok_bind.mpr ⟨.int h, [x, s, c + 1], ok_bind.mpr ⟨[.int s, .int (c + 1)], [x, s, c + 1], ok_bind.mpr ⟨_, _, gs, ok_bind.mpr ⟨[.int (c + 1)], _, ok_bind.mpr ⟨_, _, gc, ok_bind.mpr ⟨[], _, ok_pure.mpr ⟨rfl, rfl⟩, ok_pure.mpr ⟨rfl, rfl⟩⟩⟩, ok_pure.mpr ⟨rfl, rfl⟩⟩⟩, ?_⟩, ok_pure.mpr ⟨by rw [Int.zero_add], rfl⟩⟩⟩, ok_bind.mpr ⟨_, _, ok_pure.mpr ⟨rfl, rfl⟩, ok_pure.mpr ⟨rfl, rfl⟩⟩⟩
      · rw [mul_small (by decide) (by decide)]; exact ok_pure.mpr ⟨by simp, rfl⟩
      · rw [eh]; exact ok_pure.mpr ⟨rfl, rfl⟩
    · have e : sRet (eO dMod (eF dInt (eV 2)) (eV 1)) [.val .gen, .val (.int b), .val (.int h), .val (.int 0)] = pure (.rt (.int (h % b))) := ret_rt (o_eq (f_eq (x := .int h) rfl rfl) rfl (mod_eq (by omega)))
      show Ok (sRet (eO dMod (eF dInt (eV 2)) (eV 1)) [.val .gen, .val (.int b), .val (.int h), .val (.int 0)]) _ _ _
      rw [e]; exact ok_pure.mpr ⟨rfl, rfl⟩
end K76

/-! ## M10K76 -/
set_option autoImplicit false
set_option linter.all false
set_option maxRecDepth 100000
set_option maxHeartbeats 2000000
namespace K76
open PySem DL
theorem dNe_nil {xs : List D} (h : ∀ d ∈ xs, d.cl 59 = true) : dNe (.lst xs) (.lst []) = pure (.bl (!decide (xs = []))) := ne_nil h
theorem erase_perm {α : Type} : ∀ (l : List α) (m : Nat) (h : m < l.length), (l[m] :: l.eraseIdx m).Perm l
  | [], _, h => by simp at h
  | x :: l, 0, _ => .refl _
  | x :: l, m + 1, h => by
    have hm : m < l.length := by simpa using h
    have ih := erase_perm l m hm
    show (l[m] :: x :: l.eraseIdx m).Perm (x :: l)
    exact (List.Perm.swap x l[m] _).trans (ih.cons x)
/-- the loop of _law_shuffled -/
theorem shuffle_loop (things : D) : ∀ (fuel : Nat) (left found : List D), left.length < fuel → left.length + found.length ≤ 1000 → (∀ d ∈ left, d.cl 59 = true) →
    Yl left.length (whGo (eO dNe (eV 2) (eLst (esN))) (sAppPop 3 2 (eCall f_law_random (esC (eW 0) (esC (eF dLen (eV 2)) (esN))))) fuel [.val .gen, .val things, .own left, .own found])
      fun r => ∃ ys, r = .nx [.val .gen, .val things, .own [], .own ys] ∧ ys.Perm (found ++ left)
  | 0, _, _, h, _, _ => by omega
  | fuel + 1, [], found, _, _, _ => by
    have e : whGo (eO dNe (eV 2) (eLst (esN))) (sAppPop 3 2 (eCall f_law_random (esC (eW 0) (esC (eF dLen (eV 2)) (esN))))) (fuel + 1) [.val .gen, .val things, .own [], .own found] = pure (.nx [.val .gen, .val things, .own [], .own found]) := by
      show (eO dNe (eV 2) (eLst esN) _ >>= _) = _
      rw [o_eq (x := .lst []) (y := .lst []) rfl (lst_eq es_nil (by simp)) (dNe_nil (xs := []) (by simp)), pure_bind]
      rfl
    exact yl_eq e ⟨found, rfl, by simp⟩
  | fuel + 1, x :: left, found, hf, hl, hc => by
    rw [List.length_cons] at hf hl
    have e1 : eO dNe (eV 2) (eLst (esN)) [.val .gen, .val things, .own (x :: left), .own found] = pure (.bl true) := o_eq (x := .lst (x :: left)) (y := .lst []) rfl (lst_eq es_nil (by simp)) (by rw [dNe_nil hc]; rfl)
    have pop : Yl 1 (sAppPop 3 2 (eCall f_law_random (esC (eW 0) (esC (eF dLen (eV 2)) (esN)))) [.val .gen, .val things, .own (x :: left), .own found]) fun r => ∃ (m : Nat) (y : D), m < (x :: left).length ∧ (x :: left)[m]? = some y ∧ r = .nx [.val .gen, .val things, .own ((x :: left).eraseIdx m), .own (found ++ [y])] := by
      have q := yl_call (n := 0) (j := 1) (f := f_law_random) (es := esC (eW 0) (esC (eF dLen (eV 2)) (esN))) (δ := [.val .gen, .val things, .own (x :: left), .own found]) (P := fun ds => ds = [.gen, .int ((x :: left).length : Nat)]) (Q := fun d => ∃ r : Nat, d = .int r ∧ (r : Int) < ((x :: left).length : Nat)) (yl_eq rfl rfl) (fun ds e => by
        subst e
        exact random_yl (by rw [List.length_cons]; omega) (by rw [List.length_cons]; omega))
      refine (yl_bind (j := 0) q fun d ⟨m, ed, hm⟩ => ?_).mono (by omega) fun _ z => z
      subst ed
      have hm2 : m < (x :: left).length := by omega
      have e2 : (x :: left)[m]? = some (x :: left)[m] := List.getElem?_eq_getElem hm2
      refine yl_eq ?_ ⟨m, (x :: left)[m], hm2, e2, rfl⟩
      simp only [List.getElem?_cons_succ, List.getElem?_cons_zero, place_nat hm2, e2]
      have ll : (x :: left).length ≤ 1001 := by rw [List.length_cons]; omega
      rw [if_pos ⟨lim_ok (by omega), by omega, by omega, by decide⟩]
      rfl
    have q : Yl (1 + left.length) (sAppPop 3 2 (eCall f_law_random (esC (eW 0) (esC (eF dLen (eV 2)) (esN)))) [.val .gen, .val things, .own (x :: left), .own found] >>= fun r => match r with
      | .nx δ' => whGo (eO dNe (eV 2) (eLst (esN))) (sAppPop 3 2 (eCall f_law_random (esC (eW 0) (esC (eF dLen (eV 2)) (esN))))) fuel δ'
      | .ct δ' => whGo (eO dNe (eV 2) (eLst (esN))) (sAppPop 3 2 (eCall f_law_random (esC (eW 0) (esC (eF dLen (eV 2)) (esN))))) fuel δ'
      | .bk δ' => pure (.nx δ')
      | .rt d => pure (.rt d)) fun r => ∃ ys, r = .nx [.val .gen, .val things, .own [], .own ys] ∧ ys.Perm (found ++ x :: left) := yl_bind pop fun r ⟨m, y, hm, e2, er⟩ => by
        subst er
        obtain ⟨hm', e3⟩ := List.getElem?_eq_some_iff.mp e2
        have le : ((x :: left).eraseIdx m).length = left.length := by
          rw [List.length_eraseIdx_of_lt hm]
          simp
        have hp : (y :: (x :: left).eraseIdx m).Perm (x :: left) := by
          rw [← e3]
          exact erase_perm _ m hm'
        have ih := shuffle_loop things fuel ((x :: left).eraseIdx m) (found ++ [y]) (by rw [le]; omega) (by rw [le]; simp; omega) (fun d hd => hc d (List.mem_of_mem_eraseIdx hd))
        rw [le] at ih
        refine ih.mono (Nat.le_refl _) fun r ⟨ys, e, p⟩ => ⟨ys, e, p.trans ?_⟩
        rw [List.append_assoc]
        exact List.Perm.append_left found hp
    refine Yl.mono (n := 1 + left.length) ?_ (by rw [List.length_cons]; omega) fun _ z => z
    show Yl _ (eO dNe (eV 2) (eLst esN) _ >>= _) _
    rw [e1, pure_bind]
    exact q
/-- the law's shuffle -/
theorem shuffled_yl {xs : List D} (hl : xs.length ≤ 900) (hc : ∀ d ∈ xs, d.cl 59 = true) : Yl xs.length (f_law_shuffled [.gen, .lst xs]) fun d => ∃ ys, d = .lst ys ∧ ys.Perm xs := by
  refine yl_fn rfl ?_
  have e0 : sParOO 2 3 (eF dList (eV 1)) (eLst (esN)) (startD 4 [.gen, .lst xs]) = pure (.nx [.val .gen, .val (.lst xs), .own xs, .own []]) := by
    unfold sParOO
    rw [f_eq (h := dList) (x := .lst xs) (d := .lst xs) rfl rfl, pure_bind]
    show (eLst esN _ >>= _) = _
    rw [lst_eq es_nil (by simp), pure_bind]
    rfl
  refine yl_seq0 e0 ?_
  refine (yl_seq (j := 0) (P := fun δ => ∃ ys, δ = [.val .gen, .val (.lst xs), .own [], .own ys] ∧ ys.Perm xs) ((shuffle_loop (.lst xs) 1000 xs [] (by omega) (by simp; omega) hc).mono (Nat.le_refl _) fun r ⟨ys, e, p⟩ => ⟨_, e, ys, rfl, by simpa using p⟩) fun δ ⟨ys, e, p⟩ => ?_).mono (by omega) fun _ z => z
  subst e
  exact yl_eq (a := .rt (.lst ys)) rfl ⟨_, rfl, ys, rfl, p⟩
end K76

/-! ## M11K76 -/
set_option autoImplicit false
set_option linter.all false
set_option maxRecDepth 100000
set_option maxHeartbeats 2000000
namespace K76
open PySem DL
def toI : D → Int
  | .int i => i
  | _ => 0
theorem perm_ints {ys : List D} {ns : List Int} (p : ys.Perm (ns.map D.int)) : ∃ zs : List Int, zs.Perm ns ∧ ys = zs.map .int := by
  have e : ys = (ys.map toI).map D.int := by
    rw [List.map_map]
    have h : ∀ d ∈ ys, (D.int ∘ toI) d = d := fun d hd => by
      have hd := p.mem_iff.mp hd
      rw [List.mem_map] at hd
      obtain ⟨i, _, rfl⟩ := hd
      rfl
    rw [List.map_congr_left h, List.map_id'']
    exact fun _ => rfl
  refine ⟨ys.map toI, ?_, e⟩
  have q := p.map toI
  rw [List.map_map] at q
  have e2 : ns.map (toI ∘ D.int) = ns := by
    rw [List.map_id'']
    exact fun _ => rfl
  rw [e2] at q
  exact q
theorem cut_take {α : Type} (xs : List α) (n : Nat) : cut xs none (some (n : Int)) = xs.take n := by
  unfold cut cutEnd
  simp only [List.drop_zero, Nat.sub_zero]
  rw [if_neg (by omega), Int.toNat_natCast]
  by_cases h : n ≤ xs.length
  · rw [Nat.min_eq_left h]
  · rw [Nat.min_eq_right (by omega), List.take_of_length_le (Nat.le_refl _), List.take_of_length_le (by omega)]
theorem sort_strict {c : List Int} (h : c.Nodup) : (sortI c).Pairwise (· < ·) := by
  have h1 := sortI_sorted c
  have h2 : (sortI c).Nodup := (sortI_perm c).nodup_iff.mpr h
  exact (h1.and h2).imp fun {a b} ⟨q1, q2⟩ => by omega
def eFig : E := eF dSorted (eCut (eCall f_law_shuffled (esC (eW 0) (esC (eLst (esC (eK (.int 0)) (esC (eK (.int 1)) (esC (eK (.int 2)) (esC (eK (.int 3)) (esC (eK (.int 4)) (esC (eK (.int 5)) (esC (eK (.int 6)) (esC (eK (.int 7)) (esC (eK (.int 8)) (esC (eK (.int 9)) (esN)))))))))))) (esN)))) (eNo) (eAt (eO dAdd (eK (.int 1)) (eCall f_law_random (esC (eW 0) (esC (eK (.int 5)) (esN)))))))
def Gd (c : List Int) : Prop := c ≠ [] ∧ (∀ x ∈ c, 0 ≤ x ∧ x < 10) ∧ c.Pairwise (· < ·)
theorem fig_yl {δ : Dlt} (h0 : eW 0 δ = pure .gen) : Yl 11 (eFig δ) fun d => ∃ c, d = codeD c ∧ Gd c ∧ c.length ≤ 5 := by
  have a1 : (esC (eW 0) (esC (eLst (esC (eK (.int 0)) (esC (eK (.int 1)) (esC (eK (.int 2)) (esC (eK (.int 3)) (esC (eK (.int 4)) (esC (eK (.int 5)) (esC (eK (.int 6)) (esC (eK (.int 7)) (esC (eK (.int 8)) (esC (eK (.int 9)) (esN)))))))))))) (esN))) δ = pure [.gen, codeD [0, 1, 2, 3, 4, 5, 6, 7, 8, 9]] :=
    es_cons h0 (es_cons (lst_eq (xs := [.int 0, .int 1, .int 2, .int 3, .int 4, .int 5, .int 6, .int 7, .int 8, .int 9]) rfl (by simp)) es_nil)
  have sh := yl_call (n := 0) (j := 10) (f := f_law_shuffled) (P := fun ds => ds = [.gen, codeD [0, 1, 2, 3, 4, 5, 6, 7, 8, 9]]) (Q := fun d => ∃ zs : List Int, d = codeD zs ∧ zs.Perm [0, 1, 2, 3, 4, 5, 6, 7, 8, 9]) (yl_eq a1 rfl) (fun ds e => by
    subst e
    refine (shuffled_yl (xs := [0, 1, 2, 3, 4, 5, 6, 7, 8, 9].map D.int) (by simp) (fun d hd => ?_)).mono (by simp) fun d ⟨ys, e, p⟩ => ?_
    · rw [List.mem_map] at hd
      obtain ⟨i, hi, rfl⟩ := hd
      have := small_of (i := i) (by simp at hi; omega)
      unfold smallI at this
      simpa [D.cl] using this
    · obtain ⟨zs, pz, rfl⟩ := perm_ints p
      exact ⟨zs, e, pz⟩)
  have rn := yl_call (n := 0) (j := 1) (f := f_law_random) (es := esC (eW 0) (esC (eK (.int 5)) (esN))) (δ := δ) (P := fun ds => ds = [.gen, .int 5]) (Q := fun d => ∃ r : Nat, d = .int r ∧ (r : Int) < 5) (yl_eq (es_cons h0 (es_cons rfl es_nil)) rfl) (fun ds e => by
    subst e
    exact random_yl (by decide) (by decide))
  refine (yl_bind (n := 0 + 10 + 1) (j := 0) (P := fun d => ∃ c : List Int, d = codeD c ∧ c.Nodup ∧ c ≠ [] ∧ c.length ≤ 5 ∧ ∀ x ∈ c, 0 ≤ x ∧ x < 10) ?_ fun d ⟨c, e, h1, h2, h3, h4⟩ => ?_).mono (by omega) fun _ z => z
  · refine (yl_bind sh fun d ⟨zs, e, p⟩ => ?_).mono (Nat.le_refl _) fun _ z => z
    subst e
    refine (yl_bind (n := 0) (j := 1) (P := fun o : Option Int => o = none) (yl_pure rfl) fun o eo => ?_).mono (by omega) fun _ z => z
    subst eo
    refine (yl_bind (n := 1) (j := 0) (P := fun o : Option Int => ∃ r : Nat, o = some ((1 + r : Nat) : Int) ∧ r < 5) ?_ fun o ⟨r, eo, hr⟩ => ?_).mono (by omega) fun _ z => z
    · have q : Yl 1 (eO dAdd (eK (.int 1)) (eCall f_law_random (esC (eW 0) (esC (eK (.int 5)) (esN)))) δ) fun d => ∃ r : Nat, d = .int ((1 + r : Nat) : Int) ∧ r < 5 := (yl_o (n := 0) (P := fun d => d = .int 1) (yl_eq rfl rfl) rn fun x y ex ey => by
        obtain ⟨r, ey, hr⟩ := ey
        subst ex ey
        exact ⟨.int ((1 + r : Nat) : Int), rfl, r, rfl, by omega⟩).mono (by omega) fun _ z => z
      refine (yl_bind (j := 0) q fun d ⟨r, e, hr⟩ => ?_).mono (by omega) fun _ z => z
      subst e
      exact yl_pure ⟨r, rfl, hr⟩
    · subst eo
      have zl : (zs.take (1 + r)).length ≤ 5 := by rw [List.length_take]; omega
      refine yl_eq (a := codeD (zs.take (1 + r))) ?_ ⟨zs.take (1 + r), rfl, ?_, ?_, zl, fun x hx => ?_⟩
      · show (pure (D.lst (cut (zs.map D.int) none (some ((1 + r : Nat) : Int)))) : M D) = _
        rw [cut_take]
        unfold codeD
        rw [List.map_take]
      · exact List.Nodup.sublist (List.take_sublist _ _) (p.nodup_iff.mpr (by decide))
      · have hz : zs.length = 10 := p.length_eq
        intro z
        have l : (zs.take (1 + r)).length = 0 := by rw [z]; rfl
        rw [List.length_take, hz] at l
        omega
      · have := p.mem_iff.mp (List.mem_of_mem_take hx)
        simp at this
        omega
  · subst e
    refine yl_eq (sorted_ints fun i hi => digit_small (h4 i hi)) ⟨sortI c, rfl, ⟨fun z => h2 ?_, fun x hx => h4 x ((sortI_perm c).mem_iff.mp hx), sort_strict h1⟩, by rw [(sortI_perm c).length_eq]; exact h3⟩
    have := (sortI_perm c).length_eq
    rw [z] at this
    exact List.length_eq_zero_iff.mp this.symm
end K76

/-! ## M12K76 -/
set_option autoImplicit false
set_option linter.all false
set_option maxRecDepth 100000
set_option maxHeartbeats 2000000
namespace K76
open PySem DL
theorem le_int (i j : Int) : dLe (.int i) (.int j) = pure (.bl (decide (i ≤ j))) := rfl
theorem wheels_yl : Yl 45 (f_law_wheels [.gen, .int 4, .int 40]) fun d => ∃ W, d = codesD W ∧ Wh W := by
  refine yl_fn rfl ?_
  have e0 : sPar 3 4 (eLst (esN)) (eK (.int 1)) (startD 7 [.gen, .int 4, .int 40]) = pure (.nx [.val .gen, .val (.int 4), .val (.int 40), .val (codesD []), .val (.int ((szC [] : Nat) : Int)), .no, .no]) := by
    unfold sPar
    rw [lst_eq es_nil (by simp), pure_bind]
    rfl
  refine yl_seq0 e0 ?_
  have rn := yl_call (n := 0) (j := 1) (f := f_law_random) (es := esC (eW 0) (esC (eW 1) (esN))) (δ := [.val .gen, .val (.int 4), .val (.int 40), .val (codesD []), .val (.int ((szC [] : Nat) : Int)), .no, .no]) (P := fun ds => ds = [.gen, .int 4]) (Q := fun d => ∃ r : Nat, d = .int r ∧ (r : Int) < 4) (yl_eq rfl rfl) (fun ds e => by
    subst e
    exact random_yl (by decide) (by decide))
  have src : Yl 1 (xR (eO dAdd (eK (.int 1)) (eCall f_law_random (esC (eW 0) (esC (eW 1) (esN))))) [.val .gen, .val (.int 4), .val (.int 40), .val (codesD []), .val (.int ((szC [] : Nat) : Int)), .no, .no]) fun xs => ∃ r : Nat, xs = (List.range (1 + r)).map (fun k : Nat => D.int (k : Nat)) ∧ r < 4 := by
    have q : Yl 1 (eO dAdd (eK (.int 1)) (eCall f_law_random (esC (eW 0) (esC (eW 1) (esN)))) [.val .gen, .val (.int 4), .val (.int 40), .val (codesD []), .val (.int ((szC [] : Nat) : Int)), .no, .no]) fun d => ∃ r : Nat, d = .int ((1 + r : Nat) : Int) ∧ r < 4 := (yl_o (n := 0) (P := fun d => d = .int 1) (yl_eq rfl rfl) rn fun x y ex ey => by
        obtain ⟨r, ey, hr⟩ := ey
        subst ex ey
        exact ⟨.int ((1 + r : Nat) : Int), rfl, r, rfl, by omega⟩).mono (by omega) fun _ z => z
    refine (yl_bind (j := 0) q fun d ⟨r, e, hr⟩ => ?_).mono (by omega) fun _ z => z
    subst e
    refine yl_eq ?_ ⟨r, rfl, hr⟩
    show (if -1000000 < ((1 + r : Nat) : Int) ∧ ((1 + r : Nat) : Int) < 1000000 then (pure ((List.range ((1 + r : Nat) : Int).toNat).map fun k => D.int (k : Nat)) : M (List D)) else stuck) = _
    rw [if_pos ⟨by omega, by omega⟩, Int.toNat_natCast]
  let I : List Nat → Dlt → Prop := fun p δ => ∃ F a5 a6, δ = [.val .gen, .val (.int 4), .val (.int 40), .val (codesD F), .val (.int ((szC F : Nat) : Int)), a5, a6] ∧ F.length ≤ p.length ∧ (∀ c ∈ F, Gd c) ∧ szC F ≤ 40
  have body : ∀ (p : List Nat) (x : Nat) (δ : Dlt), p.length < 5 → I p δ → ∃ δ1, gN 5 (.int (x : Nat)) δ = some δ1 ∧ Yl 11 ((sSeq (sAsg (gN 6) eFig) (sIf (eO dLe (eO dMul (eV 4) (eF dLen (eV 6))) (eV 2)) (sPar 3 4 (eO dAdd (eV 3) (eLst (esC (eW 6) (esN)))) (eO dMul (eV 4) (eF dLen (eV 6)))) (sSkip))) δ1) fun r => ∃ δ2, r = .nx δ2 ∧ I (p ++ [x]) δ2 := fun p x δ hp ⟨F, a5, a6, e, h1, h2, h3⟩ => by
    subst e
    refine ⟨[.val .gen, .val (.int 4), .val (.int 40), .val (codesD F), .val (.int ((szC F : Nat) : Int)), .val (.int (x : Nat)), a6], rfl, ?_⟩
    refine (yl_seq (j := 0) (P := fun δ => ∃ c, δ = [.val .gen, .val (.int 4), .val (.int 40), .val (codesD F), .val (.int ((szC F : Nat) : Int)), .val (.int (x : Nat)), .val (codeD c)] ∧ Gd c ∧ c.length ≤ 5) (yl_asg (fig_yl rfl) fun d ⟨c, e, g, l⟩ => ?_) fun δ ⟨c, e, g, l⟩ => ?_).mono (by omega) fun _ z => z
    · subst e
      exact ⟨_, rfl, c, rfl, g, l⟩
    · subst e
      have em : eO dMul (eV 4) (eF dLen (eV 6)) [.val .gen, .val (.int 4), .val (.int 40), .val (codesD F), .val (.int ((szC F : Nat) : Int)), .val (.int (x : Nat)), .val (codeD c)] = pure (.int ((szC (F ++ [c]) : Nat) : Int)) := by
        refine o_eq (x := .int ((szC F : Nat) : Int)) (y := .int (c.length : Nat)) rfl (f_eq (x := codeD c) rfl (by unfold codeD; rw [len_lst, List.length_map])) ?_
        rw [mul_small (by omega) (by omega), szC_app]
        simp [szC]
      have et : eO dLe (eO dMul (eV 4) (eF dLen (eV 6))) (eV 2) [.val .gen, .val (.int 4), .val (.int 40), .val (codesD F), .val (.int ((szC F : Nat) : Int)), .val (.int (x : Nat)), .val (codeD c)] = pure (.bl (decide (szC (F ++ [c]) ≤ 40))) := by
        refine o_eq em (y := .int 40) rfl ?_
        rw [le_int]
        congr 2
        exact decide_eq_decide.mpr (by omega)
      by_cases hz : szC (F ++ [c]) ≤ 40
      · rw [decide_eq_true hz] at et
        rw [if_t et]
        have ea : eO dAdd (eV 3) (eLst (esC (eW 6) (esN))) [.val .gen, .val (.int 4), .val (.int 40), .val (codesD F), .val (.int ((szC F : Nat) : Int)), .val (.int (x : Nat)), .val (codeD c)] = pure (codesD (F ++ [c])) := by
          refine o_eq (x := codesD F) (y := .lst [codeD c]) rfl (lst_eq (es_cons rfl es_nil) (by simp)) ?_
          unfold codesD
          rw [cat_eq (by simp only [List.length_map, List.length_cons, List.length_nil]; omega)]
          simp
        have ep : sPar 3 4 (eO dAdd (eV 3) (eLst (esC (eW 6) (esN)))) (eO dMul (eV 4) (eF dLen (eV 6))) [.val .gen, .val (.int 4), .val (.int 40), .val (codesD F), .val (.int ((szC F : Nat) : Int)), .val (.int (x : Nat)), .val (codeD c)] = pure (.nx [.val .gen, .val (.int 4), .val (.int 40), .val (codesD (F ++ [c])), .val (.int ((szC (F ++ [c]) : Nat) : Int)), .val (.int (x : Nat)), .val (codeD c)]) := by
          unfold sPar
          rw [ea, pure_bind, em, pure_bind]
          rfl
        refine yl_eq ep ⟨_, rfl, F ++ [c], _, _, rfl, by simp; omega, fun d hd => ?_, hz⟩
        rw [List.mem_append] at hd
        rcases hd with hd | hd
        · exact h2 d hd
        · have : d = c := by simpa using hd
          rw [this]; exact g
      · rw [decide_eq_false hz] at et
        rw [if_f et]
        exact yl_eq rfl ⟨_, rfl, F, _, _, rfl, by simp; omega, h2, h3⟩
  have loop : Yl 45 (sFor (gN 5) (xR (eO dAdd (eK (.int 1)) (eCall f_law_random (esC (eW 0) (esC (eW 1) (esN)))))) (sSeq (sAsg (gN 6) eFig) (sIf (eO dLe (eO dMul (eV 4) (eF dLen (eV 6))) (eV 2)) (sPar 3 4 (eO dAdd (eV 3) (eLst (esC (eW 6) (esN)))) (eO dMul (eV 4) (eF dLen (eV 6)))) (sSkip))) [.val .gen, .val (.int 4), .val (.int 40), .val (codesD []), .val (.int ((szC [] : Nat) : Int)), .no, .no]) fun r => ∃ δ, r = .nx δ ∧ ∃ F a5 a6, δ = [.val .gen, .val (.int 4), .val (.int 40), .val (codesD F), .val (.int ((szC F : Nat) : Int)), a5, a6] ∧ F.length ≤ 4 ∧ (∀ c ∈ F, Gd c) ∧ szC F ≤ 40 := by
    refine (yl_bind (j := 44) src fun xs ⟨r, e, hr⟩ => ?_).mono (by omega) fun _ z => z
    subst e
    refine (yl_for (n := 11) (I := I) (xs := List.range (1 + r)) (pre := []) ⟨[], .no, .no, rfl, by simp, by simp, by simp [szC]⟩ fun p x q δ e2 hI => body p x δ ?_ hI).mono ?_ fun z hz => ?_
    · rw [List.nil_append] at e2
      have := congrArg List.length e2
      rw [List.length_range, List.length_append, List.length_cons] at this
      omega
    · rw [List.length_range]; omega
    · obtain ⟨δ, e3, F, a5, a6, e4, h1, h2, h3⟩ := hz
      rw [List.nil_append, List.length_range] at h1
      exact ⟨δ, e3, F, a5, a6, e4, by omega, h2, h3⟩
  refine (yl_seq (j := 0) loop fun δ ⟨F, a5, a6, e, h1, h2, h3⟩ => ?_).mono (by omega) fun _ z => z
  subst e
  have sm : ∀ c ∈ F, ∀ i ∈ c, smallI i := fun c hc i hi => digit_small ((h2 c hc).2.1 i hi)
  have et : eO dNe (eV 3) (eLst (esN)) [.val .gen, .val (.int 4), .val (.int 40), .val (codesD F), .val (.int ((szC F : Nat) : Int)), a5, a6] = pure (.bl (!decide (F = []))) :=
    o_eq (x := codesD F) (y := codesD []) rfl (lst_eq es_nil (by simp)) (ne_codes sm (by simp))
  refine yl_ret ?_
  by_cases hF : F = []
  · rw [decide_eq_true hF] at et
    rw [ife_f et]
    refine yl_eq (a := codesD [[7]]) (lst_eq (es_cons (lst_eq (es_cons rfl es_nil) (by simp)) es_nil) (by simp)) ⟨[[7]], rfl, ⟨by simp, fun c hc => ?_, by simp, by simp [szC]⟩⟩
    have : c = [7] := by simpa using hc
    subst this
    exact ⟨by simp, by simp, by simp⟩
  · rw [decide_eq_false hF] at et
    rw [ife_t et]
    exact yl_eq rfl ⟨F, rfl, ⟨hF, h2, h1, h3⟩⟩
end K76

/-! ## M13K76 -/
set_option autoImplicit false
set_option linter.all false
set_option maxRecDepth 100000
set_option maxHeartbeats 2000000
namespace K76
open PySem DL
/-! ### values that are alike to both -/
structure Good (W : List (List Int)) (v : D) : Prop where
  row : ∃ b, f_is_turn_row [codesD W, v] = pure (.bl b) ∧ f_law_is_row [codesD W, v] = pure (.bl b)
  txt : ∃ s, dRepr v = pure (.str s)
  nb : unB v = v ∧ dUnB v = pure v
theorem codes_txt {W : List (List Int)} (h : Wh W) {cs : List (List Int)} (hc : ∀ c ∈ cs, c ∈ allC W) (hl : cs.length ≤ 100) : ∃ s, dRepr (codesD cs) = pure (.str s) := by
  have hf := h.few
  refine ⟨_, repr_cl (cl_codes (n := 58) (sorted_small h hc)) ?_⟩
  have := shown_len (xs := cs.map codeD) (n := 3 * W.length) (fun d hd => by
    rw [List.mem_map] at hd
    obtain ⟨c, hd, rfl⟩ := hd
    rw [shown_code (h.digits (hc c hd)), (allC_in W c (hc c hd)).1]
    have : c ≠ [] := fun e => by
      have l := (allC_in W c (hc c hd)).1
      rw [e] at l
      exact h.ne (List.length_eq_zero_iff.mp l.symm)
    rw [if_neg this])
  rw [show codesD cs = D.lst (cs.map codeD) from rfl, this]
  split
  · decide
  · rw [List.length_map]
    have : (3 * W.length + 2) * cs.length ≤ 14 * 100 := Nat.mul_le_mul (by omega) hl
    omega
theorem good_codes {W : List (List Int)} (h : Wh W) {cs : List (List Int)} (hc : ∀ c ∈ cs, c ∈ allC W) (hl : cs.length ≤ 100) : Good W (codesD cs) :=
  ⟨⟨_, row_good h hc (by omega)⟩, codes_txt h hc hl, rfl, rfl⟩
theorem good_no {W : List (List Int)} (h : Wh W) {v : D} {t : String} (ht : v.ty = some t) (hi : isTy v "list" = false) (ht2 : ∃ s, dRepr v = pure (.str s)) (hn : unB v = v ∧ dUnB v = pure v) : Good W v :=
  ⟨⟨_, row_no h ht hi⟩, ht2, hn⟩
/-- a text's length, bounded -/
theorem list_le {xs : List D} {n : Nat} (h : ∀ d ∈ xs, d.py.shown.length ≤ n) : (D.lst xs).py.shown.length ≤ (n + 2) * xs.length + 2 := by
  rw [shown_lst, shown_pys]
  cases xs with
  | nil => rw [List.map_nil, listText_nil]; exact Nat.le_add_left 2 _
  | cons x xs =>
    rw [List.map_cons, listLen]
    have hx := h x List.mem_cons_self
    have e : ((xs.map fun d => d.py.shown).map fun t => t.length + 2).sum ≤ (n + 2) * xs.length := by
      have h' : ∀ d ∈ xs, d.py.shown.length ≤ n := fun d hd => h d (List.mem_cons_of_mem _ hd)
      clear h
      induction xs with
      | nil => simp
      | cons y ys ih =>
        have := ih fun d hd => h' d (List.mem_cons_of_mem _ hd)
        have hy := h' y List.mem_cons_self
        rw [List.map_cons, List.map_cons, List.sum_cons, List.length_cons, Nat.mul_add]
        omega
    rw [List.length_cons, Nat.mul_add]
    omega
theorem piled_le {n : Nat} : ∀ {ts : List Str}, (∀ t ∈ ts, t.length ≤ n) → piled ts ≤ (n + 2) * ts.length
  | [], _ => by simp [piled]
  | t :: ts, h => by
    have ih := piled_le (n := n) (ts := ts) fun u hu => h u (List.mem_cons_of_mem _ hu)
    have ht := h t List.mem_cons_self
    have e : piled (t :: ts) = t.length + 2 + piled ts := by simp [piled] <;> omega
    rw [e, List.length_cons, Nat.mul_add]
    omega
theorem tup_le {xs : List D} {n : Nat} (h : ∀ d ∈ xs, d.py.shown.length ≤ n) : (D.tup xs).py.shown.length ≤ (n + 2) * xs.length + 3 := by
  have e0 : (D.tup xs).py.shown = tupleText (PyData.shownAll (pys xs)) := by
    show PyData.shown (.tuple (pys xs)) = _
    simp only [PyData.shown]
  rw [e0, shown_pys]
  unfold tupleText
  rw [strLen_append, strLen_append]
  have e1 : (("(" : String) : Str).length = 1 := rfl
  have e2 : (((if (xs.map fun d => d.py.shown).length == 1 then ",)" else ")" : String)) : Str).length ≤ 2 := by
    split <;> decide
  rw [e1]
  cases xs with
  | nil =>
    have e3 : (Str.join ", " (([] : List D).map fun d => d.py.shown)).length = 0 := rfl
    rw [e3]
    omega
  | cons x xs =>
    have h3 := join_length_add ((x :: xs).map fun d => d.py.shown) (by simp)
    have h4 := piled_le (n := n) (ts := (x :: xs).map fun d => d.py.shown) (fun t ht => by
      rw [List.mem_map] at ht
      obtain ⟨d, hd, rfl⟩ := ht
      exact h d hd)
    rw [List.length_map] at h4
    omega
/-- an element that is no code, and its text -/
structure Odd (W : List (List Int)) (d : D) : Prop where
  el : El W d false
  cl : d.cl 59 = true
  txt : d.py.shown.length ≤ 1000
theorem code_txt {c : List Int} (h : ∀ x ∈ c, 0 ≤ x ∧ x < 10) (hl : c.length ≤ 100) : (codeD c).py.shown.length ≤ 1000 := by
  rw [shown_code h]
  split <;> omega
theorem good_mix {W : List (List Int)} (h : Wh W) {p q : List (List Int)} {d : D} (hp : ∀ c ∈ p, c ∈ allC W) (hq : ∀ c ∈ q, c ∈ allC W) (hd : Odd W d) (lp : p.length ≤ 100) (lq : q.length ≤ 100) : Good W (.lst (p.map codeD ++ [d] ++ q.map codeD)) := by
  have hf := h.few
  have el : ∀ c ∈ allC W, El W (codeD c) true := fun c hc => .code hc
  have e : p.map codeD ++ [d] ++ q.map codeD = ((p.map fun c => (codeD c, true)) ++ [(d, false)] ++ (q.map fun c => (codeD c, true))).map (·.1) := by
    simp [List.map_map, Function.comp_def]
  have big : ∀ x ∈ p.map codeD ++ [d] ++ q.map codeD, x.cl 59 = true ∧ x.py.shown.length ≤ 1000 := fun x hx => by
    have code : ∀ c ∈ allC W, (codeD c).cl 59 = true ∧ (codeD c).py.shown.length ≤ 1000 := fun c hc =>
      ⟨cl_code (n := 58) fun i hi => digit_small (h.digits hc i hi), code_txt (h.digits hc) (by rw [(allC_in W c hc).1]; omega)⟩
    rw [List.mem_append, List.mem_append] at hx
    rcases hx with (hx | hx) | hx
    · rw [List.mem_map] at hx
      obtain ⟨c, hx, rfl⟩ := hx
      exact code c (hp c hx)
    · have : x = d := by simpa using hx
      rw [this]; exact ⟨hd.cl, hd.txt⟩
    · rw [List.mem_map] at hx
      obtain ⟨c, hx, rfl⟩ := hx
      exact code c (hq c hx)
  refine ⟨⟨false, ?_⟩, ⟨_, repr_cl ?_ ?_⟩, rfl, rfl⟩
  · rw [e]
    refine row_bad h (fun x hx => ?_) ⟨(d, false), by simp, rfl⟩ (by simp; omega)
    rw [List.mem_append, List.mem_append] at hx
    rcases hx with (hx | hx) | hx
    · rw [List.mem_map] at hx
      obtain ⟨c, hx, rfl⟩ := hx
      exact el c (hp c hx)
    · have : x = (d, false) := by simpa using hx
      rw [this]; exact hd.el
    · rw [List.mem_map] at hx
      obtain ⟨c, hx, rfl⟩ := hx
      exact el c (hq c hx)
  · exact List.all_eq_true.mpr fun x hx => (big x hx).1
  · have := list_le (n := 1000) fun x hx => (big x hx).2
    refine Nat.le_trans this ?_
    simp only [List.length_append, List.length_map, List.length_cons, List.length_nil]
    have : (1000 + 2) * (p.length + (0 + 1) + q.length) ≤ 1002 * 201 := Nat.mul_le_mul (Nat.le_refl _) (by omega)
    omega
end K76

/-! ## M14K76 -/
set_option autoImplicit false
set_option linter.all false
set_option maxRecDepth 100000
set_option maxHeartbeats 2000000
namespace K76
open PySem DL
theorem Wh.pos {W : List (List Int)} (h : Wh W) : 1 ≤ W.length := by
  have := h.ne
  cases W with
  | nil => exact absurd rfl this
  | cons _ _ => simp
theorem not_shs {W : List (List Int)} (h : Wh W) {s : Str} (hs : s.length ≠ 3 * W.length) : s ∉ shs W := fun hm => by
  unfold shs at hm
  rw [List.mem_map] at hm
  obtain ⟨c, hc, rfl⟩ := hm
  have hp := h.pos
  rw [shown_code (h.digits hc), (allC_in W c hc).1, if_neg] at hs
  · exact hs rfl
  · intro e
    have l := (allC_in W c hc).1
    rw [e] at l
    simp at l
    omega
theorem odd_code {W : List (List Int)} (h : Wh W) {e : List Int} (hd : ∀ x ∈ e, 0 ≤ x ∧ x < 10) (hl : e.length ≠ W.length) (hl2 : e.length ≤ 100) : Odd W (codeD e) := by
  have hp := h.pos
  have sm : ∀ i ∈ e, smallI i := fun i hi => digit_small (hd i hi)
  refine ⟨.lst (fits_len (xs := e.map .int) (by rw [List.length_map]; exact hl)) (repr_code hd (by omega)) (not_shs h ?_) (cl_code (n := 58) sm), cl_code (n := 58) sm, code_txt hd hl2⟩
  have q := shown_code hd
  rw [show codeD e = D.lst (e.map .int) from rfl] at q
  rw [q]
  split <;> omega
theorem odd_bools {W : List (List Int)} (h : Wh W) {n : Nat} (hn : 1 ≤ n) (hw : W.length = n) : Odd W (.lst (List.replicate n (.bl true))) := by
  have hf := h.few
  have e : List.replicate n (D.bl true) = (List.replicate n true).map .bl := by simp
  have hcl : (D.lst (List.replicate n (D.bl true))).cl 59 = true := List.all_eq_true.mpr fun x hx => by
    rw [List.eq_of_mem_replicate hx]; rfl
  have sl : (D.lst (List.replicate n (D.bl true))).py.shown.length = 6 * n := by
    have q := shown_len (xs := List.replicate n (D.bl true)) (n := 4) (fun d hd => by
      rw [List.eq_of_mem_replicate hd]
      decide +kernel)
    rw [q, if_neg (by intro z; have := congrArg List.length z; simp at this; omega), List.length_replicate]
  refine ⟨.lst (by rw [e]; exact fits_bools (by intro z; have := congrArg List.length z; simp at this; omega) (by simp; omega)) (repr_cl ?_ (by rw [sl]; omega)) (not_shs h (by rw [sl]; omega)) hcl, hcl, by rw [sl]; omega⟩
  exact List.all_eq_true.mpr fun x hx => by
    rw [List.eq_of_mem_replicate hx]; rfl
theorem odd_non (W : List (List Int)) : Odd W .non := ⟨.odd (t := "NoneType") rfl rfl rfl, rfl, by decide +kernel⟩
theorem odd_tup (W : List (List Int)) : Odd W (.tup [.int 0]) := by
  refine ⟨.odd (t := "tuple") rfl rfl (by decide), by decide, ?_⟩
  have := tup_le (xs := [D.int 0]) (n := 1) (fun d hd => by
    have : d = .int 0 := by simpa using hd
    rw [this]
    exact Nat.le_of_eq (digit_len (by decide) (by decide)))
  refine Nat.le_trans this ?_
  simp
theorem cut_map {α β : Type} (f : α → β) (xs : List α) (lo hi : Option Int) : cut (xs.map f) lo hi = (cut xs lo hi).map f := by
  unfold cut
  rw [List.length_map, List.map_take, List.map_drop]
theorem cut_mem {α : Type} {xs : List α} {lo hi : Option Int} {x : α} (h : x ∈ cut xs lo hi) : x ∈ xs := List.mem_of_mem_drop (List.mem_of_mem_take h)
theorem cut_len {α : Type} (xs : List α) (lo hi : Option Int) : (cut xs lo hi).length ≤ xs.length := by
  unfold cut
  rw [List.length_take, List.length_drop]
  omega
theorem cut_codes (R : List (List Int)) (lo hi : Option Int) : dCut (codesD R) lo hi = pure (codesD (cut R lo hi)) := by
  show (pure (D.lst (cut (R.map codeD) lo hi)) : M D) = _
  rw [cut_map]
  rfl
theorem cut_code (R : List Int) (lo hi : Option Int) : dCut (codeD R) lo hi = pure (codeD (cut R lo hi)) := by
  show (pure (D.lst (cut (R.map D.int) lo hi)) : M D) = _
  rw [cut_map]
  rfl
theorem cut_eq {a : E} {l h : Dlt → M (Option Int)} {δ : Dlt} {x d : D} {lo hi : Option Int} (h1 : a δ = pure x) (h2 : l δ = pure lo) (h3 : h δ = pure hi) (h4 : dCut x lo hi = pure d) : eCut a l h δ = pure d := by
  unfold eCut
  rw [h1, pure_bind, h2, pure_bind, h3, pure_bind, h4]
theorem at_eq {a : E} {δ : Dlt} {i : Int} (h : a δ = pure (.int i)) : eAt a δ = pure (some i) := by
  unfold eAt
  rw [h, pure_bind]
theorem add_codes {a b : List (List Int)} (h : a.length + b.length ≤ 1000000) : dAdd (codesD a) (codesD b) = pure (codesD (a ++ b)) := by
  unfold codesD
  rw [cat_eq (by simpa using h), List.map_append]
end K76

/-! ## M15K76 -/
set_option autoImplicit false
set_option linter.all false
set_option maxRecDepth 100000
set_option maxHeartbeats 4000000
namespace K76
open PySem DL
def swapR (R : List (List Int)) (i j : Nat) : List (List Int) := R.zipIdx.map fun p => if p.2 = i then R.getD j [] else if p.2 = j then R.getD i [] else p.1
def baseV (R : List (List Int)) (i j : Nat) : List D := [codesD R, codesD R.reverse, codesD (cut R (some 1) none), codesD (cut R none (some (-1))), codesD (R ++ cut R (some (-1)) none), codesD (cut R (some 1) none ++ cut R none (some 1)), codesD (swapR R i j), codesD (sortC R), .tup (R.map codeD), .non, .lst [], .tup [], .dct [], .str "row", .lst (R.map fun c => .tup (c.map .int))]
def oddsV (R : List (List Int)) (i j : Nat) : List D := [.non, .lst [], codeD (cut (R.getD i []) none (some (-1))), codeD (R.getD i [] ++ [0]), .tup [.int 0], .lst (List.replicate (R.getD i []).length (.bl true)), codeD (R.getD j [])]
def mixV (R : List (List Int)) (i : Nat) (d : D) : D := .lst ((cut R none (some (i : Int))).map codeD ++ [d] ++ (cut R (some ((i : Int) + 1)) none).map codeD)
theorem ix_getD {R : List (List Int)} {i : Nat} (h : i < R.length) : dIx (codesD R) (.int i) = pure (codeD (R.getD i [])) := by
  rw [ix_codes h, getD_of [] h]
theorem flat_rep {α : Type} (x : α) : ∀ n : Nat, (List.replicate n [x]).flatten = List.replicate n x
  | 0 => rfl
  | n + 1 => by rw [List.replicate_succ, List.flatten_cons, flat_rep x n, List.replicate_succ]; rfl
theorem values_run {R : List (List Int)} {i j : Nat} (hi : i < R.length) (hj : j < R.length) (hR : R.length ≤ 40) (hc : ∀ c ∈ R, c.length ≤ 10) (sm : ∀ c ∈ R, ∀ x ∈ c, smallI x) :
    (sSeq (sAsg (gN 4) (eLc [7, 8] (gT [gN 7, gN 8]) (xE (eW 1)) (eK (.bl true)) (eIf (eO dEq (eV 7) (eV 2)) (eO dIx (eV 1) (eV 3)) (eIf (eO dEq (eV 7) (eV 3)) (eO dIx (eV 1) (eV 2)) (eW 8))))) (sSeq (sOwn 5 (eLst (esC (eW 1) (esC (eF dRev (eV 1)) (esC (eCut (eV 1) (eAt (eK (.int 1))) (eNo)) (esC (eCut (eV 1) (eNo) (eAt (eF dNeg (eK (.int 1))))) (esC (eO dAdd (eV 1) (eCut (eV 1) (eAt (eF dNeg (eK (.int 1)))) (eNo))) (esC (eO dAdd (eCut (eV 1) (eAt (eK (.int 1))) (eNo)) (eCut (eV 1) (eNo) (eAt (eK (.int 1))))) (esC (eW 4) (esC (eF dSorted (eV 1)) (esC (eF dTuple (eV 1)) (esC (eK .non) (esC (eLst (esN)) (esC (eTup (esN)) (esC (eK (.dct [])) (esC (eK (.str "row")) (esC (eLc [8] (gN 8) (xL (eW 1)) (eK (.bl true)) (eF dTuple (eV 8))) (esN)))))))))))))))))) (sSeq (sFor (gN 6) (xL (eLst (esC (eK .non) (esC (eLst (esN)) (esC (eCut (eO dIx (eV 1) (eV 2)) (eNo) (eAt (eF dNeg (eK (.int 1))))) (esC (eO dAdd (eO dIx (eV 1) (eV 2)) (eLst (esC (eK (.int 0)) (esN)))) (esC (eTup (esC (eK (.int 0)) (esN))) (esC (eO dMul (eLst (esC (eK (.bl true)) (esN))) (eF dLen (eO dIx (eV 1) (eV 2)))) (esC (eO dIx (eV 1) (eV 3)) (esN)))))))))) (sApp 5 (eO dAdd (eO dAdd (eCut (eV 1) (eNo) (eAt (eV 2))) (eLst (esC (eW 6) (esN)))) (eCut (eV 1) (eAt (eO dAdd (eV 2) (eK (.int 1)))) (eNo))))) (sSeq (sFrz 5) (sRet (eW 5))))))
      [.val .gen, .val (codesD R), .val (.int i), .val (.int j), .no, .no, .no, .no, .no] = pure (.rt (.lst (baseV R i j ++ (oddsV R i j).map (mixV R i)))) := by
  have mi : R.getD i [] ∈ R := by rw [getD_of [] hi]; exact List.getElem_mem hi
  have mj : R.getD j [] ∈ R := by rw [getD_of [] hj]; exact List.getElem_mem hj
  -- swapped
  have q1 : eLc [7, 8] (gT [gN 7, gN 8]) (xE (eW 1)) (eK (.bl true)) (eIf (eO dEq (eV 7) (eV 2)) (eO dIx (eV 1) (eV 3)) (eIf (eO dEq (eV 7) (eV 3)) (eO dIx (eV 1) (eV 2)) (eW 8))) [.val .gen, .val (codesD R), .val (.int i), .val (.int j), .no, .no, .no, .no, .no] = pure (codesD (swapR R i j)) := by
    have q := eLc_all (vs := [7, 8]) (g := gT [gN 7, gN 8]) (src := xE (eW 1)) (te := eIf (eO dEq (eV 7) (eV 2)) (eO dIx (eV 1) (eV 3)) (eIf (eO dEq (eV 7) (eV 3)) (eO dIx (eV 1) (eV 2)) (eW 8))) (δ := [.val .gen, .val (codesD R), .val (.int i), .val (.int j), .no, .no, .no, .no, .no]) (emb := fun p : List Int × Nat => .tup [.int p.2, codeD p.1])
      (γ := fun p => [.val .gen, .val (codesD R), .val (.int i), .val (.int j), .no, .no, .no, .val (.int p.2), .val (codeD p.1)]) (f := fun p => codeD (if p.2 = i then R.getD j [] else if p.2 = j then R.getD i [] else p.1)) (xs := R.zipIdx) (by rw [xE_eq (xs := R.map codeD) rfl, numFrom_map]) (fun p _ => rfl) (fun p _ => by
        have t1 : eO dEq (eV 7) (eV 2) [.val .gen, .val (codesD R), .val (.int i), .val (.int j), .no, .no, .no, .val (.int p.2), .val (codeD p.1)] = pure (.bl (decide (p.2 = i))) := o_eq (x := .int p.2) (y := .int i) rfl rfl (by
          show (pure (D.bl (decide ((p.2 : Int) = (i : Int)))) : M D) = _
          congr 2
          exact decide_eq_decide.mpr (by omega))
        have t2 : eO dEq (eV 7) (eV 3) [.val .gen, .val (codesD R), .val (.int i), .val (.int j), .no, .no, .no, .val (.int p.2), .val (codeD p.1)] = pure (.bl (decide (p.2 = j))) := o_eq (x := .int p.2) (y := .int j) rfl rfl (by
          show (pure (D.bl (decide ((p.2 : Int) = (j : Int)))) : M D) = _
          congr 2
          exact decide_eq_decide.mpr (by omega))
        by_cases z : p.2 = i
        · rw [decide_eq_true z] at t1
          rw [ife_t t1, if_pos z]
          exact o_eq (x := codesD R) (y := .int j) rfl rfl (ix_getD hj)
        · rw [decide_eq_false z] at t1
          rw [ife_f t1, if_neg z]
          by_cases z2 : p.2 = j
          · rw [decide_eq_true z2] at t2
            rw [ife_t t2, if_pos z2]
            exact o_eq (x := codesD R) (y := .int i) rfl rfl (ix_getD hi)
          · rw [decide_eq_false z2] at t2
            rw [ife_f t2, if_neg z2]
            rfl) (by rw [List.length_zipIdx]; omega)
    rw [q]
    unfold codesD swapR
    rw [List.map_map]
    rfl
  rw [seq_nx (asg_nx (δ' := [.val .gen, .val (codesD R), .val (.int i), .val (.int j), .val (codesD (swapR R i j)), .no, .no, .no, .no]) q1 rfl)]
  -- the first ones
  have m1 : ∀ δ : Dlt, eAt (eF dNeg (eK (.int 1))) δ = pure (some (-1)) := fun δ => at_eq (f_eq (x := .int 1) rfl rfl)
  have p1 : ∀ δ : Dlt, eAt (eK (.int 1)) δ = pure (some 1) := fun δ => at_eq rfl
  have cl := cut_len R
  have q15 : eLc [8] (gN 8) (xL (eW 1)) (eK (.bl true)) (eF dTuple (eV 8)) [.val .gen, .val (codesD R), .val (.int i), .val (.int j), .val (codesD (swapR R i j)), .no, .no, .no, .no] = pure (.lst (R.map fun c => .tup (c.map .int))) :=
    eLc_all (emb := codeD) (γ := fun c => [.val .gen, .val (codesD R), .val (.int i), .val (.int j), .val (codesD (swapR R i j)), .no, .no, .no, .val (codeD c)]) rfl (fun c _ => rfl) (fun c _ => f_eq (h := dTuple) (x := codeD c) rfl rfl) (by omega)
  have q2 : eLst (esC (eW 1) (esC (eF dRev (eV 1)) (esC (eCut (eV 1) (eAt (eK (.int 1))) (eNo)) (esC (eCut (eV 1) (eNo) (eAt (eF dNeg (eK (.int 1))))) (esC (eO dAdd (eV 1) (eCut (eV 1) (eAt (eF dNeg (eK (.int 1)))) (eNo))) (esC (eO dAdd (eCut (eV 1) (eAt (eK (.int 1))) (eNo)) (eCut (eV 1) (eNo) (eAt (eK (.int 1))))) (esC (eW 4) (esC (eF dSorted (eV 1)) (esC (eF dTuple (eV 1)) (esC (eK .non) (esC (eLst (esN)) (esC (eTup (esN)) (esC (eK (.dct [])) (esC (eK (.str "row")) (esC (eLc [8] (gN 8) (xL (eW 1)) (eK (.bl true)) (eF dTuple (eV 8))) (esN)))))))))))))))) [.val .gen, .val (codesD R), .val (.int i), .val (.int j), .val (codesD (swapR R i j)), .no, .no, .no, .no] = pure (.lst (baseV R i j)) := by
    refine lst_eq (es_cons rfl (es_cons (f_eq (h := dRev) (x := codesD R) (d := codesD R.reverse) rfl (by unfold codesD; rw [List.map_reverse]; rfl)) (es_cons (cut_eq rfl (p1 _) rfl (cut_codes R (some 1) none)) (es_cons (cut_eq rfl rfl (m1 _) (cut_codes R none (some (-1)))) (es_cons (o_eq rfl (cut_eq rfl (m1 _) rfl (cut_codes R (some (-1)) none)) (add_codes (by have := cl (some (-1)) none; omega)))
      (es_cons (o_eq (cut_eq rfl (p1 _) rfl (cut_codes R (some 1) none)) (cut_eq rfl rfl (p1 _) (cut_codes R none (some 1))) (add_codes (by have := cl (some 1) none; have := cl none (some 1); omega))) (es_cons rfl (es_cons (f_eq rfl (sorted_codes sm)) (es_cons (f_eq (h := dTuple) (x := codesD R) rfl rfl) (es_cons rfl (es_cons (lst_eq es_nil (by simp)) (es_cons (tup_eq es_nil (by simp)) (es_cons rfl (es_cons rfl (es_cons q15 es_nil))))))))))))))) (show (15 : Nat) ≤ 1000000 by decide)
  have s2 : sOwn 5 (eLst (esC (eW 1) (esC (eF dRev (eV 1)) (esC (eCut (eV 1) (eAt (eK (.int 1))) (eNo)) (esC (eCut (eV 1) (eNo) (eAt (eF dNeg (eK (.int 1))))) (esC (eO dAdd (eV 1) (eCut (eV 1) (eAt (eF dNeg (eK (.int 1)))) (eNo))) (esC (eO dAdd (eCut (eV 1) (eAt (eK (.int 1))) (eNo)) (eCut (eV 1) (eNo) (eAt (eK (.int 1))))) (esC (eW 4) (esC (eF dSorted (eV 1)) (esC (eF dTuple (eV 1)) (esC (eK .non) (esC (eLst (esN)) (esC (eTup (esN)) (esC (eK (.dct [])) (esC (eK (.str "row")) (esC (eLc [8] (gN 8) (xL (eW 1)) (eK (.bl true)) (eF dTuple (eV 8))) (esN))))))))))))))))) [.val .gen, .val (codesD R), .val (.int i), .val (.int j), .val (codesD (swapR R i j)), .no, .no, .no, .no] = pure (.nx [.val .gen, .val (codesD R), .val (.int i), .val (.int j), .val (codesD (swapR R i j)), .own (baseV R i j), .no, .no, .no]) := by
    unfold sOwn
    rw [q2, pure_bind]
    rfl
  rw [seq_nx s2]
  -- the odd ones
  have ci := hc _ mi
  have q3 : eLst (esC (eK .non) (esC (eLst (esN)) (esC (eCut (eO dIx (eV 1) (eV 2)) (eNo) (eAt (eF dNeg (eK (.int 1))))) (esC (eO dAdd (eO dIx (eV 1) (eV 2)) (eLst (esC (eK (.int 0)) (esN)))) (esC (eTup (esC (eK (.int 0)) (esN))) (esC (eO dMul (eLst (esC (eK (.bl true)) (esN))) (eF dLen (eO dIx (eV 1) (eV 2)))) (esC (eO dIx (eV 1) (eV 3)) (esN)))))))) [.val .gen, .val (codesD R), .val (.int i), .val (.int j), .val (codesD (swapR R i j)), .own (baseV R i j), .no, .no, .no] = pure (.lst (oddsV R i j)) := by
    have xi : eO dIx (eV 1) (eV 2) [.val .gen, .val (codesD R), .val (.int i), .val (.int j), .val (codesD (swapR R i j)), .own (baseV R i j), .no, .no, .no] = pure (codeD (R.getD i [])) := o_eq (x := codesD R) (y := .int i) rfl rfl (ix_getD hi)
    have xj : eO dIx (eV 1) (eV 3) [.val .gen, .val (codesD R), .val (.int i), .val (.int j), .val (codesD (swapR R i j)), .own (baseV R i j), .no, .no, .no] = pure (codeD (R.getD j [])) := o_eq (x := codesD R) (y := .int j) rfl rfl (ix_getD hj)
    refine lst_eq (es_cons rfl (es_cons (lst_eq es_nil (by simp)) (es_cons (cut_eq xi rfl (m1 _) (cut_code _ none (some (-1)))) (es_cons (o_eq xi (lst_eq (es_cons rfl es_nil) (by simp)) ?_) (es_cons (tup_eq (es_cons rfl es_nil) (by simp)) (es_cons (o_eq (x := .lst [.bl true]) (y := .int ((R.getD i []).length : Nat)) (lst_eq (es_cons rfl es_nil) (by simp)) (f_eq xi (by unfold codeD; rw [len_lst, List.length_map])) ?_) (es_cons xj es_nil))))))) (show (7 : Nat) ≤ 1000000 by decide)
    · unfold codeD
      rw [cat_eq (by simp only [List.length_map, List.length_cons, List.length_nil]; omega), List.map_append]
      rfl
    · show (if 0 ≤ ((R.getD i []).length : Int) ∧ ((R.getD i []).length : Int) < 1000000 ∧ lim ([D.bl true].length * ((R.getD i []).length : Int).toNat) = true then (pure (D.lst (List.replicate ((R.getD i []).length : Int).toNat [D.bl true]).flatten) : M D) else stuck) = _
      rw [if_pos ⟨by omega, by omega, lim_ok (by simp only [List.length_cons, List.length_nil, Int.toNat_natCast]; omega)⟩, Int.toNat_natCast, flat_rep]
  obtain ⟨δ', l1, a6, l2⟩ := forGo_pre (g := gN 6) (s := sApp 5 (eO dAdd (eO dAdd (eCut (eV 1) (eNo) (eAt (eV 2))) (eLst (esC (eW 6) (esN)))) (eCut (eV 1) (eAt (eO dAdd (eV 2) (eK (.int 1)))) (eNo)))) (emb := fun d : D => d)
    (I := fun r δ => ∃ a6, δ = [.val .gen, .val (codesD R), .val (.int i), .val (.int j), .val (codesD (swapR R i j)), .own (baseV R i j ++ r.map (mixV R i)), a6, .no, .no]) (xs := oddsV R i j) (pre := []) (δ := [.val .gen, .val (codesD R), .val (.int i), .val (.int j), .val (codesD (swapR R i j)), .own (baseV R i j), .no, .no, .no]) ⟨.no, by simp⟩ (fun r d t δ e hI => by
      obtain ⟨a6, rfl⟩ := hI
      rw [List.nil_append] at e
      have hr : r.length ≤ 7 := by
        have := congrArg List.length e
        simp [oddsV] at this
        omega
      refine ⟨[.val .gen, .val (codesD R), .val (.int i), .val (.int j), .val (codesD (swapR R i j)), .own (baseV R i j ++ r.map (mixV R i)), .val d, .no, .no], [.val .gen, .val (codesD R), .val (.int i), .val (.int j), .val (codesD (swapR R i j)), .own (baseV R i j ++ (r ++ [d]).map (mixV R i)), .val d, .no, .no], rfl, ?_, _, rfl⟩
      have ev : eO dAdd (eO dAdd (eCut (eV 1) (eNo) (eAt (eV 2))) (eLst (esC (eW 6) (esN)))) (eCut (eV 1) (eAt (eO dAdd (eV 2) (eK (.int 1)))) (eNo)) [.val .gen, .val (codesD R), .val (.int i), .val (.int j), .val (codesD (swapR R i j)), .own (baseV R i j ++ r.map (mixV R i)), .val d, .no, .no] = pure (mixV R i d) := by
        have c1 := cl none (some (i : Int))
        have c2 := cl (some ((i : Int) + 1)) none
        refine o_eq (x := .lst ((cut R none (some (i : Int))).map codeD ++ [d])) (y := .lst ((cut R (some ((i : Int) + 1)) none).map codeD)) (o_eq (x := codesD (cut R none (some (i : Int)))) (y := .lst [d]) (cut_eq rfl rfl (at_eq (i := i) rfl) (cut_codes R none (some (i : Int)))) (lst_eq (es_cons rfl es_nil) (by simp)) (cat_eq (by simp; omega))) (cut_eq rfl (at_eq (i := (i : Int) + 1) (o_eq (x := .int i) (y := .int 1) rfl rfl rfl)) rfl (cut_codes R (some ((i : Int) + 1)) none)) (cat_eq (by simp; omega))
      show (eO _ _ _ _ >>= _) = _
      rw [ev, pure_bind]
      show (if lim ((baseV R i j ++ r.map (mixV R i)).length + 1) then (pure (Fl.nx [.val .gen, .val (codesD R), .val (.int i), .val (.int j), .val (codesD (swapR R i j)), .own (baseV R i j ++ r.map (mixV R i) ++ [mixV R i d]), .val d, .no, .no]) : M Fl) else stuck) = _
      rw [if_pos (lim_ok (by simp [baseV]; omega))]
      simp)
  rw [List.map_id'' (fun d => rfl)] at l1
  rw [seq_nx (for_nx (xL_eq q3) l1), l2]
  rfl
end K76

/-! ## M16K76 -/
set_option autoImplicit false
set_option linter.all false
set_option maxRecDepth 100000
set_option maxHeartbeats 4000000
namespace K76
open PySem DL
theorem turnR_in {W : List (List Int)} : ∀ c ∈ turnR W, c ∈ allC W := fun c hc => (turnR_perm W).mem_iff.mp hc
theorem txt_of {d : D} (h : d.cl 60 = true) (hl : d.py.shown.length ≤ 1000000) : ∃ s, dRepr d = pure (.str s) := ⟨_, repr_cl h hl⟩
theorem good_all {W : List (List Int)} (h : Wh W) {i j : Nat} (hi : i < (turnR W).length) (hj : j < (turnR W).length) : ∀ v ∈ baseV (turnR W) i j ++ (oddsV (turnR W) i j).map (mixV (turnR W) i), Good W v := by
  have hin := turnR_in (W := W)
  have hlen : (turnR W).length ≤ 40 := by rw [turnR_len]; exact h.sz
  have hf := h.few
  have hp := h.pos
  generalize turnR W = R at *
  have mi : R.getD i [] ∈ R := by rw [getD_of [] hi]; exact List.getElem_mem hi
  have mj : R.getD j [] ∈ R := by rw [getD_of [] hj]; exact List.getElem_mem hj
  have cm : ∀ lo hi', ∀ c ∈ cut R lo hi', c ∈ allC W := fun lo hi' c hc => hin c (cut_mem hc)
  have cl := cut_len R
  have ilen := (allC_in W _ (hin _ mi)).1
  have idig := h.digits (hin _ mi)
  have code : ∀ c ∈ R, (codeD c).cl 59 = true ∧ (codeD c).py.shown.length ≤ 1000 := fun c hc =>
    ⟨cl_code (n := 58) fun x hx => digit_small (h.digits (hin c hc) x hx), code_txt (h.digits (hin c hc)) (by rw [(allC_in W c (hin c hc)).1]; omega)⟩
  have tupc : ∀ c ∈ R, (D.tup (c.map .int)).cl 59 = true ∧ (D.tup (c.map .int)).py.shown.length ≤ 1000 := fun c hc => by
    have lc := (allC_in W c (hin c hc)).1
    refine ⟨?_, ?_⟩
    · show (c.map D.int).all (D.cl 58) = true
      rw [List.all_map, List.all_eq_true]
      intro x hx
      have q := digit_small (h.digits (hin c hc) x hx)
      unfold smallI at q
      simpa [D.cl] using q
    · have := tup_le (xs := c.map .int) (n := 1) fun d hd => by
        rw [List.mem_map] at hd
        obtain ⟨x, hx, rfl⟩ := hd
        exact Nat.le_of_eq (digit_len (h.digits (hin c hc) x hx).1 (h.digits (hin c hc) x hx).2)
      rw [List.length_map] at this
      omega
  intro v hv
  rw [List.mem_append] at hv
  rcases hv with hv | hv
  · simp only [baseV, List.mem_cons, List.not_mem_nil, or_false] at hv
    rcases hv with rfl | rfl | rfl | rfl | rfl | rfl | rfl | rfl | rfl | rfl | rfl | rfl | rfl | rfl | rfl
    · exact good_codes h hin (by omega)
    · exact good_codes h (fun c hc => hin c (by simpa using hc)) (by simp; omega)
    · exact good_codes h (cm _ _) (by have := cl (some 1) none; omega)
    · exact good_codes h (cm _ _) (by have := cl none (some (-1)); omega)
    · exact good_codes h (fun c hc => by rcases List.mem_append.mp hc with q | q; exact hin c q; exact cm _ _ c q) (by rw [List.length_append]; have := cl (some (-1)) none; omega)
    · exact good_codes h (fun c hc => by rcases List.mem_append.mp hc with q | q; exact cm _ _ c q; exact cm _ _ c q) (by rw [List.length_append]; have := cl (some 1) none; have := cl none (some 1); omega)
    · refine good_codes h (fun c hc => ?_) (by unfold swapR; rw [List.length_map, List.length_zipIdx]; omega)
      unfold swapR at hc
      rw [List.mem_map] at hc
      obtain ⟨p, hpm, rfl⟩ := hc
      split
      · exact hin _ mj
      · split
        · exact hin _ mi
        · exact hin _ (List.fst_mem_of_mem_zipIdx hpm)
    · exact good_codes h (fun c hc => hin c ((sortC_perm R).mem_iff.mp hc)) (by rw [(sortC_perm R).length_eq]; omega)
    · refine good_no h (t := "tuple") rfl rfl (txt_of ?_ ?_) ⟨rfl, rfl⟩
      · show (R.map codeD).all (D.cl 59) = true
        rw [List.all_map, List.all_eq_true]
        exact fun c hc => (code c hc).1
      · have := tup_le (xs := R.map codeD) (n := 1000) fun d hd => by
          rw [List.mem_map] at hd
          obtain ⟨c, hc, rfl⟩ := hd
          exact (code c hc).2
        rw [List.length_map] at this
        omega
    · exact good_no h (t := "NoneType") rfl rfl (txt_of rfl (by decide +kernel)) ⟨rfl, rfl⟩
    · exact good_codes h (cs := []) (fun c hc => by cases hc) (by simp)
    · exact good_no h (t := "tuple") rfl rfl (txt_of rfl (by decide +kernel)) ⟨rfl, rfl⟩
    · refine good_no h (t := "dict") rfl rfl ⟨(D.dct []).py.shown, ?_⟩ ⟨rfl, rfl⟩
      exact if_pos (by rw [Bool.and_eq_true]; exact ⟨rfl, by decide +kernel⟩)
    · exact good_no h (t := "str") rfl rfl (txt_of (by decide +kernel) (by decide +kernel)) ⟨rfl, rfl⟩
    · have e : (R.map fun c => D.tup (c.map .int)) = (R.map fun c => (D.tup (c.map .int), false)).map (·.1) := by rw [List.map_map]; rfl
      refine ⟨⟨false, ?_⟩, txt_of ?_ ?_, rfl, rfl⟩
      · rw [e]
        refine row_bad h (fun x hx => ?_) ?_ (by simp; omega)
        · rw [List.mem_map] at hx
          obtain ⟨c, hc, rfl⟩ := hx
          exact .odd (t := "tuple") rfl rfl (tupc c hc).1
        · exact ⟨_, List.mem_map_of_mem mi, rfl⟩
      · show (R.map fun c => D.tup (c.map .int)).all (D.cl 59) = true
        rw [List.all_map, List.all_eq_true]
        exact fun c hc => (tupc c hc).1
      · have := list_le (xs := R.map fun c => D.tup (c.map .int)) (n := 1000) fun d hd => by
          rw [List.mem_map] at hd
          obtain ⟨c, hc, rfl⟩ := hd
          exact (tupc c hc).2
        rw [List.length_map] at this
        omega
  · rw [List.mem_map] at hv
    obtain ⟨d, hd, rfl⟩ := hv
    have mix : ∀ d, Odd W d → Good W (mixV R i d) := fun d ho => good_mix h (cm _ _) (cm _ _) ho (by have := cl none (some (i : Int)); omega) (by have := cl (some ((i : Int) + 1)) none; omega)
    simp only [oddsV, List.mem_cons, List.not_mem_nil, or_false] at hd
    rcases hd with rfl | rfl | rfl | rfl | rfl | rfl | rfl
    · exact mix _ (odd_non W)
    · exact mix _ (odd_code h (e := []) (fun x hx => by cases hx) (by simp; omega) (by simp))
    · refine mix _ (odd_code h (fun x hx => idig x (cut_mem hx)) ?_ (by have := cut_len (R.getD i []) none (some (-1)); omega))
      have : (cut (R.getD i []) none (some (-1))).length = (R.getD i []).length - 1 := by
        unfold cut
        rw [List.length_take, List.length_drop]
        show min ((if (-1 : Int) < 0 then (-1 + ((R.getD i []).length : Int)).toNat else min (-1 : Int).toNat (R.getD i []).length) - 0) ((R.getD i []).length - 0) = _
        rw [if_pos (show (-1 : Int) < 0 by decide)]
        omega
      omega
    · refine mix _ (odd_code h (fun x hx => ?_) (by rw [List.length_append]; simp only [List.length_cons, List.length_nil]; omega) (by rw [List.length_append]; simp only [List.length_cons, List.length_nil]; omega))
      rcases List.mem_append.mp hx with q | q
      · exact idig x q
      · have : x = 0 := by simpa using q
        omega
    · exact mix _ (odd_tup W)
    · exact mix _ (odd_bools h (by omega) ilen.symm)
    · have e : mixV R i (codeD (R.getD j [])) = codesD (cut R none (some (i : Int)) ++ [R.getD j []] ++ cut R (some ((i : Int) + 1)) none) := by
        unfold mixV codesD
        simp
      rw [e]
      refine good_codes h (fun c hc => ?_) (by simp only [List.length_append, List.length_cons, List.length_nil]; have := cl none (some (i : Int)); have := cl (some ((i : Int) + 1)) none; omega)
      rw [List.mem_append, List.mem_append] at hc
      rcases hc with (q | q) | q
      · exact cm _ _ c q
      · have : c = R.getD j [] := by simpa using q
        rw [this]; exact hin _ mj
      · exact cm _ _ c q
theorem values_yl {W : List (List Int)} (h : Wh W) : Yl 2 (f_law_values [.gen, codesD (turnR W)]) fun d => ∃ vs, d = .lst vs ∧ ∀ v ∈ vs, Good W v := by
  have hlen : (turnR W).length ≤ 40 := by rw [turnR_len]; exact h.sz
  have hpos : 1 ≤ (turnR W).length := by rw [turnR_len]; exact szC_pos fun c hc => (h.fs c hc).1
  have hf := h.few
  refine yl_fn rfl ?_
  have rn : Yl 1 (eCall f_law_random (esC (eW 0) (esC (eF dLen (eV 1)) (esN))) (startD 9 [.gen, codesD (turnR W)])) fun d => ∃ r : Nat, d = .int r ∧ r < (turnR W).length := (yl_call (n := 0) (j := 1) (P := fun ds => ds = [.gen, .int ((turnR W).length : Nat)]) (yl_eq (es_cons rfl (es_cons (f_eq (x := codesD (turnR W)) rfl (by unfold codesD; rw [len_lst, List.length_map])) es_nil)) rfl) (fun ds e => by
    subst e
    exact (random_yl (by omega) (by omega)).mono (Nat.le_refl _) fun d ⟨r, e, hr⟩ => ⟨r, e, by omega⟩)).mono (by omega) fun _ z => z
  refine (yl_seq (n := 2) (j := 0) (P := fun δ => ∃ i j : Nat, δ = [.val .gen, .val (codesD (turnR W)), .val (.int i), .val (.int j), .no, .no, .no, .no, .no] ∧ i < (turnR W).length ∧ j < (turnR W).length) (yl_asg (P := fun d => ∃ i j : Nat, d = .tup [.int i, .int j] ∧ i < (turnR W).length ∧ j < (turnR W).length) ?_ fun d ⟨i, j, e, hi, hj⟩ => ?_) fun δ ⟨i, j, e, hi, hj⟩ => ?_).mono (by omega) fun _ z => z
  · refine (yl_bind (n := 2) (j := 0) (P := fun ds => ∃ i j : Nat, ds = [.int i, .int j] ∧ i < (turnR W).length ∧ j < (turnR W).length) ?_ fun ds ⟨i, j, e, hi, hj⟩ => ?_).mono (by omega) fun _ z => z
    · refine (yl_bind (j := 1) rn fun d ⟨i, e, hi⟩ => ?_).mono (by omega) fun _ z => z
      subst e
      refine (yl_bind (n := 1) (j := 0) (P := fun ds => ∃ j : Nat, ds = [.int j] ∧ j < (turnR W).length) ?_ fun ds ⟨j, e, hj⟩ => ?_).mono (by omega) fun _ z => z
      · refine (yl_bind (j := 0) rn fun d ⟨j, e, hj⟩ => ?_).mono (by omega) fun _ z => z
        subst e
        exact yl_eq (a := [.int j]) rfl ⟨j, rfl, hj⟩
      · subst e
        exact yl_pure ⟨i, j, rfl, hi, hj⟩
    · subst e
      exact yl_eq (a := .tup [.int i, .int j]) (if_pos (lim_ok (show (2 : Nat) ≤ 1000000 by decide))) ⟨i, j, rfl, hi, hj⟩
  · subst e
    exact ⟨_, rfl, i, j, rfl, hi, hj⟩
  · subst e
    exact yl_eq (values_run hi hj hlen (fun c hc => by rw [turnR_clen W c hc]; omega) (sorted_small h fun c hc => turnR_in c hc)) ⟨_, rfl, _, rfl, good_all h hi hj⟩
theorem same_bools (b : Bool) : f_law_same 3 [.lst [.bl b, .bl b], .lst [.bl b, .bl b]] = pure (.bl true) := by cases b <;> rfl
end K76

/-! ## MK76 -/
set_option autoImplicit false
set_option linter.all false
set_option maxRecDepth 100000
set_option maxHeartbeats 4000000
namespace K76
open PySem DL
theorem nb_code (c : List Int) : (codeD c).nb = true := by
  show nbs (c.map D.int) = true
  rw [nbs_all]
  intro d hd
  rw [List.mem_map] at hd
  obtain ⟨x, _, rfl⟩ := hd
  rfl
theorem nb_codes (c : List (List Int)) : (codesD c).nb = true := by
  show nbs (c.map codeD) = true
  rw [nbs_all]
  intro d hd
  rw [List.mem_map] at hd
  obtain ⟨x, _, rfl⟩ := hd
  exact nb_code x
theorem turn_bor {W : List (List Int)} (h : Wh W) : f_turn_row [wrapB (codesD W)] = pure (codesD (turnR W)) :=
  turn_row_eq (w := .bor (codesD W)) (em := fun c => .bor (codeD c)) h (by
    show (pure ((W.map codeD).map wrapB) : M (List D)) = _
    rw [List.map_map]
    rfl) (fun c => by
    show (pure ((c.map D.int).map wrapB) : M (List D)) = _
    rw [List.map_map]
    rfl) (fun c => by
    show (if (c.map D.int).all D.imm then (pure (D.lst (c.map .int)) : M D) else stuck) = _
    rw [if_pos (imm_ints c)]
    rfl) (check_eq h)
theorem turn_plain {W : List (List Int)} (h : Wh W) : f_turn_row [codesD W] = pure (codesD (turnR W)) :=
  turn_row_eq (w := codesD W) (em := codeD) h rfl (fun c => rfl) (fun c => rfl) (check_eq h)
theorem row_true {W : List (List Int)} (h : Wh W) : f_law_is_row [codesD W, codesD (turnR W)] = pure (.bl true) := by
  have hlen : (turnR W).length ≤ 40 := by rw [turnR_len]; exact h.sz
  have q := (row_good h (cs := turnR W) turnR_in (by omega)).2
  rw [rowB_turnR h] at q
  exact q
theorem ne_str (s : Str) : dNe (.str s) (.str s) = pure (.bl false) := by
  show (pure (D.bl (!decide (s = s))) : M D) = _
  rw [decide_eq_true rfl]
  rfl
theorem eq_str (s : Str) : dEq (.str s) (.str s) = pure (.bl true) := by
  show (pure (D.bl (decide (s = s))) : M D) = _
  rw [decide_eq_true rfl]
theorem callI_eq {f : List D → M D} {es : Es} {δ : Dlt} {xs : List D} {d : D} (h : es δ = pure xs) (h2 : f (xs.map unB) = pure d) (hd : d.imm = true) : eCallI f es δ = pure d := by
  unfold eCallI
  rw [h, pure_bind, h2, pure_bind, if_pos hd]
theorem callIK_eq {f : List D → M D} {ix : List Nat} {es : Es} {δ : Dlt} {xs : List D} {d : D} (h : es δ = pure xs) (h2 : f (pick ix (xs.map unB)) = pure d) (hd : d.imm = true) : eCallIK f ix es δ = pure d := by
  unfold eCallIK
  rw [h, pure_bind, h2, pure_bind, if_pos hd]
theorem turn_yl {W : List (List Int)} (h : Wh W) (k : Str) : Yl 2 (oddTurn (sSeq sA76 sB76) (codesD W) k (codesD (turnR W))) fun p => p = (codesD W, k) := by
  have hlen : (turnR W).length ≤ 40 := by rw [turnR_len]; exact h.sz
  have hpos : 1 ≤ (turnR W).length := by rw [turnR_len]; exact szC_pos fun c hc => (h.fs c hc).1
  have hf := h.few
  have sA : sA76 [.val .gen, .val (.bor (codesD W)), .val (.str k), .val (codesD (turnR W)), .no, .no, .no] = pure (.nx [.val .gen, .val (.bor (codesD W)), .val (.str k), .val (codesD (turnR W)), .no, .no, .no]) := by
    unfold sA76
    rw [if_f (f_eq (x := .bl true) (callI_eq (xs := [.bor (codesD W), codesD (turnR W)]) rfl (row_true h) rfl) rfl)]
    rfl
  have sB : Yl 2 (sB76 [.val .gen, .val (.bor (codesD W)), .val (.str k), .val (codesD (turnR W)), .no, .no, .no]) fun r => ∃ δ, r = .nx δ ∧ ∃ a4 a5 a6, δ = [.val .gen, .val (.bor (codesD W)), .val (.str k), .val (codesD (turnR W)), a4, a5, a6] := by
    unfold sB76
    have src : Yl 2 (xL (eCall f_law_values (esC (eW 0) (esC (eW 3) (esN)))) [.val .gen, .val (.bor (codesD W)), .val (.str k), .val (codesD (turnR W)), .no, .no, .no]) fun vs => ∀ v ∈ vs, Good W v := by
      refine (yl_bind (n := 2) (j := 0) (yl_call (n := 0) (j := 2) (P := fun ds => ds = [.gen, codesD (turnR W)]) (Q := fun d => ∃ vs, d = .lst vs ∧ ∀ v ∈ vs, Good W v) (yl_eq rfl rfl) fun ds e => by
        subst e
        exact values_yl h) fun d ⟨vs, e, g⟩ => ?_).mono (by omega) fun _ z => z
      subst e
      exact yl_eq (a := vs) rfl g
    refine (yl_bind (j := 0) src fun vs g => ?_).mono (by omega) fun _ z => z
    obtain ⟨δ', l1, a4, a5, a6, l2⟩ := forGo_pre (g := gN 4) (s := sSeq (sPar 5 6 (eCallI f_law_is_row (esC (eW 1) (esC (eW 4) (esN)))) (eF dRepr (eF dUnB (eW 4)))) (sIf (eOr (eF dNot (eCall (f_law_same 3) (esC (eLst (esC (eCallI f_is_turn_row (esC (eW 1) (esC (eW 4) (esN)))) (esC (eCallIK f_is_turn_row [1, 0] (esC (eW 4) (esC (eW 1) (esN)))) (esN)))) (esC (eLst (esC (eW 5) (esC (eW 5) (esN)))) (esN))))) (eO dNe (eF dRepr (eF dUnB (eW 4))) (eF dUnB (eW 6)))) (sRet (eK (.bl false))) (sSkip))) (emb := fun d : D => d)
      (I := fun r δ => ∃ a4 a5 a6, δ = [.val .gen, .val (.bor (codesD W)), .val (.str k), .val (codesD (turnR W)), a4, a5, a6]) (xs := vs) (pre := []) (δ := [.val .gen, .val (.bor (codesD W)), .val (.str k), .val (codesD (turnR W)), .no, .no, .no]) ⟨.no, .no, .no, rfl⟩ (fun r v t δ e hI => by
        obtain ⟨a4, a5, a6, rfl⟩ := hI
        obtain ⟨⟨b, b1, b2⟩, ⟨s, hs⟩, n1, n2⟩ := g v (by rw [List.nil_append] at e; rw [e]; simp)
        refine ⟨[.val .gen, .val (.bor (codesD W)), .val (.str k), .val (codesD (turnR W)), .val v, a5, a6], [.val .gen, .val (.bor (codesD W)), .val (.str k), .val (codesD (turnR W)), .val v, .val (.bl b), .val (.str s)], rfl, ?_, _, _, _, rfl⟩
        have r1 : ∀ x5 x6 : Sl, eF dRepr (eF dUnB (eW 4)) [.val .gen, .val (.bor (codesD W)), .val (.str k), .val (codesD (turnR W)), .val v, x5, x6] = pure (.str s) := fun x5 x6 => f_eq (x := v) (f_eq (x := v) rfl n2) hs
        have sp : sPar 5 6 (eCallI f_law_is_row (esC (eW 1) (esC (eW 4) (esN)))) (eF dRepr (eF dUnB (eW 4))) [.val .gen, .val (.bor (codesD W)), .val (.str k), .val (codesD (turnR W)), .val v, a5, a6] = pure (.nx [.val .gen, .val (.bor (codesD W)), .val (.str k), .val (codesD (turnR W)), .val v, .val (.bl b), .val (.str s)]) := by
          unfold sPar
          rw [callI_eq (xs := [.bor (codesD W), v]) (d := .bl b) rfl (by show f_law_is_row [codesD W, unB v] = _; rw [n1]; exact b2) rfl, pure_bind, r1, pure_bind]
          rfl
        rw [seq_nx sp, if_f]
        · rfl
        · rw [or_f]
          · exact o_eq (x := .str s) (y := .str s) (r1 _ _) (f_eq (x := .str s) rfl rfl) (ne_str s)
          · refine f_eq (x := .bl true) (call_eq (xs := [.lst [.bl b, .bl b], .lst [.bl b, .bl b]]) (es_cons (lst_eq (es_cons (callI_eq (xs := [.bor (codesD W), v]) rfl (by show f_is_turn_row [codesD W, unB v] = _; rw [n1]; exact b1) rfl) (es_cons (callIK_eq (xs := [v, .bor (codesD W)]) rfl (by show f_is_turn_row [codesD W, unB v] = _; rw [n1]; exact b1) rfl) es_nil)) (by simp)) (es_cons (lst_eq (es_cons rfl (es_cons rfl es_nil)) (by simp)) es_nil)) (same_bools b)) rfl)
    rw [List.map_id'' (fun d => rfl)] at l1
    exact yl_eq l1 ⟨_, rfl, a4, a5, a6, l2⟩
  refine (yl_bind (n := 2) (j := 0) (P := fun r => ∃ a4 a5 a6, r = .nx [.val .gen, .val (.bor (codesD W)), .val (.str k), .val (codesD (turnR W)), a4, a5, a6]) ?_ fun r ⟨a4, a5, a6, e⟩ => ?_).mono (by omega) fun _ z => z
  · rw [seq_nx sA]
    exact sB.mono (Nat.le_refl _) fun r ⟨δ, e, a4, a5, a6, e2⟩ => ⟨a4, a5, a6, by rw [e, e2]⟩
  · subst e
    have hc := turnR_clen W
    generalize turnR W = R at *
    cases R with
    | nil => simp at hpos
    | cons c R =>
      refine yl_eq (a := (codesD W, k)) (if_pos ⟨nb_codes W, lim_ok ?_, lim_ok ?_⟩) rfl
      · rw [List.length_map, hc c List.mem_cons_self]; omega
      · rw [List.length_map]; simp at hlen; omega
theorem right_yl : Yl 100 (f_law_right [.gen]) fun d => d = .bl true := by
  refine yl_fn rfl ?_
  refine (yl_seq (n := 45) (j := 10) (P := fun δ => ∃ W, δ = [.val .gen, .val (codesD W), .no, .no, .no, .no, .no] ∧ Wh W) (yl_asg (yl_call (n := 0) (j := 45) (P := fun ds => ds = [.gen, .int 4, .int 40]) (Q := fun d => ∃ W, d = codesD W ∧ Wh W) (yl_eq rfl rfl) fun ds e => by
    subst e
    exact wheels_yl) fun d ⟨W, e, h⟩ => ⟨_, by subst e; rfl, W, rfl, h⟩) fun δ ⟨W, e, h⟩ => ?_).mono (by omega) fun _ z => z
  subst e
  have hf := h.few
  obtain ⟨s, hs⟩ : ∃ s, dRepr (codesD W) = pure (.str s) := by
    refine txt_of (cl_codes (n := 58) h.small) ?_
    have := list_le (xs := W.map codeD) (n := 1000) fun d hd => by
      rw [List.mem_map] at hd
      obtain ⟨c, hc, rfl⟩ := hd
      exact code_txt (h.fs c hc).2.1 (Nat.le_trans (h.len hc) (by decide))
    rw [List.length_map] at this
    exact Nat.le_trans this (by omega)
  refine yl_seq0 (δ' := [.val .gen, .val (codesD W), .val (.str s), .no, .no, .no, .no]) (asg_nx (f_eq (x := codesD W) rfl hs) rfl) ?_
  have rows : Yl 4 (sRows f_turn_row sA76 sB76 [.val .gen, .val (codesD W), .val (.str s), .no, .no, .no, .no]) fun r => ∃ δ, r = .nx δ ∧ δ = keep3 (codesD W) s := by
    show Yl 4 (if (codesD W).nb then f_turn_row [wrapB (codesD W)] >>= fun r1 => f_turn_row [wrapB (codesD W)] >>= fun r2 => if r1.nb && r2.nb then oddTurn (sSeq sA76 sB76) (codesD W) s r1 >>= fun p => oddTurn (sSeq sA76 sB76) p.1 p.2 r2 >>= fun p => (pure (Fl.nx (keep3 p.1 p.2)) : M Fl) else stuck else stuck) _
    rw [if_pos (nb_codes W), turn_bor h, pure_bind, pure_bind, if_pos (by rw [nb_codes]; rfl)]
    refine (yl_bind (n := 2) (j := 2) (turn_yl h s) fun p e => ?_).mono (by omega) fun _ z => z
    subst e
    refine (yl_bind (j := 0) (turn_yl h s) fun p e => ?_).mono (by omega) fun _ z => z
    subst e
    exact yl_pure ⟨_, rfl, rfl⟩
  refine (yl_seq (j := 0) rows fun δ e => ?_).mono (by omega) fun _ z => z
  subst e
  refine yl_eq (a := .rt (.bl true)) (ret_rt ?_) ⟨_, rfl, rfl⟩
  rw [and_t (call_eq (xs := [codesD W, codesD (turnR W)]) (es_cons rfl (es_cons (call_eq (xs := [codesD W]) rfl (turn_plain h)) es_nil)) (row_true h))]
  exact o_eq (x := .str s) (y := .str s) (f_eq (x := codesD W) rfl hs) rfl (eq_str s)
theorem right76 (ns : List Int) (i : Nat) (hi : i < 3) : ∃ g1 g2, Ok (f_law_right [.gen]) (genOf ns i) (.bl true) g1 ∧ Ok (f_law_right [.gen]) g1 (.bl true) g2 := by
  have s0 : St 0 (genOf ns i) := ⟨_, _, _, rfl, Int.emod_nonneg _ (by decide), Int.emod_lt_of_pos _ (by decide), by omega, by omega⟩
  obtain ⟨d1, g1, o1, rfl, s1⟩ := right_yl 0 _ s0 (by omega)
  obtain ⟨d2, g2, o2, rfl, _⟩ := right_yl (0 + 100) g1 s1 (by omega)
  exact ⟨g1, g2, o1, o2⟩
theorem wh_far : Wh [[0, 5, 9], [2]] := ⟨by simp, by simp, by simp, by simp [szC]⟩
theorem wh_four : Wh [[4]] := ⟨by simp, by simp, by simp, by simp [szC]⟩
theorem far76 : Ok (sLaw76 [.no, .no, .no, .no]) [] (.rt (.bl true)) [] := by
  have a1 : allC [[0, 5, 9], [2]] = [[0, 2], [5, 2], [9, 2]] := by decide
  have a2 : allC [[4]] = [[4]] := by decide
  have r1 : rowB [[0, 5, 9], [2]] [[0, 2], [5, 2], [9, 2]] = true := by
    unfold rowB
    rw [sortC_eq (.refl _) (by simp [ltC]), a1]
    decide
  have r2 : rowB [[0, 5, 9], [2]] [[0, 2], [9, 2], [5, 2]] = false := by
    unfold rowB
    rw [Bool.and_eq_false_iff]
    exact .inr (by decide)
  have r3 : rowB [[4]] [[4]] = true := by
    unfold rowB
    rw [sortC_eq (.refl _) (by simp), a2]
    decide
  have r4 : rowB [[4]] [] = false := by
    unfold rowB
    rw [sortC_eq (.refl _) (by simp), a2]
    decide
  have q1 := (row_good wh_far (cs := [[0, 2], [5, 2], [9, 2]]) (by rw [a1]; simp) (by simp)).1
  have q2 := (row_good wh_far (cs := [[0, 2], [9, 2], [5, 2]]) (by rw [a1]; simp) (by simp)).1
  have q3 := (row_good wh_four (cs := [[4]]) (by rw [a2]; simp) (by simp)).1
  have q4 := (row_good wh_four (cs := []) (by simp) (by simp)).1
  rw [r1] at q1
  rw [r2] at q2
  rw [r3] at q3
  rw [r4] at q4
  have e : sLaw76 [.no, .no, .no, .no] = pure (.rt (.bl true)) := by
    unfold sLaw76
    have e1 : eLst (esC (eLst (esC (eK (.int 0)) (esC (eK (.int 5)) (esC (eK (.int 9)) (esN))))) (esC (eLst (esC (eK (.int 2)) (esN))) (esN))) [.no, .no, .no, .no] = pure (codesD [[0, 5, 9], [2]]) := rfl
    rw [seq_nx (asg_nx (δ' := [.no, .no, .no, .val (codesD [[0, 5, 9], [2]])]) e1 rfl)]
    refine ret_rt (o_eq (x := .lst [.bl true, .bl false, .bl true, .bl false]) (y := .lst [.bl true, .bl false, .bl true, .bl false]) (lst_eq (es_cons (call_eq (xs := [codesD [[0, 5, 9], [2]], codesD [[0, 2], [5, 2], [9, 2]]]) rfl q1) (es_cons (call_eq (xs := [codesD [[0, 5, 9], [2]], codesD [[0, 2], [9, 2], [5, 2]]]) rfl q2) (es_cons (call_eq (xs := [codesD [[4]], codesD [[4]]]) rfl q3) (es_cons (call_eq (xs := [codesD [[4]], codesD []]) rfl q4) es_nil)))) (by simp)) rfl rfl)
  rw [e]
  exact ok_pure.mpr ⟨rfl, rfl⟩
end K76

/-! ## EK76 -/
set_option Elab.async false
set_option autoImplicit false
set_option linter.all false
set_option maxRecDepth 100000
set_option maxHeartbeats 4000000
namespace K76
open PySem PySem.Spec PyProof.Rows L2 DL
theorem bd_is_whole (kV doc pm : Value) (an : Option Addr) (cdv ct : Value) (us : List Value) (hl : us.length = (["value"] : List Str).length) : bindArgs (PySem.W.fnOf "is_whole" "is_whole" (defArgs s_is_whole) (defBody s_is_whole) (defScope s_is_whole) .none kV doc pm an cdv ct) ⟨us, []⟩ = pure ((["value"] : List Str).zip us) := match us, hl with | [_], _ => rfl
theorem bd_is_count (kV doc pm : Value) (an : Option Addr) (cdv ct : Value) (us : List Value) (hl : us.length = (["value"] : List Str).length) : bindArgs (PySem.W.fnOf "is_count" "is_count" (defArgs s_is_count) (defBody s_is_count) (defScope s_is_count) .none kV doc pm an cdv ct) ⟨us, []⟩ = pure ((["value"] : List Str).zip us) := match us, hl with | [_], _ => rfl
theorem bd_ascends (kV doc pm : Value) (an : Option Addr) (cdv ct : Value) (us : List Value) (hl : us.length = (["items"] : List Str).length) : bindArgs (PySem.W.fnOf "ascends" "ascends" (defArgs s_ascends) (defBody s_ascends) (defScope s_ascends) .none kV doc pm an cdv ct) ⟨us, []⟩ = pure ((["items"] : List Str).zip us) := match us, hl with | [_], _ => rfl
theorem bd_are_figures (kV doc pm : Value) (an : Option Addr) (cdv ct : Value) (us : List Value) (hl : us.length = (["value"] : List Str).length) : bindArgs (PySem.W.fnOf "are_figures" "are_figures" (defArgs s_are_figures) (defBody s_are_figures) (defScope s_are_figures) .none kV doc pm an cdv ct) ⟨us, []⟩ = pure ((["value"] : List Str).zip us) := match us, hl with | [_], _ => rfl
theorem bd_are_wheels (kV doc pm : Value) (an : Option Addr) (cdv ct : Value) (us : List Value) (hl : us.length = (["value"] : List Str).length) : bindArgs (PySem.W.fnOf "are_wheels" "are_wheels" (defArgs s_are_wheels) (defBody s_are_wheels) (defScope s_are_wheels) .none kV doc pm an cdv ct) ⟨us, []⟩ = pure ((["value"] : List Str).zip us) := match us, hl with | [_], _ => rfl
theorem bd_check_wheels (kV doc pm : Value) (an : Option Addr) (cdv ct : Value) (us : List Value) (hl : us.length = (["wheels"] : List Str).length) : bindArgs (PySem.W.fnOf "check_wheels" "check_wheels" (defArgs s_check_wheels) (defBody s_check_wheels) (defScope s_check_wheels) .none kV doc pm an cdv ct) ⟨us, []⟩ = pure ((["wheels"] : List Str).zip us) := match us, hl with | [_], _ => rfl
theorem bd_code_fits (kV doc pm : Value) (an : Option Addr) (cdv ct : Value) (us : List Value) (hl : us.length = (["wheels", "value"] : List Str).length) : bindArgs (PySem.W.fnOf "code_fits" "code_fits" (defArgs s_code_fits) (defBody s_code_fits) (defScope s_code_fits) .none kV doc pm an cdv ct) ⟨us, []⟩ = pure ((["wheels", "value"] : List Str).zip us) := match us, hl with | [_, _], _ => rfl
theorem bd_all_codes (kV doc pm : Value) (an : Option Addr) (cdv ct : Value) (us : List Value) (hl : us.length = (["wheels"] : List Str).length) : bindArgs (PySem.W.fnOf "all_codes" "all_codes" (defArgs s_all_codes) (defBody s_all_codes) (defScope s_all_codes) .none kV doc pm an cdv ct) ⟨us, []⟩ = pure ((["wheels"] : List Str).zip us) := match us, hl with | [_], _ => rfl
theorem bd_is_turn (kV doc pm : Value) (an : Option Addr) (cdv ct : Value) (us : List Value) (hl : us.length = (["wheels", "code", "late"] : List Str).length) : bindArgs (PySem.W.fnOf "is_turn" "is_turn" (defArgs s_is_turn) (defBody s_is_turn) (defScope s_is_turn) .none kV doc pm an cdv ct) ⟨us, []⟩ = pure ((["wheels", "code", "late"] : List Str).zip us) := match us, hl with | [_, _, _], _ => rfl
theorem bd_is_turn_row (kV doc pm : Value) (an : Option Addr) (cdv ct : Value) (us : List Value) (hl : us.length = (["wheels", "value"] : List Str).length) : bindArgs (PySem.W.fnOf "is_turn_row" "is_turn_row" (defArgs s_is_turn_row) (defBody s_is_turn_row) (defScope s_is_turn_row) .none kV doc pm an cdv ct) ⟨us, []⟩ = pure ((["wheels", "value"] : List Str).zip us) := match us, hl with | [_, _], _ => rfl
theorem bd_turn_row (kV doc pm : Value) (an : Option Addr) (cdv ct : Value) (us : List Value) (hl : us.length = (["wheels"] : List Str).length) : bindArgs (PySem.W.fnOf "turn_row" "turn_row" (defArgs s_turn_row) (defBody s_turn_row) (defScope s_turn_row) .none kV doc pm an cdv ct) ⟨us, []⟩ = pure ((["wheels"] : List Str).zip us) := match us, hl with | [_], _ => rfl
theorem bd_law_hash (kV doc pm : Value) (an : Option Addr) (cdv ct : Value) (us : List Value) (hl : us.length = (["seed", "index"] : List Str).length) : bindArgs (PySem.W.fnOf "_law_hash" "_law_hash" (defArgs s_law_hash) (defBody s_law_hash) (defScope s_law_hash) .none kV doc pm an cdv ct) ⟨us, []⟩ = pure ((["seed", "index"] : List Str).zip us) := match us, hl with | [_, _], _ => rfl
theorem bd_law_random (kV doc pm : Value) (an : Option Addr) (cdv ct : Value) (us : List Value) (hl : us.length = (["generator", "bound"] : List Str).length) : bindArgs (PySem.W.fnOf "_law_random" "_law_random" (defArgs s_law_random) (defBody s_law_random) (defScope s_law_random) .none kV doc pm an cdv ct) ⟨us, []⟩ = pure ((["generator", "bound"] : List Str).zip us) := match us, hl with | [_, _], _ => rfl
theorem bd_law_cell (kV doc pm : Value) (an : Option Addr) (cdv ct : Value) (us : List Value) (hl : us.length = (["script", "index"] : List Str).length) : bindArgs (PySem.W.fnOf "_law_cell" "_law_cell" (defArgs s_law_cell) (defBody s_law_cell) (defScope s_law_cell) .none kV doc pm an cdv ct) ⟨us, []⟩ = pure ((["script", "index"] : List Str).zip us) := match us, hl with | [_, _], _ => rfl
theorem bd_law_generator (kV doc pm : Value) (an : Option Addr) (cdv ct : Value) (us : List Value) (hl : us.length = (["script", "index"] : List Str).length) : bindArgs (PySem.W.fnOf "_law_generator" "_law_generator" (defArgs s_law_generator) (defBody s_law_generator) (defScope s_law_generator) .none kV doc pm an cdv ct) ⟨us, []⟩ = pure ((["script", "index"] : List Str).zip us) := match us, hl with | [_, _], _ => rfl
theorem bd_law_same (kV doc pm : Value) (an : Option Addr) (cdv ct : Value) (us : List Value) (hl : us.length = (["found", "due"] : List Str).length) : bindArgs (PySem.W.fnOf "_law_same" "_law_same" (defArgs s_law_same) (defBody s_law_same) (defScope s_law_same) .none kV doc pm an cdv ct) ⟨us, []⟩ = pure ((["found", "due"] : List Str).zip us) := match us, hl with | [_, _], _ => rfl
theorem bd_law_shuffled (kV doc pm : Value) (an : Option Addr) (cdv ct : Value) (us : List Value) (hl : us.length = (["generator", "things"] : List Str).length) : bindArgs (PySem.W.fnOf "_law_shuffled" "_law_shuffled" (defArgs s_law_shuffled) (defBody s_law_shuffled) (defScope s_law_shuffled) .none kV doc pm an cdv ct) ⟨us, []⟩ = pure ((["generator", "things"] : List Str).zip us) := match us, hl with | [_, _], _ => rfl
theorem bd_law_wheels (kV doc pm : Value) (an : Option Addr) (cdv ct : Value) (us : List Value) (hl : us.length = (["generator", "most", "codes"] : List Str).length) : bindArgs (PySem.W.fnOf "_law_wheels" "_law_wheels" (defArgs s_law_wheels) (defBody s_law_wheels) (defScope s_law_wheels) .none kV doc pm an cdv ct) ⟨us, []⟩ = pure ((["generator", "most", "codes"] : List Str).zip us) := match us, hl with | [_, _, _], _ => rfl
theorem bd_law_codes (kV doc pm : Value) (an : Option Addr) (cdv ct : Value) (us : List Value) (hl : us.length = (["wheels"] : List Str).length) : bindArgs (PySem.W.fnOf "_law_codes" "_law_codes" (defArgs s_law_codes) (defBody s_law_codes) (defScope s_law_codes) .none kV doc pm an cdv ct) ⟨us, []⟩ = pure ((["wheels"] : List Str).zip us) := match us, hl with | [_], _ => rfl
theorem bd_law_turned (kV doc pm : Value) (an : Option Addr) (cdv ct : Value) (us : List Value) (hl : us.length = (["wheels", "code", "late"] : List Str).length) : bindArgs (PySem.W.fnOf "_law_turned" "_law_turned" (defArgs s_law_turned) (defBody s_law_turned) (defScope s_law_turned) .none kV doc pm an cdv ct) ⟨us, []⟩ = pure ((["wheels", "code", "late"] : List Str).zip us) := match us, hl with | [_, _, _], _ => rfl
theorem bd_law_is_row (kV doc pm : Value) (an : Option Addr) (cdv ct : Value) (us : List Value) (hl : us.length = (["wheels", "value"] : List Str).length) : bindArgs (PySem.W.fnOf "_law_is_row" "_law_is_row" (defArgs s_law_is_row) (defBody s_law_is_row) (defScope s_law_is_row) .none kV doc pm an cdv ct) ⟨us, []⟩ = pure ((["wheels", "value"] : List Str).zip us) := match us, hl with | [_, _], _ => rfl
theorem bd_law_values (kV doc pm : Value) (an : Option Addr) (cdv ct : Value) (us : List Value) (hl : us.length = (["generator", "row"] : List Str).length) : bindArgs (PySem.W.fnOf "_law_values" "_law_values" (defArgs s_law_values) (defBody s_law_values) (defScope s_law_values) .none kV doc pm an cdv ct) ⟨us, []⟩ = pure ((["generator", "row"] : List Str).zip us) := match us, hl with | [_, _], _ => rfl
theorem bd_law_right (kV doc pm : Value) (an : Option Addr) (cdv ct : Value) (us : List Value) (hl : us.length = (["generator"] : List Str).length) : bindArgs (PySem.W.fnOf "_law_right" "_law_right" (defArgs s_law_right) (defBody s_law_right) (defScope s_law_right) .none kV doc pm an cdv ct) ⟨us, []⟩ = pure ((["generator"] : List Str).zip us) := match us, hl with | [_], _ => rfl
theorem bd_law (kV doc pm : Value) (an : Option Addr) (cdv ct : Value) (us : List Value) (hl : us.length = (["script"] : List Str).length) : bindArgs (PySem.W.fnOf "law" "law" (defArgs s_law) (defBody s_law) (defScope s_law) .none kV doc pm an cdv ct) ⟨us, []⟩ = pure ((["script"] : List Str).zip us) := match us, hl with | [_], _ => rfl
theorem at_mk {K : PySem.W.Frag} {h : Heap} {mg : Str → Option Value} (X : K.In h) (G : h.Ns mainGlobals mg) {x : Str} {st : Stmt} {ps : List Str} {f : Addr} {od an : Option Addr} {sl : Array (Option Value)} {oc kV dc pm cd ct : Value}
    (a : PySem.W.nsIn K mainGlobals x = some (some (.ref f))) (l : K.lookup f = some ⟨oc, od, .func (PySem.W.fnOf x x (defArgs st) (defBody st) (defScope st) .none kV dc pm an cd ct), sl⟩) (c : PySem.W.codeIn K cd x = true) (k : PySem.W.keepIn K (.ref f) = true)
    (b : ∀ (kV doc pm : Value) (an : Option Addr) (cdv ct : Value) (us : List Value), us.length = ps.length → bindArgs (PySem.W.fnOf x x (defArgs st) (defBody st) (defScope st) .none kV doc pm an cdv ct) ⟨us, []⟩ = pure (ps.zip us)) : At K mg x st ps := by
  have F := fun_mk (st := st) l c k
  exact ⟨_, _, PySem.W.mg_of X G a, F, F.binds b⟩
theorem all_mk {l : PySem.W.OpenLaw} {w : World} {K : PySem.W.Frag} {mg : Str → Option Value} {fa : Addr} (hfa : mg "law" = some (.ref fa)) (B : Blt mg)
    (a_is_whole : At K mg "is_whole" s_is_whole ["value"])
    (a_is_count : At K mg "is_count" s_is_count ["value"])
    (a_ascends : At K mg "ascends" s_ascends ["items"])
    (a_are_figures : At K mg "are_figures" s_are_figures ["value"])
    (a_are_wheels : At K mg "are_wheels" s_are_wheels ["value"])
    (a_check_wheels : At K mg "check_wheels" s_check_wheels ["wheels"])
    (a_code_fits : At K mg "code_fits" s_code_fits ["wheels", "value"])
    (a_all_codes : At K mg "all_codes" s_all_codes ["wheels"])
    (a_is_turn : At K mg "is_turn" s_is_turn ["wheels", "code", "late"])
    (a_is_turn_row : At K mg "is_turn_row" s_is_turn_row ["wheels", "value"])
    (a_turn_row : At K mg "turn_row" s_turn_row ["wheels"])
    (a__law_hash : At K mg "_law_hash" s_law_hash ["seed", "index"])
    (a__law_random : At K mg "_law_random" s_law_random ["generator", "bound"])
    (a__law_cell : At K mg "_law_cell" s_law_cell ["script", "index"])
    (a__law_generator : At K mg "_law_generator" s_law_generator ["script", "index"])
    (a__law_same : At K mg "_law_same" s_law_same ["found", "due"])
    (a__law_shuffled : At K mg "_law_shuffled" s_law_shuffled ["generator", "things"])
    (a__law_wheels : At K mg "_law_wheels" s_law_wheels ["generator", "most", "codes"])
    (a__law_codes : At K mg "_law_codes" s_law_codes ["wheels"])
    (a__law_turned : At K mg "_law_turned" s_law_turned ["wheels", "code", "late"])
    (a__law_is_row : At K mg "_law_is_row" s_law_is_row ["wheels", "value"])
    (a__law_values : At K mg "_law_values" s_law_values ["generator", "row"])
    (a__law_right : At K mg "_law_right" s_law_right ["generator"])
    (a_law : At K mg "law" s_law ["script"])
    : ∃ fd : FuncData, (∀ (s : Shared) (v : Value), BindsTo s fd ⟨[v], []⟩ [("script", v)]) ∧ ∀ base : Heap, K.In base → base.Ns mainGlobals mg → FnQ l.prog w K mg base 43 fa fd ["script"] (spLaw K) := by
  obtain ⟨f, fd, h1, h2, h3⟩ := a_law.ex
  cases hfa.symm.trans h1
  refine ⟨fd, fun s v => ?_, fun base _ _ => ?_⟩
  · obtain ⟨oc, od, kV, doc, pm, an, cdv, ct, osl, rfl, lk, hcd⟩ := h2.ex
    exact .of_eq rfl
  have C_is_whole := a_is_whole.cal (P := l.prog) (w := w) (base := base) fun f fd F => w_is_whole B  F
  have C_is_count := a_is_count.cal (P := l.prog) (w := w) (base := base) fun f fd F => w_is_count B C_is_whole F
  have C_ascends := a_ascends.cal (P := l.prog) (w := w) (base := base) fun f fd F => w_ascends B  F
  have C_are_figures := a_are_figures.cal (P := l.prog) (w := w) (base := base) fun f fd F => w_are_figures B C_is_count C_ascends F
  have C_are_wheels := a_are_wheels.cal (P := l.prog) (w := w) (base := base) fun f fd F => w_are_wheels B C_are_figures F
  have C_check_wheels := a_check_wheels.cal (P := l.prog) (w := w) (base := base) fun f fd F => w_check_wheels B C_are_wheels F
  have C_code_fits := a_code_fits.cal (P := l.prog) (w := w) (base := base) fun f fd F => w_code_fits B C_is_count F
  have C_all_codes := a_all_codes.cal (P := l.prog) (w := w) (base := base) fun f fd F => w_all_codes B  F
  have C_is_turn := a_is_turn.cal (P := l.prog) (w := w) (base := base) fun f fd F => w_is_turn B  F
  have C_is_turn_row := a_is_turn_row.cal (P := l.prog) (w := w) (base := base) fun f fd F => w_is_turn_row B C_check_wheels C_code_fits C_all_codes C_is_turn F
  have C_turn_row := a_turn_row.cal (P := l.prog) (w := w) (base := base) fun f fd F => w_turn_row B C_check_wheels F
  have C__law_hash := a__law_hash.cal (P := l.prog) (w := w) (base := base) fun f fd F => w_law_hash B  F
  have C__law_random := a__law_random.cal (P := l.prog) (w := w) (base := base) fun f fd F => w_law_random B C__law_hash F
  have C__law_same := w_law_same (P := l.prog) (w := w) (base := base) B a__law_same 3
  have C__law_shuffled := a__law_shuffled.cal (P := l.prog) (w := w) (base := base) fun f fd F => w_law_shuffled B C__law_random F
  have C__law_wheels := a__law_wheels.cal (P := l.prog) (w := w) (base := base) fun f fd F => w_law_wheels B C__law_random C__law_shuffled F
  have C__law_codes := a__law_codes.cal (P := l.prog) (w := w) (base := base) fun f fd F => w_law_codes B  F
  have C__law_turned := a__law_turned.cal (P := l.prog) (w := w) (base := base) fun f fd F => w_law_turned B  F
  have C__law_is_row := a__law_is_row.cal (P := l.prog) (w := w) (base := base) fun f fd F => w_law_is_row B C__law_codes C__law_turned F
  have C__law_values := a__law_values.cal (P := l.prog) (w := w) (base := base) fun f fd F => w_law_values B C__law_random F
  obtain ⟨fc, fdc, c1, c2, c3⟩ := a__law_cell.ex
  obtain ⟨fg, fdg, g1, g2, g3⟩ := a__law_generator.ex
  have C_right := a__law_right.cal (P := l.prog) (w := w) (base := base) fun f fd F => w_law_right (k := 40) B (C__law_wheels.mono (by decide)) (C_turn_row.mono (by decide)) (C__law_is_row.mono (by decide)) (C__law_values.mono (by decide)) (C__law_same.mono (by decide)) (C_is_turn_row.mono (by decide)) F
  exact (q_law (k := 40) B (C_right.mono (by decide)) (C_is_turn_row.mono (by decide)) ⟨fg, fdg, g1, g2, g3, q_law_generator B ⟨fc, fdc, c1, c2, c3, q_law_cell B c2⟩ g2⟩ right76 far76 h2)
end K76
open PySem PySem.W PyProof.Rows
set_option maxHeartbeats 0 in
theorem PySem.Challenge.cw_escapehall_k76_whole_rows_through_all_co_holds : PySem.Challenge.rw_escapehall_k76_whole_rows_through_all_co.Holds := by
  w_on; o_law; k_head; (case hw => w_witness2)
  k_fill
  refine DL.walk_ofQ (l := PySem.Challenge.rw_escapehall_k76_whole_rows_through_all_co) (n := 63) (k := 43) (x := "script") (sp := fun w => K76.spLaw _) rfl (by decide) rfl ⟨rfl, by decide, by decide⟩ (fun w h Y => PySem.W.kIn_of Y) ?F (fun _ _ a ns hl _ hS => ⟨a, ns, rfl, hS, fun _ => rfl⟩)
  case F =>
    intro w mg fa h KX G hmg
    refine' K76.all_mk hmg ⟨PySem.W.mg_none_of KX G ?z0, PySem.W.mg_none_of KX G ?z1, PySem.W.mg_none_of KX G ?z2, PySem.W.mg_none_of KX G ?z3, PySem.W.mg_none_of KX G ?z4, PySem.W.mg_none_of KX G ?z5, PySem.W.mg_none_of KX G ?z6, PySem.W.mg_none_of KX G ?z7, PySem.W.mg_none_of KX G ?z8, PySem.W.mg_none_of KX G ?z9, PySem.W.mg_none_of KX G ?z10, PySem.W.mg_none_of KX G ?z11, PySem.W.mg_none_of KX G ?z12, PySem.W.mg_none_of KX G ?z13, PySem.W.mg_none_of KX G ?z14, PySem.W.mg_none_of KX G ?z15, PySem.W.mg_none_of KX G ?z16, PySem.W.mg_none_of KX G ?z17, PySem.W.mg_none_of KX G ?z18⟩ (K76.at_mk KX G ?a0 ?l0 ?c0 ?k0 K76.bd_is_whole) (K76.at_mk KX G ?a1 ?l1 ?c1 ?k1 K76.bd_is_count) (K76.at_mk KX G ?a2 ?l2 ?c2 ?k2 K76.bd_ascends) (K76.at_mk KX G ?a3 ?l3 ?c3 ?k3 K76.bd_are_figures) (K76.at_mk KX G ?a4 ?l4 ?c4 ?k4 K76.bd_are_wheels) (K76.at_mk KX G ?a5 ?l5 ?c5 ?k5 K76.bd_check_wheels) (K76.at_mk KX G ?a6 ?l6 ?c6 ?k6 K76.bd_code_fits) (K76.at_mk KX G ?a7 ?l7 ?c7 ?k7 K76.bd_all_codes) (K76.at_mk KX G ?a8 ?l8 ?c8 ?k8 K76.bd_is_turn) (K76.at_mk KX G ?a9 ?l9 ?c9 ?k9 K76.bd_is_turn_row) (K76.at_mk KX G ?a10 ?l10 ?c10 ?k10 K76.bd_turn_row) (K76.at_mk KX G ?a11 ?l11 ?c11 ?k11 K76.bd_law_hash) (K76.at_mk KX G ?a12 ?l12 ?c12 ?k12 K76.bd_law_random) (K76.at_mk KX G ?a13 ?l13 ?c13 ?k13 K76.bd_law_cell) (K76.at_mk KX G ?a14 ?l14 ?c14 ?k14 K76.bd_law_generator) (K76.at_mk KX G ?a15 ?l15 ?c15 ?k15 K76.bd_law_same) (K76.at_mk KX G ?a16 ?l16 ?c16 ?k16 K76.bd_law_shuffled) (K76.at_mk KX G ?a17 ?l17 ?c17 ?k17 K76.bd_law_wheels) (K76.at_mk KX G ?a18 ?l18 ?c18 ?k18 K76.bd_law_codes) (K76.at_mk KX G ?a19 ?l19 ?c19 ?k19 K76.bd_law_turned) (K76.at_mk KX G ?a20 ?l20 ?c20 ?k20 K76.bd_law_is_row) (K76.at_mk KX G ?a21 ?l21 ?c21 ?k21 K76.bd_law_values) (K76.at_mk KX G ?a22 ?l22 ?c22 ?k22 K76.bd_law_right) (K76.at_mk KX G ?a23 ?l23 ?c23 ?k23 K76.bd_law)
    (case a0 => k_is); (case l0 => k_is); (case c0 => k_is); (case k0 => k_is)
    (case a1 => k_is); (case l1 => k_is); (case c1 => k_is); (case k1 => k_is)
    (case a2 => k_is); (case l2 => k_is); (case c2 => k_is); (case k2 => k_is)
    (case a3 => k_is); (case l3 => k_is); (case c3 => k_is); (case k3 => k_is)
    (case a4 => k_is); (case l4 => k_is); (case c4 => k_is); (case k4 => k_is)
    (case a5 => k_is); (case l5 => k_is); (case c5 => k_is); (case k5 => k_is)
    (case a6 => k_is); (case l6 => k_is); (case c6 => k_is); (case k6 => k_is)
    (case a7 => k_is); (case l7 => k_is); (case c7 => k_is); (case k7 => k_is)
    (case a8 => k_is); (case l8 => k_is); (case c8 => k_is); (case k8 => k_is)
    (case a9 => k_is); (case l9 => k_is); (case c9 => k_is); (case k9 => k_is)
    (case a10 => k_is); (case l10 => k_is); (case c10 => k_is); (case k10 => k_is)
    (case a11 => k_is); (case l11 => k_is); (case c11 => k_is); (case k11 => k_is)
    (case a12 => k_is); (case l12 => k_is); (case c12 => k_is); (case k12 => k_is)
    (case a13 => k_is); (case l13 => k_is); (case c13 => k_is); (case k13 => k_is)
    (case a14 => k_is); (case l14 => k_is); (case c14 => k_is); (case k14 => k_is)
    (case a15 => k_is); (case l15 => k_is); (case c15 => k_is); (case k15 => k_is)
    (case a16 => k_is); (case l16 => k_is); (case c16 => k_is); (case k16 => k_is)
    (case a17 => k_is); (case l17 => k_is); (case c17 => k_is); (case k17 => k_is)
    (case a18 => k_is); (case l18 => k_is); (case c18 => k_is); (case k18 => k_is)
    (case a19 => k_is); (case l19 => k_is); (case c19 => k_is); (case k19 => k_is)
    (case a20 => k_is); (case l20 => k_is); (case c20 => k_is); (case k20 => k_is)
    (case a21 => k_is); (case l21 => k_is); (case c21 => k_is); (case k21 => k_is)
    (case a22 => k_is); (case l22 => k_is); (case c22 => k_is); (case k22 => k_is)
    (case a23 => k_is); (case l23 => k_is); (case c23 => k_is); (case k23 => k_is)
    (case z0 => k_is); (case z1 => k_is); (case z2 => k_is); (case z3 => k_is); (case z4 => k_is); (case z5 => k_is); (case z6 => k_is); (case z7 => k_is); (case z8 => k_is); (case z9 => k_is); (case z10 => k_is); (case z11 => k_is); (case z12 => k_is); (case z13 => k_is); (case z14 => k_is); (case z15 => k_is); (case z16 => k_is); (case z17 => k_is); (case z18 => k_is)

