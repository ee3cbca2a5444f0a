import PyProof.Rows.All
import Open.Row
import PyProof.Cells
import PyProof.CompFree
import PyProof.DefCall
import PyProof.StationsW
import PyProof.DictList
import PyProof.DictKinds
import OpenK.KWalk
import OpenK.KCls
import PyProof.DictTable
import PyProof.EnumFor
import PyProof.EnumStmt
import PyProof.EnumMake
import PyProof.ZipIter
import PyProof.WalksPairs
import PyProof.StrLoop
import PyProof.StrWalks
import PyProof.Raises
import PyProof.AssignAttr
import PyProof.ExcClass2
import PyProof.ExcBaseAll.ValueError
import PyProof.RulesAs
import PyProof.IsiHeapPairs
import PyProof.EqAt
import KE.KDictList
import KE.KDictSum
import KE.KDictOf
import KE.KIsAll
import PyProof.ExcArgsOwn
import PyProof.ExcAttrAll.ValueError
import PyProof.Rows.SortStr
import PyProof.Rows.SortShell
import PyProof.Conv_int_bool
import PyProof.CallStr
import KE.KRevIter
import PyProof.StrLawsIn
import PyProof.CollectIter
import PyProof.DictUpdate
import PyProof.MeetsDict
import PyProof.ListOps
import PyProof.AutoSeq1
import KE.KDictLaws
import PyProof.ExcQuiet
import OpenK.TopRead
import Open.Pieces
import Open.Script
import Wide.All
import OpenK.AllK
import Wide.FinOn
import PySem.Challenge.RW_uf030017_03
set_option linter.all false
set_option Elab.async false
set_option maxRecDepth 100000
namespace Mine
open PySem

theorem size_upd (h : Heap) (a : Addr) (f : Obj → Obj) : (h.update a f).objs.size = h.objs.size := by
  cases h; simp [Heap.update]

theorem runs_size {M : Model} {Γ : Ctx} {p : Pos} {t : Sem Fin} {fs : List Frame} {s s' : Shared} {e : End} (h : Runs M Γ p t fs s e s') : s.heap.objs.size ≤ s'.heap.objs.size := by
  induction h <;> (try simp only [Shared.setGen, size_upd, Heap.size_push] at *) <;> (first | lia | omega)

theorem wakes_size {M : Model} {Γ : Ctx} {p : Pos} {g : Nat} {r : Resume} {s s' : Shared} {res : GenResult} (h : Wakes M Γ p g r s res s') : s.heap.objs.size ≤ s'.heap.objs.size := by
  unfold Wakes at h
  split at h
  · exact h.elim
  · split at h
    · obtain ⟨e₁, s₁, hr, _, _, rfl⟩ := h; exact (runs_size hr : (s.setGen g .running).heap.objs.size ≤ s₁.heap.objs.size)
    · rw [h.2]; exact Nat.le_refl _
    · rw [h.2]; exact Nat.le_refl _
  · obtain ⟨e₁, s₁, hr, _, _, rfl⟩ := h; exact (runs_size hr : (s.setGen g .running).heap.objs.size ≤ s₁.heap.objs.size)
  · rw [h.2]; exact Nat.le_refl _
  · rw [h.2]; exact Nat.le_refl _

theorem wp_size {α : Type} (M : Model) (Γ : Ctx) (n : Nat) (t : Sem α) : ∀ (Q : α → Pos → Shared → Prop) (E : Value → Pos → Shared → Prop) (p : Pos) (s : Shared), n ≤ s.heap.objs.size → Sem.wp M Γ t Q E p s →
    Sem.wp M Γ t (fun a p' s' => n ≤ s'.heap.objs.size ∧ Q a p' s') (fun e p' s' => n ≤ s'.heap.objs.size ∧ E e p' s') p s := by
  induction t with
  | pure a => intro Q E p s hn h; exact ⟨hn, h⟩
  | raise e => intro Q E p s hn h; exact ⟨hn, h⟩
  | unsupported _ => intro Q E p s _ h; exact h
  | finish _ => intro Q E p s _ h; exact h
  | rule _ k ih => intro Q E p s hn h; exact ih () Q E p s hn h
  | «at» p' k ih => intro Q E p s hn h; exact ih () Q E p' s hn h
  | load a _ k ih => intro Q E p s hn h; obtain ⟨o, ho, h⟩ := h; exact ⟨o, ho, ih o Q E p s hn h⟩
  | update a _ f k ih => intro Q E p s hn h; exact ⟨h.1, ih () Q E p _ (by show n ≤ (s.heap.update a f).objs.size; rw [size_upd]; exact hn) h.2⟩
  | loadIfAlive a k ih => intro Q E p s hn h; exact ih _ Q E p s hn h
  | point _ k ih => intro Q E p s hn h; exact ih () Q E p s hn h
  | register _ _ => intro Q E p s _ h; exact h
  | alloc o k ih => intro Q E p s hn h; exact ih _ Q E p _ (by show n ≤ (s.heap.push o).objs.size; rw [Heap.size_push]; exact Nat.le_succ_of_le hn) h
  | fresh k ih => intro Q E p s hn h; exact ih _ Q E p _ hn h
  | ask k ih => intro Q E p s hn h; exact ih _ Q E p s hn h
  | choose src m k ih => intro Q E p s hn h; exact ⟨h.1, ih _ Q E p _ hn h.2⟩
  | os q _ k ih => intro Q E p s hn h; exact ih _ Q E p _ hn h
  | call c hd _ _ k ih => intro Q E p s hn h; obtain ⟨r, s', hr, h⟩ := h; exact ⟨r, s', hr, ih r Q E p s' (Nat.le_trans hn (runs_size hr)) h⟩
  | handled own k ih => intro Q E p s hn h; exact ih _ Q E p s hn h
  | genState g k ih => intro Q E p s hn h; obtain ⟨st, hs, h⟩ := h; exact ⟨st, hs, ih _ Q E p s hn h⟩
  | newGen c k ih => intro Q E p s hn h; exact ih _ Q E p _ hn h
  | resume g r _ k ih => intro Q E p s hn h; obtain ⟨res, s', hw, h⟩ := h; exact ⟨res, s', hw, ih res Q E p s' (Nat.le_trans hn (wakes_size hw)) h⟩
  | yield _ _ _ _ => intro Q E p s _ h; exact h
  | stack k ih => intro Q E p s hn h; exact ih _ Q E p s hn h
  | fork _ _ => intro Q E p s _ h; exact h
  | thread k ih => intro Q E p s hn h; exact ih _ Q E p s hn h
  | await _ _ _ _ _ => intro Q E p s _ h; exact h

/-- no tree makes the heap shorter -/
theorem sized {α : Type} {M : Model} {A : Around} {s : Shared} {t : Sem α} {Q : α → Shared → Prop} {E : Value → Shared → Prop} (h : wpAny M A t (fun a s' => s.heap.objs.size ≤ s'.heap.objs.size → Q a s') (fun e s' => s.heap.objs.size ≤ s'.heap.objs.size → E e s') s) :
    wpAny M A t Q E s := fun Γ p hΓ => Sem.wp_mono M Γ _ (fun _ _ _ x => x.2 x.1) (fun _ _ _ x => x.2 x.1) p s (wp_size M Γ s.heap.objs.size t _ _ p s (Nat.le_refl _) (h Γ p hΓ))
theorem codeSized {M : Model} {A : Around} {s : Shared} {c : Code} {R : Result → Shared → Prop} (h : codeAny M A c (fun r s' => s.heap.objs.size ≤ s'.heap.objs.size → R r s') s) : codeAny M A c R s := fun Γ p hc hΓ => by
  obtain ⟨r, s', hr, hR⟩ := h Γ p hc hΓ
  exact ⟨r, s', hr, hR (runs_size hr)⟩
end Mine

set_option maxRecDepth 100000
set_option genSizeOf false
set_option genSizeOfSpec false
set_option genInjectivity false
namespace Mine
open PySem

/-! The small language: values, heap, results. An instance is its class and the place of its attributes. -/
inductive V where
  | none | bool (b : Bool) | int (i : Int) | str (x : List Nat) | ref (i : Nat) | tup (vs : List V) | inst (c d : Nat) | exc (c : Nat) | scr
  deriving Inhabited

inductive O where
  | list (xs : List V) | dict (kvs : List (List Nat × V))
  deriving Inhabited

noncomputable abbrev H := List O

inductive R (α : Type) where
  | ok (a : α) (σ : H) | exc (c : Nat) (σ : H) | stuck

noncomputable abbrev M (α : Type) := H → R α

noncomputable def M.ret {α : Type} (a : α) : M α := fun σ => .ok a σ
noncomputable def M.bnd {α β : Type} (m : M α) (f : α → M β) : M β := fun σ => match m σ with
  | .ok a σ' => f a σ'
  | .exc c σ' => .exc c σ'
  | .stuck => .stuck
noncomputable def stuck {α : Type} : M α := fun _ => .stuck

noncomputable def lim : Nat := 16777216
/-- the list, or the dict, at a place -/
noncomputable def listAt (σ : H) (l : Nat) : Option (List V) := match σ[l]? with
  | some (.list xs) => some xs
  | _ => .none
noncomputable def dictAt (σ : H) (l : Nat) : Option (List (List Nat × V)) := match σ[l]? with
  | some (.dict kvs) => some kvs
  | _ => .none
noncomputable def onL {α : Type} (l : Nat) (f : List V → M α) : M α := fun σ => match listAt σ l with
  | some xs => f xs σ
  | .none => .stuck
noncomputable def onD {α : Type} (l : Nat) (f : List (List Nat × V) → M α) : M α := fun σ => match dictAt σ l with
  | some kvs => f kvs σ
  | .none => .stuck
noncomputable def pick {α : Type} (o : Option α) : M α := match o with
  | some v => .ret v
  | .none => stuck
noncomputable def onS {α : Type} (a : V) (f : List Nat → M α) : M α := match a with
  | .str x => f x
  | _ => stuck
noncomputable def one {α : Type} (x : List Nat) (f : Nat → M α) : M α := match x with
  | [c] => f c
  | _ => stuck
noncomputable def newO (o : O) : M V := fun σ => .ok (.ref σ.length) (σ ++ [o])
noncomputable def newL (xs : List V) : M V := if xs.length ≤ lim then newO (.list xs) else stuck
noncomputable def newD (kvs : List (List Nat × V)) : M V := if kvs.length ≤ lim then newO (.dict kvs) else stuck
noncomputable def mkS (x : List Nat) : M V := if x.length ≤ lim then .ret (.str x) else stuck
noncomputable def mkT (vs : List V) : M V := if vs.length ≤ lim then .ret (.tup vs) else stuck
noncomputable def putL (l : Nat) (xs : List V) : M V := if xs.length ≤ lim then fun σ => .ok .none (σ.set l (.list xs)) else stuck
noncomputable def putD (l : Nat) (kvs : List (List Nat × V)) : M V := if kvs.length ≤ lim then fun σ => .ok .none (σ.set l (.dict kvs)) else stuck

noncomputable def dget : List (List Nat × V) → List Nat → Option V
  | [], _ => .none
  | (a, v) :: r, k => if a = k then some v else dget r k
noncomputable def dput : List (List Nat × V) → List Nat → V → List (List Nat × V)
  | [], k, v => [(k, v)]
  | (a, x) :: r, k, v => if a = k then (a, v) :: r else (a, x) :: dput r k v
noncomputable def dputs (d : List (List Nat × V)) (ps : List (List Nat × V)) : List (List Nat × V) := ps.foldl (fun d p => dput d p.1 p.2) d

/-! Equality as the model has it, where it is settled by the kinds below. -/
noncomputable def veqs (f : V → V → Option Bool) : List V → List V → Option Bool
  | [], [] => some true
  | x :: xs, y :: ys => match f x y, veqs f xs ys with
    | some p, some q => some (p && q)
    | _, _ => .none
  | _, _ => some false
/-- what is compared by itself -/
inductive At where
  | none | int (i : Int) | str (x : List Nat)
  deriving DecidableEq
noncomputable def atom : V → Option At
  | .none => some .none
  | .int i => some (.int i)
  | .str x => some (.str x)
  | _ => .none
/-- what is compared item by item: a tuple or a list -/
noncomputable def row (σ : H) : V → Option (Bool × List V)
  | .tup xs => some (true, xs)
  | .ref i => (listAt σ i).map fun xs => (false, xs)
  | _ => .none
noncomputable def veq : Nat → H → V → V → Option Bool
  | 0, _, _, _ => .none
  | n + 1, σ, a, b => match atom a with
    | some x => match atom b with
      | some y => some (decide (x = y))
      | .none => .none
    | .none => match row σ a with
      | some p => match row σ b with
        | some q => if p.1 = q.1 then (if p.2.length = q.2.length then veqs (veq n σ) p.2 q.2 else if p.1 then .none else some false) else .none
        | .none => .none
      | .none => .none
noncomputable def eqD : Nat := 6

/-! Names, operators, the trees. -/
inductive Bin where | add | sub | mul | fdiv | mod | pow
inductive Cmp where | eq | ne | lt | le | gt | ge | is | isnt | isin | notin
inductive Ty where | int | bool | str | list | tuple | cls (c : Nat) | valueError
inductive Bi where | len | list | sorted | dict | str | int
inductive Me where | append | count | find | get | update | startswith

mutual
inductive E where
  | lit (v : V) | con (v : V) | var (k : Nat) | bin (op : Bin) (a b : E) | not (a : E) | neg (a : E) | and (es : List E) | or (es : List E)
  | cmp (op : Cmp) (a b : E)
  | call (f : Nat) (es : List E)
  | bi (b : Bi) (e : E) | listRev (e : E) | isi (e : E) (t : Ty) | me (o : E) (m : Me) (es : List E)
  | idx (a i : E) | slice (a lo hi : E) | nil
  | list (es : List E) | tup (es : List E) | dict0
  | comp (src : Src) (elt : E) | compIf (src : Src) (elt cond : E)
inductive Src where
  | of (e : E) | range (e : E) | enum (e : E) | zip (a b : E)
end

mutual
inductive S where
  | assign (k : Nat) (e : E) | setitem (a i e : E) | expr (e : E) | ret (e : E)
  | ite (c : E) (t f : List S) | forN (k : Nat) (src : Src) (body : List S) | forP (k k' : Nat) (src : Src) (body : List S)
  | raise (c : Nat) | try (body : List S) (hs : List Hd) | dead
inductive Hd where
  | mk (c : Nat) (k : Option Nat) (body : List S)
end

structure Fn where
  nargs : Nat
  n : Nat
  body : List S

/-! Operators on values. -/
noncomputable def idxN (k : Int) (n : Nat) : Option Nat :=
  if 0 ≤ k then (if k.toNat < n then some k.toNat else .none) else (if 0 ≤ k + n then some (k + n).toNat else .none)
noncomputable def clampN (k : Int) (n : Nat) : Nat := if 0 ≤ k then min k.toNat n else (k + n).toNat
noncomputable def cut {α : Type} (xs : List α) (lo hi : Option Int) : List α :=
  let a := match lo with | some k => clampN k xs.length | .none => 0
  let b := match hi with | some k => clampN k xs.length | .none => xs.length
  (xs.drop a).take (b - a)

noncomputable def optInt : V → Option (Option Int)
  | .none => some .none
  | .int k => some (some k)
  | _ => .none

section
variable (ns : List Int)

noncomputable def lenV (a : V) : M V := match a with
  | .ref l => onL l fun xs => .ret (.int xs.length)
  | .tup xs => .ret (.int xs.length)
  | .str x => .ret (.int x.length)
  | .scr => .ret (.int ns.length)
  | _ => stuck

noncomputable def idxV (a i : V) : M V := match i with
  | .int k => match a with
    | .ref l => onL l fun xs => pick ((idxN k xs.length).bind (xs[·]?))
    | .tup xs => pick ((idxN k xs.length).bind (xs[·]?))
    | .str x => pick (((idxN k x.length).bind (x[·]?)).map fun c => V.str [c])
    | .scr => pick (((idxN k ns.length).bind (ns[·]?)).map V.int)
    | _ => stuck
  | .str x => match a with
    | .ref l => onD l fun kvs => pick (dget kvs x)
    | _ => stuck
  | _ => stuck

noncomputable def sliceV (a lo hi : V) : M V := match optInt lo, optInt hi with
  | some l, some h => match a with
    | .ref i => onL i fun xs => newL (cut xs l h)
    | .str x => mkS (cut x l h)
    | .scr => newL ((cut ns l h).map V.int)
    | _ => stuck
  | _, _ => stuck

noncomputable def small (i : Int) : Bool := decide (-18446744073709551616 < i ∧ i < 18446744073709551616)
noncomputable def i2 (a b : V) (f : Int → Int → M V) : M V := match a with
  | .int x => match b with
    | .int y => f x y
    | _ => stuck
  | _ => stuck
noncomputable def addV (a b : V) : M V := match a with
  | .int x => match b with
    | .int y => .ret (.int (x + y))
    | _ => stuck
  | .str x => match b with
    | .str y => mkS (x ++ y)
    | _ => stuck
  | .ref i => match b with
    | .ref j => onL i fun xs => onL j fun ys => newL (xs ++ ys)
    | _ => stuck
  | _ => stuck
noncomputable def binV (op : Bin) (a b : V) : M V := match op with
  | .add => addV a b
  | .sub => i2 a b fun x y => .ret (.int (x - y))
  | .mul => i2 a b fun x y => if small x || small y then .ret (.int (x * y)) else stuck
  | .fdiv => i2 a b fun x y => if 0 < y ∧ y < 1073741824 then .ret (.int (x.fdiv y)) else stuck
  | .mod => i2 a b fun x y => if y = 0 then stuck else .ret (.int (x.fmod y))
  | .pow => i2 a b fun x y => if x = 10 ∧ (y = 30 ∨ y = 20) then .ret (.int (10 ^ y.toNat)) else stuck

noncomputable def strsOf : List V → Option (List (List Nat))
  | [] => some []
  | .str x :: r => (strsOf r).map (x :: ·)
  | _ :: _ => .none
noncomputable def eqM (a b : V) (neg : Bool) : M V := fun σ => match veq eqD σ a b with
  | some r => .ok (.bool (r != neg)) σ
  | .none => .stuck
/-- equality of plain values of one kind -/
noncomputable def feq (a b : V) : Option Bool := match a with
  | .bool x => match b with
    | .bool y => some (x == y)
    | _ => .none
  | .int x => match b with
    | .int y => some (decide (x = y))
    | _ => .none
  | .str x => match b with
    | .str y => some (decide (x = y))
    | _ => .none
  | _ => .none
noncomputable def anyEq (a : V) : List V → Option Bool
  | [] => some false
  | x :: xs => match feq x a, anyEq a xs with
    | some p, some q => some (p || q)
    | _, _ => .none
noncomputable def yes (neg : Bool) (b : Bool) : V := .bool (b != neg)
noncomputable def inM (a b : V) (neg : Bool) : M V := match b with
  | .tup xs => pick ((anyEq a xs).map (yes neg))
  | .ref l => fun σ => match σ[l]? with
    | some (.list xs) => pick ((anyEq a xs).map (yes neg)) σ
    | some (.dict kvs) => onS a (fun x => .ret (yes neg (dget kvs x).isSome)) σ
    | .none => .stuck
  | .str y => onS a fun x => one x fun c => .ret (yes neg (y.contains c))
  | _ => stuck
noncomputable def isNoneV : V → Bool
  | .none => true
  | _ => false
noncomputable def cmpV (op : Cmp) (a b : V) : M V := match op with
  | .eq => eqM a b false
  | .ne => eqM a b true
  | .isin => inM a b false
  | .notin => inM a b true
  | .is => match b with
    | .none => .ret (.bool (isNoneV a))
    | _ => stuck
  | .isnt => match b with
    | .none => .ret (.bool (!isNoneV a))
    | _ => stuck
  | .lt => i2 a b fun x y => .ret (.bool (decide (x < y)))
  | .le => i2 a b fun x y => .ret (.bool (decide (x ≤ y)))
  | .gt => i2 a b fun x y => .ret (.bool (decide (y < x)))
  | .ge => i2 a b fun x y => .ret (.bool (decide (y ≤ x)))

noncomputable def notV : V → M V
  | .bool b => .ret (.bool (!b))
  | _ => stuck
noncomputable def negV : V → M V
  | .int i => .ret (.int (-i))
  | _ => stuck

/-- the kind of a value that is no instance -/
noncomputable def tyIs (σ : H) (v : V) : Option Ty := match v with
  | .none => some .valueError
  | .bool _ => some .bool
  | .int _ => some .int
  | .str _ => some .str
  | .tup _ => some .tuple
  | .ref l => (listAt σ l).map fun _ => .list
  | _ => .none
/-- instances, by kind -/
noncomputable def tyHas (t : Ty) (k : Ty) : Bool := match t with
  | .int => match k with
    | .int => true
    | .bool => true
    | _ => false
  | .bool => match k with
    | .bool => true
    | _ => false
  | .str => match k with
    | .str => true
    | _ => false
  | .list => match k with
    | .list => true
    | _ => false
  | .tuple => match k with
    | .tuple => true
    | _ => false
  | _ => false
noncomputable def plainTy : Ty → Bool
  | .cls _ => false
  | .valueError => false
  | _ => true
noncomputable def isiV (sub : Nat → Nat → Bool) (t : Ty) (v : V) : M V := fun σ => match v with
  | .exc e => match t with
    | .cls c => .ok (.bool (sub e c)) σ
    | .valueError => .ok (.bool true) σ
    | _ => .stuck
  | v => if plainTy t then match tyIs σ v with
      | some k => .ok (.bool (tyHas t k)) σ
      | .none => .stuck
    else .stuck

/-! Sorting, as insertion. -/
noncomputable def lexLe : List Nat → List Nat → Bool
  | [], _ => true
  | _ :: _, [] => false
  | a :: x, b :: y => if a < b then true else if b < a then false else lexLe x y
noncomputable def ins {α : Type} (le : α → α → Bool) (x : α) : List α → List α
  | [] => [x]
  | y :: r => if le x y then x :: y :: r else y :: ins le x r
noncomputable def sort {α : Type} (le : α → α → Bool) (xs : List α) : List α := xs.foldr (ins le) []
noncomputable def digs (n : Nat) : List Nat := if n < 10 then [48 + n] else if n < 100 then [48 + n / 10, 48 + n % 10] else [48 + n / 100, 48 + n / 10 % 10, 48 + n % 10]
/-- what `list` and `sorted` go through -/
noncomputable def itemsV (σ : H) (v : V) : Option (List V) := match v with
  | .tup xs => some xs
  | .ref l => match σ[l]? with
    | some (.list xs) => some xs
    | some (.dict kvs) => some (kvs.map fun p => V.str p.1)
    | .none => .none
  | _ => .none
/-- fewer than 64 -/
noncomputable def sortV (xs : List V) : Option (List V) := if xs.length < 64 then (strsOf xs).map fun ss => (sort lexLe ss).map V.str else .none
noncomputable def biV (b : Bi) (a : V) : M V := match b with
  | .len => lenV ns a
  | .list => fun σ => (pick (itemsV σ a)).bnd newL σ
  | .sorted => match a with
    | .ref _ => fun σ => (pick ((itemsV σ a).bind sortV)).bnd newL σ
    | _ => stuck
  | .dict => match a with
    | .ref l => onD l newD
    | _ => stuck
  | .str => match a with
    | .int i => if 0 ≤ i ∧ i < 1000 then .ret (.str (digs i.toNat)) else stuck
    | _ => stuck
  | .int => match a with
    | .bool b => .ret (.int (if b then 1 else 0))
    | _ => stuck
noncomputable def revV (a : V) : M V := match a with
  | .ref l => onL l fun xs => newL xs.reverse
  | _ => stuck

noncomputable def pre : List Nat → List Nat → Bool
  | [], _ => true
  | _ :: _, [] => false
  | a :: x, b :: y => a == b && pre x y
noncomputable def findN (c : Nat) : List Nat → Nat → Int
  | [], _ => -1
  | x :: r, i => if x = c then i else findN c r (i + 1)
noncomputable def countT : List V → Option Nat
  | [] => some 0
  | .bool b :: r => (countT r).map (· + if b then 1 else 0)
  | _ :: _ => .none
/-- methods of strings, of lists, of dicts -/
noncomputable def meS (x : List Nat) (m : Me) (as : List V) : M V := match m with
  | .startswith => match as with
    | [.str y] => .ret (.bool (pre y x))
    | _ => stuck
  | .find => match as with
    | [.str [c]] => .ret (.int (findN c x 0))
    | _ => stuck
  | _ => stuck
noncomputable def meL (l : Nat) (xs : List V) (m : Me) (as : List V) : M V := match m with
  | .append => match as with
    | [v] => putL l (xs ++ [v])
    | _ => stuck
  | .count => match as with
    | [.bool true] => pick ((countT xs).map fun (n : Nat) => V.int n)
    | _ => stuck
  | _ => stuck
noncomputable def meD (l : Nat) (kvs : List (List Nat × V)) (m : Me) (as : List V) : M V := match m with
  | .get => match as with
    | [.str x] => .ret ((dget kvs x).getD .none)
    | [.str x, v] => .ret ((dget kvs x).getD v)
    | _ => stuck
  | .update => match as with
    | [.ref j] => if j = l then stuck else onD j fun qs => if kvs.length + qs.length ≤ lim then putD l (dputs kvs qs) else stuck
    | _ => stuck
  | _ => stuck
/-- which kind has a method -/
noncomputable def meOn : Me → Nat
  | .startswith => 0 | .find => 0 | .append => 1 | .count => 1 | .get => 2 | .update => 2
noncomputable def meV (o : V) (m : Me) (as : List V) : M V := match o with
  | .str x => meS x m as
  | .ref l => fun σ => match σ[l]? with
    | some (.list xs) => meL l xs m as σ
    | some (.dict kvs) => meD l kvs m as σ
    | .none => .stuck
  | _ => stuck
/-- a method is there -/
noncomputable def meK (m : Me) (x : V) : M V := match x with
  | .str _ => if meOn m = 0 then .ret .none else stuck
  | .ref l => fun σ => match σ[l]? with
    | some (.list _) => if meOn m = 1 then .ok .none σ else .stuck
    | some (.dict _) => if meOn m = 2 then .ok .none σ else .stuck
    | .none => .stuck
  | _ => stuck
/-- a store by key or place; an attribute, and its store -/
noncomputable def setV (a i v : V) : M V := match a with
  | .ref l => match i with
    | .int k => onL l fun xs => if 0 ≤ k ∧ k.toNat < xs.length then putL l (xs.set k.toNat v) else stuck
    | .str x => onD l fun kvs => putD l (dput kvs x v)
    | _ => stuck
  | _ => stuck
/-! Going through. -/
inductive It where
  | list (l i : Nat) | range (i n : Nat) | enum (l i : Nat) | zip (l m i : Nat) | seq (x : List Nat) (i : Nat)

noncomputable def nextIt (it : It) (σ : H) : Option (Option (V × It)) := match it with
  | .list l i => (listAt σ l).map fun xs => (xs[i]?).map fun v => (v, .list l (i + 1))
  | .range i n => some (if i < n then some (.int i, .range (i + 1) n) else .none)
  | .enum l i => (listAt σ l).map fun xs => (xs[i]?).map fun v => (.tup [.int i, v], .enum l (i + 1))
  | .zip l m i => (listAt σ l).bind fun xs => (listAt σ m).map fun ys => (xs[i]?).bind fun v => (ys[i]?).map fun w => (.tup [v, w], .zip l m (i + 1))
  | .seq x i => some ((x[i]?).map fun c => (.str [c], .seq x (i + 1)))
noncomputable def listN (v : V) (σ : H) : Option (Nat × Nat) := match v with
  | .ref l => (listAt σ l).map fun xs => (l, xs.length)
  | _ => .none
noncomputable def iterV (v : V) (σ : H) : Option (It × Nat) := match v with
  | .ref l => (listAt σ l).map fun xs => (.list l 0, xs.length)
  | .str x => some (.seq x 0, x.length)
  | _ => .none
noncomputable def rangeV : V → M (It × Nat)
  | .int k => if -4611686018427387904 < k ∧ k < 4611686018427387904 then .ret (.range 0 k.toNat, k.toNat) else stuck
  | _ => stuck
noncomputable abbrev Env := List (Option V)

structure Calls where
  call : Nat → List V → M V
  new : Nat → List V → M V
  /-- the def behind a method of an instance -/
  mlook : V → List Nat → M Nat
  sub : Nat → Nat → Bool
  /-- nothing is being handled: loops may run -/
  hn : Bool

noncomputable def gather (f : V → M (Option V)) : Nat → It → List V → M (List V)
  | n, it, acc => fun σ => match nextIt it σ with
    | some .none => .ok acc σ
    | some (some (v, it')) => match n with
      | 0 => .stuck
      | m + 1 => match f v σ with
        | .ok (some x) σ' => if acc.length + 1 ≤ lim then gather f m it' (acc ++ [x]) σ' else .stuck
        | .ok .none σ' => gather f m it' acc σ'
        | _ => .stuck
    | .none => .stuck
noncomputable def pickI (o : H → Option (It × Nat)) : M (It × Nat) := fun σ => pick (o σ) σ

mutual
noncomputable def evE (C : Calls) (ρ : Env) : E → M V
  | .lit v => .ret v
  | .con v => .ret v
  | .var k => match ρ[k]? with
    | some (some v) => .ret v
    | _ => stuck
  | .bin op a b => (evE C ρ a).bnd fun x => (evE C ρ b).bnd fun y => binV op x y
  | .not a => (evE C ρ a).bnd notV
  | .neg a => (evE C ρ a).bnd negV
  | .and es => evAnd C ρ es
  | .or es => evOr C ρ es
  | .cmp op a b => (evE C ρ a).bnd fun x => (evE C ρ b).bnd fun y => cmpV op x y
  | .call f es => (evEs C ρ es).bnd fun vs => C.call f vs
  | .bi b e => (evE C ρ e).bnd fun v => if C.hn then biV ns b v else stuck
  | .listRev e => (evE C ρ e).bnd fun v => if C.hn then revV v else stuck
  | .nil => .ret .none
  | .isi e t => (evE C ρ e).bnd fun x => isiV C.sub t x
  | .me o m es => (evE C ρ o).bnd fun x => (meK m x).bnd fun _ => (evEs C ρ es).bnd fun vs => meV x m vs
  | .idx a i => (evE C ρ a).bnd fun x => (evE C ρ i).bnd fun y => idxV ns x y
  | .slice a lo hi => (evE C ρ a).bnd fun x => (evE C ρ lo).bnd fun l => (evE C ρ hi).bnd fun h => sliceV ns x l h
  | .list es => (evEs C ρ es).bnd newL
  | .tup es => (evEs C ρ es).bnd mkT
  | .dict0 => newD []
  | .comp src elt => (evSrc C ρ src).bnd fun p => (if C.hn then gather (fun v => (evE C (ρ ++ [some v]) elt).bnd fun x => .ret (some x)) p.2 p.1 [] else stuck).bnd newO'
  | .compIf src elt cond => (evSrc C ρ src).bnd fun p => (if C.hn then gather (fun v => (evE C (ρ ++ [some v]) cond).bnd fun t => match t with
      | .bool true => (evE C (ρ ++ [some v]) elt).bnd fun x => .ret (some x)
      | .bool false => .ret .none
      | _ => stuck) p.2 p.1 [] else stuck).bnd newO'
  where newO' (xs : List V) : M V := newO (.list xs)
noncomputable def evEs (C : Calls) (ρ : Env) : List E → M (List V)
  | [] => .ret []
  | e :: r => (evE C ρ e).bnd fun x => (evEs C ρ r).bnd fun xs => .ret (x :: xs)
noncomputable def evAnd (C : Calls) (ρ : Env) : List E → M V
  | [] => stuck
  | e :: r => (evE C ρ e).bnd fun v => match v with
    | .bool b => match r with
      | [] => .ret (.bool b)
      | _ :: _ => if b then evAnd C ρ r else .ret (.bool false)
    | _ => stuck
noncomputable def evOr (C : Calls) (ρ : Env) : List E → M V
  | [] => stuck
  | e :: r => (evE C ρ e).bnd fun v => match v with
    | .bool b => match r with
      | [] => .ret (.bool b)
      | _ :: _ => if b then .ret (.bool true) else evOr C ρ r
    | _ => stuck
noncomputable def evSrc (C : Calls) (ρ : Env) : Src → M (It × Nat)
  | .of e => (evE C ρ e).bnd fun v => pickI (iterV v)
  | .range e => (evE C ρ e).bnd rangeV
  | .enum e => (evE C ρ e).bnd fun v => pickI fun σ => (listN v σ).map fun p => (.enum p.1 0, p.2)
  | .zip a b => (evE C ρ a).bnd fun v => (evE C ρ b).bnd fun w => pickI fun σ => (listN v σ).bind fun p => (listN w σ).map fun q => (.zip p.1 q.1 0, p.2)
end

inductive Fl where
  | next | ret (v : V)
inductive RS where
  | ok (f : Fl) (ρ : Env) (σ : H) | exc (c : Nat) (ρ : Env) (σ : H) | stuck

noncomputable def RS.ofE {α : Type} (r : R α) (ρ : Env) (k : α → H → RS) : RS := match r with
  | .ok a σ => k a σ
  | .exc c σ => .exc c ρ σ
  | .stuck => .stuck

noncomputable def forLoop (tgt : V → Env → Option Env) (body : Env → H → RS) : Nat → It → Env → H → RS
  | n, it, ρ, σ => match nextIt it σ with
    | some .none => .ok .next ρ σ
    | some (some (v, it')) => match n with
      | 0 => .stuck
      | m + 1 => match tgt v ρ with
        | .none => .stuck
        | some ρ' => match body ρ' σ with
          | .ok .next ρ'' σ' => forLoop tgt body m it' ρ'' σ'
          | r => r
    | .none => .stuck
noncomputable def tgtN (k : Nat) (v : V) (ρ : Env) : Option Env := if k < ρ.length then some (ρ.set k (some v)) else .none
noncomputable def tgtP (k k' : Nat) (v : V) (ρ : Env) : Option Env := match v with
  | .tup [a, b] => if k < ρ.length ∧ k' < ρ.length then some ((ρ.set k (some a)).set k' (some b)) else .none
  | _ => .none
/-- under a handler: no calls, no loops -/
noncomputable def Calls.calm (C : Calls) : Calls := ⟨fun _ _ => stuck, fun _ _ => stuck, fun _ _ => stuck, C.sub, false⟩

mutual
noncomputable def evS (C : Calls) (ρ : Env) (σ : H) : S → RS
  | .assign k e => RS.ofE (evE ns C ρ e σ) ρ fun v σ' => if k < ρ.length then .ok .next (ρ.set k (some v)) σ' else .stuck
  | .setitem a i e => RS.ofE (((evE ns C ρ e).bnd fun v => (evE ns C ρ a).bnd fun x => (evE ns C ρ i).bnd fun k => setV x k v) σ) ρ fun _ σ' => .ok .next ρ σ'
  | .expr e => RS.ofE (evE ns C ρ e σ) ρ fun _ σ' => .ok .next ρ σ'
  | .ret e => RS.ofE (evE ns C ρ e σ) ρ fun v σ' => .ok (.ret v) ρ σ'
  | .ite c t f => RS.ofE (evE ns C ρ c σ) ρ fun v σ' => match v with
    | .bool true => evSs C ρ σ' t
    | .bool false => evSs C ρ σ' f
    | _ => .stuck
  | .forN k src body => RS.ofE (evSrc ns C ρ src σ) ρ fun p σ' => if C.hn then (forLoop (tgtN k) (fun ρ σ => evSs C ρ σ body) p.2 p.1 ρ σ') else .stuck
  | .forP k k' src body => RS.ofE (evSrc ns C ρ src σ) ρ fun p σ' => if C.hn then (forLoop (tgtP k k') (fun ρ σ => evSs C ρ σ body) p.2 p.1 ρ σ') else .stuck
  | .raise c => if C.hn then .exc c ρ σ else .stuck
  | .dead => .stuck
  | .try body hs => match evSs C ρ σ body with
    | .exc c ρ' σ' => if C.hn then evHs C.calm c ρ' σ' hs else .stuck
    | r => r
noncomputable def evSs (C : Calls) (ρ : Env) (σ : H) : List S → RS
  | [] => .ok .next ρ σ
  | s :: r => match evS C ρ σ s with
    | .ok .next ρ' σ' => evSs C ρ' σ' r
    | x => x
noncomputable def evHs (C : Calls) (c : Nat) (ρ : Env) (σ : H) : List Hd → RS
  | [] => .stuck
  | h :: r => match h with
    | .mk c' k body => if C.sub c c' then
        match k with
        | .none => match evSs C ρ σ body with
          | .ok f ρ' σ' => .ok f ρ' σ'
          | _ => .stuck
        | some j => if j < ρ.length then match evSs C (ρ.set j (some (.exc c))) σ body with
            | .ok f ρ' σ' => .ok f (ρ'.map fun _ => .none) σ'
            | _ => .stuck
          else .stuck
      else evHs C c ρ σ r
end

/-- a call of a def -/
noncomputable def evF (C : Calls) (fn : Fn) (vs : List V) : M V := fun σ => if vs.length = fn.nargs then
    match evSs ns C (vs.map some ++ List.replicate (fn.n - fn.nargs) .none) σ fn.body with
    | .ok (.ret v) _ σ' => .ok v σ'
    | .ok .next _ σ' => .ok .none σ'
    | .exc c _ σ' => .exc c σ'
    | .stuck => .stuck
  else .stuck
end

/-- the text's defs and classes: a class has its init and its methods by name -/
structure Tab where
  fns : List Fn
  cls : List (Nat × List (List Nat × Nat))
  sub : Nat → Nat → Bool

noncomputable def mlookOf (T : Tab) (o : V) (m : List Nat) : M Nat := match o with
  | .inst c d => onD d fun kvs => match dget kvs m with
    | .none => pick ((T.cls[c]?).bind fun p => p.2.lookup m)
    | some _ => stuck
  | _ => stuck
noncomputable def callsOf (ns : List Int) (T : Tab) : Nat → Calls
  | 0 => ⟨fun _ _ => stuck, fun _ _ => stuck, mlookOf T, T.sub, true⟩
  | n + 1 => ⟨fun f vs => match T.fns[f]? with
      | some fn => evF ns (callsOf ns T n) fn vs
      | .none => stuck,
      fun c vs => match T.cls[c]? with
      | some p => match T.fns[p.1]? with
        | some fn => fun σ => (evF ns (callsOf ns T n) fn (.inst c σ.length :: vs)).bnd (fun _ => .ret (.inst c σ.length)) (σ ++ [.dict []])
        | .none => stuck
      | .none => stuck, mlookOf T, T.sub, true⟩
end Mine

set_option maxRecDepth 100000
set_option genSizeOf false
set_option genSizeOfSpec false
set_option genInjectivity false
namespace Mine
open PySem

/-! How the small trees stand for the text's trees. -/
structure GT where
  fns : List Str
  cls : List Str
  con : List (Str × V)
  att : List Str
  own : List Str

structure Cx where
  kinds : List (Str × NameKind)
  slots : List (Str × Nat)
  n : Nat

noncomputable def codes (x : Str) : List Nat := x.cps.toList

noncomputable def Cx.slot (cx : Cx) (x : Str) : Option Nat := match cx.kinds.lookup x with
  | some .local => cx.slots.lookup x
  | some .cell => cx.slots.lookup x
  | _ => .none
noncomputable def Cx.glob (cx : Cx) (x : Str) : Bool := decide (cx.kinds.lookup x = some .globalImplicit) && decide (x ≠ "__debug__")

noncomputable def biName : Bi → Str
  | .len => "len" | .list => "list" | .sorted => "sorted" | .dict => "dict" | .str => "str" | .int => "int"
noncomputable def meName : Me → Str
  | .append => "append" | .count => "count" | .find => "find" | .get => "get" | .update => "update" | .startswith => "startswith"
noncomputable def tyName (G : GT) : Ty → Option Str
  | .int => some "int" | .bool => some "bool" | .str => some "str" | .list => some "list" | .tuple => some "tuple" | .cls c => G.cls[c]? | .valueError => some "ValueError"
noncomputable def opOf : Bin → Operator
  | .add => .Add | .sub => .Sub | .mul => .Mult | .fdiv => .FloorDiv | .mod => .Mod | .pow => .Pow
noncomputable def cmOf : Cmp → CmpOp
  | .eq => .Eq | .ne => .NotEq | .lt => .Lt | .le => .LtE | .gt => .Gt | .ge => .GtE | .is => .Is | .isnt => .IsNot | .isin => .In | .notin => .NotIn
noncomputable def litOf : Const → Option V
  | .none => some .none
  | .bool b => some (.bool b)
  | .int i => some (.int i)
  | .str x => if (codes x).length ≤ 4096 then some (.str (codes x)) else .none
  | _ => .none

noncomputable def relabel (outer : List (Str × NameKind)) : List (Str × NameKind) → List (Str × NameKind)
  | [] => []
  | (x, k) :: r => (x, if k = .free ∧ outer.lookup x = some .cell then .cell else k) :: relabel outer r
/-- a comprehension's block: the target is its one local, all else is the frame's cells or the module's -/
noncomputable def blockOk (outer : List (Str × NameKind)) (x : Str) : List (Str × NameKind) → Bool
  | [] => true
  | (y, k) :: r => (match k with
      | .local => decide (y = x) || decide (y = (".0" : Str))
      | .free => decide (outer.lookup y = some .cell)
      | .globalImplicit => true
      | _ => false) && blockOk outer x r
noncomputable def Cx.inComp (cx : Cx) (x : Str) (sc : Scope) : Option Cx :=
  if sc.kind = .function ∧ blockOk cx.kinds x sc.names = true ∧ sc.names.lookup x = some .local ∧ (sc.names.map (·.1)).Nodup ∧ cx.slots.lookup (".0" : Str) = none ∧ sc.isGenerator = false ∧ sc.isCoroutine = false then
    some ⟨relabel cx.kinds sc.names, (x, cx.n) :: cx.slots, cx.n + 1⟩
  else .none

noncomputable def isName : Expr → Bool
  | .Name _ _ => true
  | _ => false
/-- what a method is looked up on: no call of a bare name -/
noncomputable def plainBase : Expr → Bool
  | .Call f _ _ _ => !isName f
  | _ => true
/-- what a comprehension, or a loop by one name, may go through -/
noncomputable def plainSrc : Src → Bool
  | .of _ => true
  | .range _ => true
  | _ => false
noncomputable def isComp : E → Bool
  | .comp _ _ => true
  | .compIf _ _ _ => true
  | _ => false
noncomputable def isNil : E → Bool
  | .nil => true
  | _ => false

mutual
noncomputable def T (G : GT) : E → Cx → Expr → Prop
  | .lit v, _, e => ∃ k i p, e = .Constant k i p ∧ litOf k = some v
  | .var k, cx, e => ∃ x p, e = .Name x p ∧ cx.slot x = some k ∧ (x == ("__debug__" : Str)) = false
  | .con v, cx, e => ∃ x p, e = .Name x p ∧ cx.glob x = true ∧ (x, v) ∈ G.con
  | .bin op a b, cx, e => ∃ l r p, e = .BinOp l (opOf op) r p ∧ T G a cx l ∧ T G b cx r
  | .not a, cx, e => ∃ x p, e = .UnaryOp .Not x p ∧ T G a cx x
  | .neg a, cx, e => ∃ x p, e = .UnaryOp .USub x p ∧ T G a cx x
  | .and es, cx, e => ∃ xs p, e = .BoolOp .And xs p ∧ Ts G es cx xs
  | .or es, cx, e => ∃ xs p, e = .BoolOp .Or xs p ∧ Ts G es cx xs
  | .cmp op a b, cx, e => ∃ l r p, e = .Compare l [cmOf op] [r] p ∧ T G a cx l ∧ T G b cx r
  | .call f es, cx, e => ∃ x q xs p, e = .Call (.Name x q) xs [] p ∧ cx.glob x = true ∧ G.fns[f]? = some x ∧ Ts G es cx xs
  | .bi b a, cx, e => ∃ q x p, e = .Call (.Name (biName b) q) [x] [] p ∧ cx.glob (biName b) = true ∧ T G a cx x
  | .listRev a, cx, e => ∃ q q' x p p', e = .Call (.Name "list" q) [.Call (.Name "reversed" q') [x] [] p'] [] p ∧ cx.glob "list" = true ∧ cx.glob "reversed" = true ∧ T G a cx x
  | .isi a t, cx, e => ∃ q x y tp p, e = .Call (.Name "isinstance" q) [x, .Name y tp] [] p ∧ cx.glob "isinstance" = true ∧ cx.glob y = true ∧ tyName G t = some y ∧ T G a cx x
  | .me a m es, cx, e => ∃ o ap xs p, e = .Call (.Attribute o (meName m) ap) xs [] p ∧ plainBase o = true ∧ ap.endLine = p.line ∧ xs.length < 29 ∧ T G a cx o ∧ Ts G es cx xs
  | .idx a i, cx, e => ∃ v j p, e = .Subscript v j p ∧ T G a cx v ∧ T G i cx j
  | .slice a lo hi, cx, e => ∃ v l h q p, e = .Subscript v (.Slice l h none q) p ∧ T G a cx v ∧ ((l = none ∧ isNil lo = true) ∨ ∃ x, l = some x ∧ T G lo cx x) ∧ ((h = none ∧ isNil hi = true) ∨ ∃ x, h = some x ∧ T G hi cx x)
  | .nil, _, _ => False
  | .list es, cx, e => ∃ xs p, e = .List xs p ∧ Ts G es cx xs
  | .tup es, cx, e => ∃ xs k p, e = .Tuple xs k p ∧ Ts G es cx xs
  | .dict0, _, e => ∃ p, e = .Dict [] [] p
  | .comp src elt, cx, e => ∃ x px it sc p el cx', e = .ListComp el [⟨.Name x px, it, [], 0⟩] sc p ∧ cx.inComp x sc = some cx' ∧ plainSrc src = true ∧ TSrc G src cx it ∧ T G elt cx' el
  | .compIf src elt c, cx, e => ∃ x px it sc p el ce cx', e = .ListComp el [⟨.Name x px, it, [ce], 0⟩] sc p ∧ cx.inComp x sc = some cx' ∧ plainSrc src = true ∧ TSrc G src cx it ∧ T G elt cx' el ∧ T G c cx' ce
noncomputable def Ts (G : GT) : List E → Cx → List Expr → Prop
  | [], _, xs => xs = []
  | t :: ts, cx, xs => ∃ x r, xs = x :: r ∧ T G t cx x ∧ Ts G ts cx r
noncomputable def TSrc (G : GT) : Src → Cx → Expr → Prop
  | .of t, cx, e => T G t cx e
  | .range t, cx, e => ∃ q x p, e = .Call (.Name "range" q) [x] [] p ∧ cx.glob "range" = true ∧ T G t cx x
  | .enum t, cx, e => ∃ q x p, e = .Call (.Name "enumerate" q) [x] [] p ∧ cx.glob "enumerate" = true ∧ T G t cx x
  | .zip a b, cx, e => ∃ q x y p, e = .Call (.Name "zip" q) [x, y] [] p ∧ cx.glob "zip" = true ∧ T G a cx x ∧ T G b cx y
end

noncomputable def exprOk : E → Bool
  | .call _ _ => true
  | .me _ _ _ => true
  | _ => false
mutual
noncomputable def TS (G : GT) : S → Cx → Stmt → Prop
  | .assign k t, cx, st => ∃ x px v p, st = .Assign [.Name x px] v p ∧ cx.slot x = some k ∧ T G t cx v
  | .setitem a i t, cx, st => ∃ u j sp v p, st = .Assign [.Subscript u j sp] v p ∧ T G a cx u ∧ T G i cx j ∧ T G t cx v ∧ isComp t = false
  | .expr t, cx, st => ∃ v p, st = .Expr v p ∧ exprOk t = true ∧ T G t cx v
  | .ret t, cx, st => ∃ v p, st = .Return (some v) p ∧ T G t cx v
  | .ite c a b, cx, st => ∃ e x y p, st = .If e x y p ∧ T G c cx e ∧ TSs G a cx x ∧ TSs G b cx y
  | .forN k src b, cx, st => ∃ x px it body p, st = .For (.Name x px) it body [] p ∧ cx.slot x = some k ∧ plainSrc src = true ∧ TSrc G src cx it ∧ TSs G b cx body
  | .forP k k' src b, cx, st => ∃ x px y py tk tp it body p, st = .For (.Tuple [.Name x px, .Name y py] tk tp) it body [] p ∧ cx.slot x = some k ∧ cx.slot y = some k' ∧ TSrc G src cx it ∧ TSs G b cx body
  | .raise c, cx, st => ∃ x np m i ap cp p, st = .Raise (some (.Call (.Name x np) [.Constant (.str m) i ap] [] cp)) none p ∧ cx.glob x = true ∧ G.cls[c]? = some x ∧ (codes m).length ≤ 4096
  | .dead, _, _ => True
  | .try b hs, cx, st => ∃ body ehs p, st = .Try body ehs [] [] p ∧ TSs G b cx body ∧ THs G hs cx ehs ∧ ehs ≠ []
noncomputable def TSs (G : GT) : List S → Cx → List Stmt → Prop
  | [], _, xs => xs = []
  | t :: ts, cx, xs => ∃ x r, xs = x :: r ∧ TS G t cx x ∧ TSs G ts cx r
noncomputable def THs (G : GT) : List Hd → Cx → List ExceptHandler → Prop
  | [], _, xs => xs = []
  | t :: ts, cx, xs => ∃ x r, xs = x :: r ∧ TH G t cx x ∧ THs G ts cx r
noncomputable def TH (G : GT) : Hd → Cx → ExceptHandler → Prop
  | .mk c k b, cx, h => ∃ x p nm body pos, h = .ExceptHandler (some (.Name x p)) nm body pos ∧ cx.glob x = true ∧ G.cls[c]? = some x ∧ body ≠ [] ∧ TSs G b cx body ∧
      ((k = none ∧ nm = none) ∨ ∃ j y, k = some j ∧ nm = some y ∧ cx.slots.lookup y = some j ∧ cx.kinds.lookup y = some .local)
end

noncomputable def slotsOf : List (Str × NameKind) → Nat → List (Str × Nat)
  | [], _ => []
  | (x, .local) :: r, i => (x, i) :: slotsOf r (i + 1)
  | (x, .cell) :: r, i => (x, i) :: slotsOf r (i + 1)
  | _ :: r, i => slotsOf r i
noncomputable def plainArgs (a : Arguments) : Bool := a.posonlyargs.isEmpty && a.vararg.isNone && a.kwonlyargs.isEmpty && a.kwarg.isNone && a.defaults.isEmpty && a.kw_defaults.isEmpty
/-- a def is what its small one says -/
noncomputable def TFn (G : GT) (fn : Fn) (a : Arguments) (body : List Stmt) (sc : Scope) : Prop :=
  ((slotsOf sc.names 0).map (·.1)).take a.args.length = a.args.map (·.arg) ∧ (sc.names.map (·.1)).Nodup ∧ sc.kind = .function ∧ sc.isGenerator = false ∧ sc.isCoroutine = false ∧
    TSs G fn.body ⟨sc.names, slotsOf sc.names 0, (slotsOf sc.names 0).length⟩ body ∧ fn.nargs = a.args.length ∧ fn.n = (slotsOf sc.names 0).length
end Mine

set_option maxRecDepth 100000
set_option linter.all false
namespace Mine.L03
open PySem Mine

/-- 0 thing -/
noncomputable def f0_is_whole : Fn := ⟨1, 1, [.ret (.and [(.isi (.var 0) .int), (.not (.isi (.var 0) .bool))])]⟩

/-- 0 name, 1 head -/
noncomputable def f1_is_under : Fn := ⟨2, 2, [.ret (.me (.var 0) .startswith [(.var 1)])]⟩

/-- 0 written, 1 name, 2 place, 3 at -/
noncomputable def f2_last_place : Fn := ⟨2, 4, [.assign 2 (.neg (.lit (V.int 1))),
  .forN 3 (.range (.bi .len (.var 0))) [.ite (.cmp .eq (.idx (.idx (.var 0) (.var 3)) (.lit (V.int 0))) (.var 1)) [.assign 2 (.var 3)] []],
  .ret (.var 2)]⟩

/-- 0 written, 1 values, 2 name, 3 told -/
noncomputable def f3_last_values : Fn := ⟨1, 4, [.assign 1 .dict0,
  .forP 2 3 (.of (.var 0)) [.setitem (.var 1) (.var 2) (.var 3)],
  .ret (.var 1)]⟩

/-- 0 one, 1 other -/
noncomputable def f4_is_alike : Fn := ⟨2, 2, [.ite (.or [(.cmp .is (.var 0) (.lit V.none)), (.cmp .is (.var 1) (.lit V.none))]) [.ret (.and [(.cmp .is (.var 0) (.lit V.none)), (.cmp .is (.var 1) (.lit V.none))])] [],
  .ret (.and [(.call 0 [(.var 0)]), (.call 0 [(.var 1)]), (.cmp .eq (.var 0) (.var 1))])]⟩

/-- 0 values, 1 written, 2 name, 3 place -/
noncomputable def f5_seen_by : Fn := ⟨3, 4, [.assign 3 (.call 2 [(.var 1), (.var 2)]),
  .ite (.cmp .ge (.var 3) (.lit (V.int 0))) [.ret (.idx (.idx (.var 1) (.var 3)) (.lit (V.int 1)))] [],
  .ret (.me (.var 0) .get [(.var 2)])]⟩

/-- 0 values, 1 written, 2 head, 3 known, 4 name, 5 told, 6 pairs -/
noncomputable def f6_pairs_of : Fn := ⟨3, 7, [.assign 3 (.bi .dict (.var 0)),
  .forP 4 5 (.of (.var 1)) [.setitem (.var 3) (.var 4) (.var 5)],
  .assign 6 (.list []),
  .forN 4 (.of (.bi .sorted (.bi .list (.var 3)))) [.assign 5 (.call 5 [(.var 0), (.var 1), (.var 4)]),
    .ite (.and [(.call 1 [(.var 4), (.var 2)]), (.cmp .isnt (.var 5) (.lit V.none))]) [.expr (.me (.var 6) .append [(.tup [(.var 4), (.var 5)])])] []],
  .ret (.var 6)]⟩

/-- 0 pairs, 1 said, 2 one, 3 other -/
noncomputable def f7_is_same_row : Fn := ⟨2, 4, [.ite (.cmp .ne (.bi .len (.var 0)) (.bi .len (.var 1))) [.ret (.lit (V.bool false))] [],
  .forP 2 3 (.zip (.var 0) (.var 1)) [.ite (.or [(.cmp .ne (.idx (.var 2) (.lit (V.int 0))) (.idx (.var 3) (.lit (V.int 0)))), (.not (.call 4 [(.idx (.var 2) (.lit (V.int 1))), (.idx (.var 3) (.lit (V.int 1)))]))]) [.ret (.lit (V.bool false))] []],
  .ret (.lit (V.bool true))]⟩

/-- 0 values, 1 row, 2 written, 3 deed -/
noncomputable def f8_done_by : Fn := ⟨2, 4, [.assign 2 (.list []),
  .forN 3 (.of (.var 1)) [.ite (.cmp .eq (.idx (.var 3) (.lit (V.int 0))) (.lit (V.str [114, 101, 97, 100]))) [.ite (.not (.call 4 [(.call 5 [(.var 0), (.var 2), (.idx (.var 3) (.lit (V.int 1)))]), (.idx (.var 3) (.lit (V.int 2)))])) [.raise 9] []] [.ite (.cmp .eq (.idx (.var 3) (.lit (V.int 0))) (.lit (V.str [117, 110, 100, 101, 114]))) [.ite (.not (.call 7 [(.call 6 [(.var 0), (.var 2), (.idx (.var 3) (.lit (V.int 1)))]), (.idx (.var 3) (.lit (V.int 2)))])) [.raise 9] []] [.ite (.cmp .eq (.idx (.var 3) (.lit (V.int 0))) (.lit (V.str [119, 114, 105, 116, 101]))) [.assign 2 (.bin .add (.var 2) (.list [(.tup [(.idx (.var 3) (.lit (V.int 1))), (.idx (.var 3) (.lit (V.int 2)))])]))] [.assign 2 (.slice (.var 2) .nil (.idx (.var 3) (.lit (V.int 1))))]]]],
  .ret (.var 2)]⟩

/-- 0 rows, 1 values, 2 row -/
noncomputable def f9_walked : Fn := ⟨1, 3, [.assign 1 .dict0,
  .forN 2 (.of (.var 0)) [.expr (.me (.var 1) .update [(.call 3 [(.call 8 [(.var 1), (.var 2)])])])],
  .ret (.compIf (.of (.bi .sorted (.bi .list (.var 1)))) (.tup [(.var 3), (.idx (.var 1) (.var 3))]) (.cmp .isnt (.idx (.var 1) (.var 3)) (.lit V.none)))]⟩

/-- 0 found -/
noncomputable def f10_whole : Fn := ⟨1, 1, [.ret (.and [(.isi (.var 0) .int), (.not (.isi (.var 0) .bool))])]⟩

/-- 0 script, 1 k -/
noncomputable def f11_cell_at : Fn := ⟨2, 2, [.ite (.cmp .lt (.var 1) (.bi .len (.var 0))) [.ret (.idx (.var 0) (.var 1))] [],
  .ret (.lit (V.int 0))]⟩

/-- 0 number -/
noncomputable def f12_mixed : Fn := ⟨1, 1, [.ret (.bin .mod (.bin .add (.bin .mul (.var 0) (.lit (V.int 48271))) (.lit (V.int 7919))) (.lit (V.int 2147483647)))]⟩

/-- 0 cell, 1 some, 2 name, 3 number, 4 k -/
noncomputable def f13_name_by : Fn := ⟨1, 5, [.assign 1 (.lit (V.str [97, 98, 99, 100, 101, 102, 103, 104, 105, 106, 107, 108, 109, 110, 111, 112, 113, 114, 115, 116, 117, 118, 119, 120, 121, 122, 48, 49, 50, 51, 52, 53, 54, 55, 56, 57, 46])),
  .assign 2 (.lit (V.str [])),
  .assign 3 (.var 0),
  .forN 4 (.range (.bin .add (.lit (V.int 1)) (.bin .mod (.var 0) (.lit (V.int 12))))) [.assign 3 (.call 12 [(.var 3)]),
    .assign 2 (.bin .add (.var 2) (.idx (.var 1) (.bin .mod (.var 3) (.lit (V.int 37)))))],
  .ret (.var 2)]⟩

/-- 0 name, 1 cell, 2 some, 3 at, 4 step -/
noncomputable def f14_twin : Fn := ⟨2, 5, [.assign 2 (.lit (V.str [97, 98, 99, 100, 101, 102, 103, 104, 105, 106, 107, 108, 109, 110, 111, 112, 113, 114, 115, 116, 117, 118, 119, 120, 121, 122, 48, 49, 50, 51, 52, 53, 54, 55, 56, 57, 46])),
  .assign 3 (.bin .mod (.var 1) (.bi .len (.var 0))),
  .assign 4 (.bin .add (.bin .add (.me (.var 2) .find [(.idx (.var 0) (.var 3))]) (.lit (V.int 1))) (.bin .mod (.bin .fdiv (.var 1) (.lit (V.int 12))) (.lit (V.int 36)))),
  .ret (.bin .add (.bin .add (.slice (.var 0) .nil (.var 3)) (.idx (.var 2) (.bin .mod (.var 4) (.lit (V.int 37))))) (.slice (.var 0) (.bin .add (.var 3) (.lit (V.int 1))) .nil))]⟩

/-- 0 one, 1 two, 2 first, 3 second, 4 pool_here -/
noncomputable def f15_pool : Fn := ⟨2, 5, [.assign 2 (.call 13 [(.var 0)]),
  .assign 3 (.call 13 [(.var 1)]),
  .assign 4 (.list [(.var 2), (.call 14 [(.var 2), (.var 1)]), (.var 3), (.slice (.bin .add (.var 2) (.var 3)) .nil (.lit (V.int 12))), (.slice (.var 2) .nil (.bin .add (.lit (V.int 1)) (.bin .mod (.var 1) (.bi .len (.var 2)))))]),
  .assign 4 (.slice (.bin .add (.var 4) (.list [(.slice (.bin .add (.var 3) (.lit (V.str [46]))) .nil (.lit (V.int 12))), (.slice (.bin .add (.bin .add (.var 3) (.lit (V.str [97]))) (.var 2)) .nil (.lit (V.int 12)))])) .nil (.bin .add (.lit (V.int 1)) (.bin .mod (.bin .fdiv (.var 0) (.lit (V.int 7))) (.lit (V.int 7))))),
  .ite (.cmp .eq (.bin .mod (.bin .fdiv (.var 1) (.lit (V.int 7))) (.lit (V.int 4))) (.lit (V.int 1))) [.assign 4 (.bin .add (.var 4) (.comp (.range (.bin .mod (.bin .fdiv (.var 1) (.lit (V.int 28))) (.lit (V.int 130)))) (.bin .add (.lit (V.str [110])) (.bi .str (.var 5)))))] [],
  .ret (.var 4)]⟩

/-- 0 cell -/
noncomputable def f16_value_by : Fn := ⟨1, 1, [.ite (.cmp .eq (.bin .mod (.var 0) (.lit (V.int 7))) (.lit (V.int 3))) [.ret (.lit V.none)] [],
  .ite (.cmp .eq (.bin .mod (.var 0) (.lit (V.int 7))) (.lit (V.int 4))) [.ret (.idx (.list [(.lit (V.int 0)), (.lit (V.int 1)), (.neg (.lit (V.int 1))), (.bin .pow (.lit (V.int 10)) (.lit (V.int 30))), (.neg (.bin .pow (.lit (V.int 10)) (.lit (V.int 30))))]) (.bin .mod (.bin .fdiv (.var 0) (.lit (V.int 7))) (.lit (V.int 5))))] [],
  .ite (.cmp .eq (.bin .mod (.var 0) (.lit (V.int 7))) (.lit (V.int 5))) [.ret (.bin .mod (.bin .fdiv (.var 0) (.lit (V.int 7))) (.lit (V.int 9)))] [],
  .ret (.bin .sub (.bin .mod (.bin .fdiv (.var 0) (.lit (V.int 7))) (.bin .add (.bin .mul (.lit (V.int 2)) (.bin .pow (.lit (V.int 10)) (.lit (V.int 30)))) (.lit (V.int 1)))) (.bin .pow (.lit (V.int 10)) (.lit (V.int 30))))]⟩

/-- 0 told, 1 due -/
noncomputable def f17_same : Fn := ⟨2, 2, [.ite (.or [(.cmp .is (.var 1) (.lit V.none)), (.cmp .is (.var 0) (.lit V.none))]) [.ret (.and [(.cmp .is (.var 1) (.lit V.none)), (.cmp .is (.var 0) (.lit V.none))])] [],
  .ret (.and [(.call 10 [(.var 0)]), (.cmp .eq (.var 0) (.var 1))])]⟩

/-- 0 told, 1 due, 2 k -/
noncomputable def f18_pairs : Fn := ⟨2, 3, [.ite (.or [(.not (.isi (.var 0) .list)), (.cmp .ne (.bi .len (.var 0)) (.bi .len (.var 1)))]) [.ret (.lit (V.bool false))] [],
  .forN 2 (.range (.bi .len (.var 1))) [.ite (.or [(.not (.isi (.idx (.var 0) (.var 2)) .tuple)), (.cmp .ne (.bi .len (.idx (.var 0) (.var 2))) (.lit (V.int 2))), (.not (.isi (.idx (.idx (.var 0) (.var 2)) (.lit (V.int 0))) .str))]) [.ret (.lit (V.bool false))] [],
    .ite (.or [(.cmp .ne (.idx (.idx (.var 0) (.var 2)) (.lit (V.int 0))) (.idx (.idx (.var 1) (.var 2)) (.lit (V.int 0)))), (.not (.call 17 [(.idx (.idx (.var 0) (.var 2)) (.lit (V.int 1))), (.idx (.idx (.var 1) (.var 2)) (.lit (V.int 1)))]))]) [.ret (.lit (V.bool false))] []],
  .ret (.lit (V.bool true))]⟩

/-- 0 puts, 1 found, 2 put -/
noncomputable def f19_last : Fn := ⟨1, 3, [.assign 1 .dict0,
  .forN 2 (.of (.var 0)) [.setitem (.var 1) (.idx (.var 2) (.lit (V.int 0))) (.idx (.var 2) (.lit (V.int 1)))],
  .ret (.var 1)]⟩

/-- 0 left, 1 own, 2 head, 3 names, 4 low -/
noncomputable def f20_told_under : Fn := ⟨3, 5, [.assign 3 (.bi .dict (.var 0)),
  .expr (.me (.var 3) .update [(.var 1)]),
  .assign 4 (.compIf (.of (.bi .sorted (.var 3))) (.var 5) (.cmp .eq (.slice (.var 5) .nil (.bi .len (.var 2))) (.var 2))),
  .ret (.compIf (.of (.var 4)) (.tup [(.var 5), (.idx (.var 3) (.var 5))]) (.cmp .isnt (.idx (.var 3) (.var 5)) (.lit V.none)))]⟩

/-- 0 left, 1 puts, 2 pool_here, 3 more, 4 cell, 5 name, 6 own, 7 head -/
noncomputable def f21_deed_by : Fn := ⟨5, 8, [.assign 5 (.idx (.var 2) (.bin .mod (.bin .fdiv (.var 3) (.lit (V.int 16))) (.bi .len (.var 2)))),
  .assign 6 (.call 19 [(.var 1)]),
  .ite (.cmp .lt (.bin .mod (.var 3) (.lit (V.int 16))) (.lit (V.int 5))) [.ret (.tup [(.lit (V.str [114, 101, 97, 100])), (.var 5), (.me (.var 6) .get [(.var 5), (.me (.var 0) .get [(.var 5)])])])] [],
  .ite (.cmp .lt (.bin .mod (.var 3) (.lit (V.int 16))) (.lit (V.int 8))) [.assign 7 (.slice (.var 5) .nil (.bin .mod (.bin .fdiv (.var 3) (.lit (V.int 1056))) (.bin .add (.bi .len (.var 5)) (.lit (V.int 1))))),
    .ret (.tup [(.lit (V.str [117, 110, 100, 101, 114])), (.var 7), (.call 20 [(.var 0), (.var 6), (.var 7)])])] [],
  .ite (.cmp .lt (.bin .mod (.var 3) (.lit (V.int 16))) (.lit (V.int 14))) [.ret (.tup [(.lit (V.str [119, 114, 105, 116, 101])), (.var 5), (.call 16 [(.var 4)])])] [],
  .ret (.tup [(.lit (V.str [98, 97, 99, 107])), (.bin .mod (.bin .fdiv (.var 3) (.lit (V.int 16))) (.bin .add (.bi .len (.var 1)) (.lit (V.int 1))))])]⟩

/-- 0 deed, 1 way, 2 pairs_here, 3 at, 4 pair -/
noncomputable def f22_spoiled : Fn := ⟨2, 5, [.ite (.cmp .eq (.idx (.var 0) (.lit (V.int 0))) (.lit (V.str [114, 101, 97, 100]))) [.ret (.tup [(.lit (V.str [114, 101, 97, 100])), (.idx (.var 0) (.lit (V.int 1))), (.idx (.list [(.lit (V.int 5)), (.lit V.none)]) (.bi .int (.and [(.cmp .isnt (.idx (.var 0) (.lit (V.int 2))) (.lit V.none)), (.cmp .eq (.bin .mod (.var 1) (.lit (V.int 2))) (.lit (V.int 0)))])))])] [],
  .assign 2 (.bi .list (.idx (.var 0) (.lit (V.int 2)))),
  .ite (.or [(.cmp .eq (.var 2) (.list [])), (.cmp .eq (.bin .mod (.var 1) (.lit (V.int 7))) (.lit (V.int 0)))]) [.ret (.tup [(.lit (V.str [117, 110, 100, 101, 114])), (.idx (.var 0) (.lit (V.int 1))), (.bin .add (.var 2) (.list [(.tup [(.lit (V.str [122, 122])), (.lit (V.int 7))])]))])] [],
  .assign 3 (.bin .mod (.bin .fdiv (.var 1) (.lit (V.int 7))) (.bi .len (.var 2))),
  .assign 4 (.idx (.var 2) (.var 3)),
  .ite (.cmp .eq (.bin .mod (.var 1) (.lit (V.int 7))) (.lit (V.int 1))) [.ret (.tup [(.lit (V.str [117, 110, 100, 101, 114])), (.idx (.var 0) (.lit (V.int 1))), (.bin .add (.slice (.var 2) .nil (.var 3)) (.slice (.var 2) (.bin .add (.var 3) (.lit (V.int 1))) .nil))])] [],
  .ite (.cmp .eq (.bin .mod (.var 1) (.lit (V.int 7))) (.lit (V.int 2))) [.ret (.tup [(.lit (V.str [117, 110, 100, 101, 114])), (.idx (.var 0) (.lit (V.int 1))), (.bin .add (.bin .add (.slice (.var 2) .nil (.var 3)) (.list [(.var 4)])) (.slice (.var 2) (.var 3) .nil))])] [],
  .ite (.cmp .eq (.bin .mod (.var 1) (.lit (V.int 7))) (.lit (V.int 3))) [.ret (.tup [(.lit (V.str [117, 110, 100, 101, 114])), (.idx (.var 0) (.lit (V.int 1))), (.bin .add (.bin .add (.slice (.var 2) .nil (.var 3)) (.list [(.tup [(.idx (.var 4) (.lit (V.int 0))), (.bin .sub (.bin .add (.idx (.var 4) (.lit (V.int 1))) (.lit (V.int 1))) (.bin .mul (.lit (V.int 2)) (.bi .int (.cmp .gt (.idx (.var 4) (.lit (V.int 1))) (.lit (V.int 0))))))])])) (.slice (.var 2) (.bin .add (.var 3) (.lit (V.int 1))) .nil))])] [],
  .ite (.cmp .eq (.bin .mod (.var 1) (.lit (V.int 7))) (.lit (V.int 4))) [.ret (.tup [(.lit (V.str [117, 110, 100, 101, 114])), (.idx (.var 0) (.lit (V.int 1))), (.bin .add (.bin .add (.slice (.var 2) .nil (.var 3)) (.list [(.tup [(.slice (.bin .add (.lit (V.str [113])) (.idx (.var 4) (.lit (V.int 0)))) .nil (.lit (V.int 12))), (.idx (.var 4) (.lit (V.int 1)))])])) (.slice (.var 2) (.bin .add (.var 3) (.lit (V.int 1))) .nil))])] [],
  .ite (.cmp .eq (.bin .mod (.var 1) (.lit (V.int 7))) (.lit (V.int 5))) [.ret (.tup [(.lit (V.str [117, 110, 100, 101, 114])), (.idx (.var 0) (.lit (V.int 1))), (.bin .add (.slice (.var 2) (.lit (V.int 1)) .nil) (.slice (.var 2) .nil (.lit (V.int 1))))])] [],
  .ret (.tup [(.lit (V.str [117, 110, 100, 101, 114])), (.idx (.var 0) (.lit (V.int 1))), (.listRev (.var 2))])]⟩

/-- 0 cells, 1 pool_here, 2 rows, 3 left, 4 puts, 5 turn, 6 cell, 7 more, 8 deed -/
noncomputable def f23_rows_by : Fn := ⟨2, 9, [.assign 2 (.list [(.list [])]),
  .assign 3 .dict0,
  .assign 4 (.list []),
  .forP 5 6 (.enum (.var 0)) [.assign 7 (.call 12 [(.bin .add (.var 6) (.bin .mul (.lit (V.int 131)) (.var 5)))]),
    .assign 8 (.call 21 [(.var 3), (.var 4), (.var 1), (.var 7), (.var 6)]),
    .expr (.me (.idx (.var 2) (.neg (.lit (V.int 1)))) .append [(.var 8)]),
    .ite (.cmp .eq (.idx (.var 8) (.lit (V.int 0))) (.lit (V.str [119, 114, 105, 116, 101]))) [.expr (.me (.var 4) .append [(.tup [(.idx (.var 8) (.lit (V.int 1))), (.idx (.var 8) (.lit (V.int 2)))])])] [],
    .ite (.cmp .eq (.idx (.var 8) (.lit (V.int 0))) (.lit (V.str [98, 97, 99, 107]))) [.assign 4 (.slice (.var 4) .nil (.idx (.var 8) (.lit (V.int 1))))] [],
    .ite (.cmp .eq (.bin .mod (.bin .fdiv (.var 7) (.lit (V.int 2048))) (.lit (V.int 9))) (.lit (V.int 0))) [.expr (.me (.var 3) .update [(.call 19 [(.var 4)])]),
      .assign 4 (.list []),
      .expr (.me (.var 2) .append [(.list [])])] []],
  .expr (.me (.var 3) .update [(.call 19 [(.var 4)])]),
  .ret (.tup [(.var 2), (.var 3)])]⟩

/-- 0 rows, 1 others -/
noncomputable def f24_alike : Fn := ⟨2, 2, [.ret (.cmp .eq (.comp (.of (.var 0)) (.comp (.of (.var 2)) (.bi .list (.var 3)))) (.comp (.of (.var 1)) (.comp (.of (.var 2)) (.bi .list (.var 3)))))]⟩

/-- 0 deed -/
noncomputable def f25_copied : Fn := ⟨1, 1, [.ite (.cmp .eq (.idx (.var 0) (.lit (V.int 0))) (.lit (V.str [117, 110, 100, 101, 114]))) [.ret (.tup [(.lit (V.str [117, 110, 100, 101, 114])), (.idx (.var 0) (.lit (V.int 1))), (.bi .list (.idx (.var 0) (.lit (V.int 2))))])] [],
  .ret (.var 0)]⟩

/-- 0 rows, 1 e, 2 told -/
noncomputable def f26_refused_by_any : Fn := ⟨1, 3, [.try [.expr (.call 9 [(.var 0)])] [Hd.mk 0 (some 1) [.assign 2 (.list [(.isi (.var 1) (.cls 1)), (.isi (.var 1) (.cls 2)), (.isi (.var 1) (.cls 3)), (.isi (.var 1) (.cls 4))]),
    .assign 2 (.bin .add (.var 2) (.list [(.isi (.var 1) (.cls 5)), (.isi (.var 1) (.cls 6)), (.isi (.var 1) (.cls 7)), (.isi (.var 1) (.cls 8))])),
    .ret (.and [(.isi (.var 1) .valueError), (.cmp .eq (.me (.var 2) .count [(.lit (V.bool true))]) (.lit (V.int 0)))])]],
  .ret (.lit (V.bool false))]⟩

/-- 0 script, 1 pool_here, 2 made, 3 rows, 4 spots, 5 j, 6 deeds, 7 good, 8 spot, 9 deed, 10 handed, 11 found, 12 refused, 13 due -/
noncomputable def f27_law : Fn := ⟨1, 14, [.assign 1 (.call 15 [(.call 11 [(.var 0), (.lit (V.int 0))]), (.call 11 [(.var 0), (.lit (V.int 1))])]),
  .assign 2 (.call 23 [(.slice (.var 0) (.lit (V.int 2)) (.lit (V.int 82))), (.var 1)]),
  .assign 3 (.idx (.var 2) (.lit (V.int 0))),
  .assign 4 (.list []),
  .forP 5 6 (.enum (.var 3)) [.assign 4 (.bin .add (.var 4) (.compIf (.range (.bi .len (.var 6))) (.tup [(.var 5), (.var 14)]) (.cmp .isin (.idx (.idx (.var 6) (.var 14)) (.lit (V.int 0))) (.tup [(.lit (V.str [114, 101, 97, 100])), (.lit (V.str [117, 110, 100, 101, 114]))]))))],
  .assign 7 (.lit (V.bool true)),
  .ite (.and [(.cmp .ne (.var 4) (.list [])), (.cmp .eq (.bin .mod (.bin .fdiv (.call 11 [(.var 0), (.lit (V.int 0))]) (.lit (V.int 7))) (.lit (V.int 3))) (.lit (V.int 1)))]) [.assign 8 (.idx (.var 4) (.bin .mod (.bin .fdiv (.call 11 [(.var 0), (.lit (V.int 1))]) (.lit (V.int 7))) (.bi .len (.var 4)))),
    .assign 9 (.idx (.idx (.var 3) (.idx (.var 8) (.lit (V.int 0)))) (.idx (.var 8) (.lit (V.int 1)))),
    .setitem (.idx (.var 3) (.idx (.var 8) (.lit (V.int 0)))) (.idx (.var 8) (.lit (V.int 1))) (.call 22 [(.var 9), (.call 11 [(.var 0), (.lit (V.int 1))])]),
    .assign 7 (.cmp .eq (.idx (.idx (.var 3) (.idx (.var 8) (.lit (V.int 0)))) (.idx (.var 8) (.lit (V.int 1)))) (.var 9))] [],
  .assign 10 (.comp (.of (.var 3)) (.comp (.of (.var 14)) (.call 25 [(.var 15)]))),
  .ite (.not (.call 18 [(.call 9 [(.list [])]), (.list [])])) [.ret (.lit (V.bool false))] [],
  .assign 11 (.lit V.none),
  .assign 12 (.lit (V.bool false)),
  .try [.assign 11 (.call 9 [(.var 10)])] [Hd.mk 9 none [.assign 12 (.lit (V.bool true))]],
  .ite (.or [(.not (.call 24 [(.var 10), (.var 3)])), (.not (.call 18 [(.call 9 [(.list [])]), (.list [])]))]) [.ret (.lit (V.bool false))] [],
  .ite (.not (.var 7)) [.ret (.and [(.var 12), (.call 26 [(.var 10)])])] [],
  .assign 13 (.call 20 [(.idx (.var 2) (.lit (V.int 1))), .dict0, (.lit (V.str []))]),
  .ret (.and [(.not (.var 12)), (.call 18 [(.var 11), (.var 13)]), (.call 18 [(.call 9 [(.var 10)]), (.var 13)])])]⟩

noncomputable def fs : List Fn := [f0_is_whole, f1_is_under, f2_last_place, f3_last_values, f4_is_alike, f5_seen_by, f6_pairs_of, f7_is_same_row, f8_done_by, f9_walked, f10_whole, f11_cell_at, f12_mixed, f13_name_by, f14_twin, f15_pool, f16_value_by, f17_same, f18_pairs, f19_last, f20_told_under, f21_deed_by, f22_spoiled, f23_rows_by, f24_alike, f25_copied, f26_refused_by_any, f27_law]
/-- names of the text -/
noncomputable def fnN : List Str := ["is_whole", "is_under", "last_place", "last_values", "is_alike", "seen_by", "pairs_of", "is_same_row", "done_by", "walked", "_law_whole", "_law_cell_at", "_law_mixed", "_law_name_by", "_law_twin", "_law_pool", "_law_value_by", "_law_same", "_law_pairs", "_law_last", "_law_told_under", "_law_deed_by", "_law_spoiled", "_law_rows_by", "_law_alike", "_law_copied", "_law_refused_by_any", "law"]
noncomputable def exN : List Str := ["DealError", "NoDealing", "Over", "NoName", "NoValue", "NoMark", "Taken", "Late", "Crossed", "Unlike"]
noncomputable def owN : List Str := []
noncomputable def meN : List (Str × Str) := []
end Mine.L03

set_option maxRecDepth 100000
set_option linter.all false
namespace Mine.P
open PySem Mine

/-! Rules for the evaluator. -/
section
variable {ns : List Int} {C : Calls} {ρ ρ' ρ₁ ρ₂ : Env} {σ σ' σ₁ σ₂ σ₃ σ₄ : H} {a b c e : E} {x y z v w : V} {es : List E} {vs : List V}

theorem bnd_ok {α β : Type} {m : M α} {k : α → M β} {σ σ' : H} {a : α} (e : m σ = .ok a σ') : m.bnd k σ = k a σ' := by unfold M.bnd; rw [e]
theorem bnd2 {α β : Type} {m : M α} {k : α → M β} {σ σ' : H} {a : α} {r : R β} (e : m σ = .ok a σ') (h : k a σ' = r) : m.bnd k σ = r := (bnd_ok e).trans h
theorem bndx {α β : Type} {m : M α} {k : α → M β} {σ σ' : H} {c : Nat} (e : m σ = .exc c σ') : m.bnd k σ = .exc c σ' := by unfold M.bnd; rw [e]

noncomputable abbrev Ev (ns : List Int) (C : Calls) (ρ : Env) (e : E) (σ : H) (v : V) (σ' : H) : Prop := evE ns C ρ e σ = .ok v σ'
noncomputable abbrev Evs (ns : List Int) (C : Calls) (ρ : Env) (e : List E) (σ : H) (v : List V) (σ' : H) : Prop := evEs ns C ρ e σ = .ok v σ'

theorem e_bin {op : Bin} (h1 : Ev ns C ρ a σ x σ₁) (h2 : Ev ns C ρ b σ₁ y σ₂) (h3 : binV op x y σ₂ = .ok v σ₃) : Ev ns C ρ (.bin op a b) σ v σ₃ := bnd2 h1 (bnd2 h2 h3)
theorem e_cmp {op : Cmp} (h1 : Ev ns C ρ a σ x σ₁) (h2 : Ev ns C ρ b σ₁ y σ₂) (h3 : cmpV op x y σ₂ = .ok v σ₃) : Ev ns C ρ (.cmp op a b) σ v σ₃ := bnd2 h1 (bnd2 h2 h3)
theorem e_not (h1 : Ev ns C ρ a σ x σ₁) (h3 : notV x σ₁ = .ok v σ₂) : Ev ns C ρ (.not a) σ v σ₂ := bnd2 h1 h3
theorem e_neg (h1 : Ev ns C ρ a σ x σ₁) (h3 : negV x σ₁ = .ok v σ₂) : Ev ns C ρ (.neg a) σ v σ₂ := bnd2 h1 h3
theorem e_call {f : Nat} (h1 : Evs ns C ρ es σ vs σ₁) (h3 : C.call f vs σ₁ = .ok v σ₂) : Ev ns C ρ (.call f es) σ v σ₂ := bnd2 h1 h3
theorem e_bi {bb : Bi} (hn : C.hn = true) (h1 : Ev ns C ρ a σ x σ₁) (h3 : biV ns bb x σ₁ = .ok v σ₂) : Ev ns C ρ (.bi bb a) σ v σ₂ := bnd2 h1 (by rw [hn]; exact h3)
theorem e_isi {t : Ty} (h1 : Ev ns C ρ a σ x σ₁) (h3 : isiV C.sub t x σ₁ = .ok v σ₂) : Ev ns C ρ (.isi a t) σ v σ₂ := bnd2 h1 h3
theorem e_me {m : Me} (h1 : Ev ns C ρ a σ x σ₁) (h2 : meK m x σ₁ = .ok w σ₂) (h3 : Evs ns C ρ es σ₂ vs σ₃) (h4 : meV x m vs σ₃ = .ok v σ₄) : Ev ns C ρ (.me a m es) σ v σ₄ := bnd2 h1 (bnd2 h2 (bnd2 h3 h4))
theorem e_idx (h1 : Ev ns C ρ a σ x σ₁) (h2 : Ev ns C ρ b σ₁ y σ₂) (h3 : idxV ns x y σ₂ = .ok v σ₃) : Ev ns C ρ (.idx a b) σ v σ₃ := bnd2 h1 (bnd2 h2 h3)
theorem e_slice (h1 : Ev ns C ρ a σ x σ₁) (h2 : Ev ns C ρ b σ₁ y σ₂) (h3 : Ev ns C ρ c σ₂ z σ₃) (h4 : sliceV ns x y z σ₃ = .ok v σ₄) : Ev ns C ρ (.slice a b c) σ v σ₄ := bnd2 h1 (bnd2 h2 (bnd2 h3 h4))
theorem newL_ok {xs : List V} (h : xs.length ≤ lim) : newL xs σ = .ok (.ref σ.length) (σ ++ [.list xs]) := by unfold newL; rw [if_pos h]; rfl
theorem e_list (h1 : Evs ns C ρ es σ vs σ₁) (h : vs.length ≤ lim) : Ev ns C ρ (.list es) σ (.ref σ₁.length) (σ₁ ++ [.list vs]) := bnd2 h1 (newL_ok h)
theorem e_tup (h1 : Evs ns C ρ es σ vs σ₁) (h : vs.length ≤ lim) : Ev ns C ρ (.tup es) σ (.tup vs) σ₁ := bnd2 h1 (by unfold mkT; rw [if_pos h]; rfl)
theorem es_nil : Evs ns C ρ [] σ [] σ := rfl
theorem es_cons (h1 : Ev ns C ρ e σ x σ₁) (h2 : Evs ns C ρ es σ₁ vs σ₂) : Evs ns C ρ (e :: es) σ (x :: vs) σ₂ := bnd2 h1 (bnd2 h2 rfl)
theorem es_one (h1 : Ev ns C ρ e σ x σ₁) : Evs ns C ρ [e] σ [x] σ₁ := bnd2 h1 rfl
theorem es_two {e' : E} (h1 : Ev ns C ρ e σ x σ₁) (h2 : Ev ns C ρ e' σ₁ y σ₂) : Evs ns C ρ [e, e'] σ [x, y] σ₂ := es_cons h1 (es_one h2)
theorem es_three {e' e'' : E} (h1 : Ev ns C ρ e σ x σ₁) (h2 : Ev ns C ρ e' σ₁ y σ₂) (h3 : Ev ns C ρ e'' σ₂ z σ₃) : Evs ns C ρ [e, e', e''] σ [x, y, z] σ₃ := es_cons h1 (es_two h2 h3)
/-- one by one: the first that settles it -/
theorem and1 {p : Bool} (h1 : Ev ns C ρ e σ (.bool p) σ₁) : evAnd ns C ρ [e] σ = .ok (.bool p) σ₁ := bnd2 h1 rfl
theorem andF {e' : E} {r : List E} (h1 : Ev ns C ρ e σ (.bool false) σ₁) : evAnd ns C ρ (e :: e' :: r) σ = .ok (.bool false) σ₁ := bnd2 h1 rfl
theorem andT {e' : E} {r : List E} {R₀ : R V} (h1 : Ev ns C ρ e σ (.bool true) σ₁) (h2 : evAnd ns C ρ (e' :: r) σ₁ = R₀) : evAnd ns C ρ (e :: e' :: r) σ = R₀ := bnd2 h1 h2
theorem or1 {p : Bool} (h1 : Ev ns C ρ e σ (.bool p) σ₁) : evOr ns C ρ [e] σ = .ok (.bool p) σ₁ := bnd2 h1 rfl
theorem orT {e' : E} {r : List E} (h1 : Ev ns C ρ e σ (.bool true) σ₁) : evOr ns C ρ (e :: e' :: r) σ = .ok (.bool true) σ₁ := bnd2 h1 rfl
theorem orF {e' : E} {r : List E} {R₀ : R V} (h1 : Ev ns C ρ e σ (.bool false) σ₁) (h2 : evOr ns C ρ (e' :: r) σ₁ = R₀) : evOr ns C ρ (e :: e' :: r) σ = R₀ := bnd2 h1 h2
theorem and2 {e' : E} {p q : Bool} (h1 : Ev ns C ρ e σ (.bool p) σ) (h2 : Ev ns C ρ e' σ (.bool q) σ) : Ev ns C ρ (.and [e, e']) σ (.bool (p && q)) σ := by
  cases p
  · exact andF h1
  · exact andT h1 (and1 h2)
theorem or2 {e' : E} {p q : Bool} (h1 : Ev ns C ρ e σ (.bool p) σ) (h2 : Ev ns C ρ e' σ (.bool q) σ) : Ev ns C ρ (.or [e, e']) σ (.bool (p || q)) σ := by
  cases p
  · exact orF h1 (or1 h2)
  · exact orT h1

/-! statements -/
variable {r t f : List S} {Res : RS}
theorem s_assign {k : Nat} (h1 : Ev ns C ρ e σ v σ₁) (hk : Nat.blt k ρ.length = true) (h2 : evSs ns C (ρ.set k (some v)) σ₁ r = Res) : evSs ns C ρ σ (.assign k e :: r) = Res := by
  unfold evSs evS
  rw [show evE ns C ρ e σ = _ from h1]
  show (match (if k < ρ.length then RS.ok .next (ρ.set k (some v)) σ₁ else .stuck) with | .ok .next ρ' σ' => evSs ns C ρ' σ' r | x => x) = Res
  rw [if_pos (show k < ρ.length from Nat.le_of_ble_eq_true hk)]; exact h2
theorem s_ret (h1 : Ev ns C ρ e σ v σ₁) : evSs ns C ρ σ (.ret e :: r) = .ok (.ret v) ρ σ₁ := by
  unfold evSs evS
  rw [show evE ns C ρ e σ = _ from h1]; rfl
theorem s_expr (h1 : Ev ns C ρ e σ v σ₁) (h2 : evSs ns C ρ σ₁ r = Res) : evSs ns C ρ σ (.expr e :: r) = Res := by
  unfold evSs evS
  rw [show evE ns C ρ e σ = _ from h1]; exact h2
theorem s_set (h1 : Ev ns C ρ e σ v σ₁) (h2 : Ev ns C ρ a σ₁ x σ₂) (h3 : Ev ns C ρ b σ₂ y σ₃) (h4 : setV x y v σ₃ = .ok w σ₄) (h5 : evSs ns C ρ σ₄ r = Res) : evSs ns C ρ σ (.setitem a b e :: r) = Res := by
  unfold evSs evS
  rw [show ((evE ns C ρ e).bnd fun v => (evE ns C ρ a).bnd fun x => (evE ns C ρ b).bnd fun k => setV x k v) σ = .ok w σ₄ from bnd2 h1 (bnd2 h2 (bnd2 h3 h4))]; exact h5
noncomputable def after (ns : List Int) (C : Calls) (r : List S) (x : RS) : RS := match x with
  | .ok .next ρ' σ' => evSs ns C ρ' σ' r
  | x => x
theorem ss_cons {s : S} : evSs ns C ρ σ (s :: r) = after ns C r (evS ns C ρ σ s) := by rw [evSs]; rfl
theorem s_if {p : Bool} (h1 : Ev ns C ρ c σ (.bool p) σ₁) (h2 : after ns C r (evSs ns C ρ σ₁ (if p then t else f)) = Res) : evSs ns C ρ σ (.ite c t f :: r) = Res := by
  rw [ss_cons]
  unfold evS
  rw [show evE ns C ρ c σ = _ from h1]
  cases p <;> exact h2
theorem s_ifT (h1 : Ev ns C ρ c σ (.bool true) σ₁) (h2 : after ns C r (evSs ns C ρ σ₁ t) = Res) : evSs ns C ρ σ (.ite c t f :: r) = Res := s_if (p := true) h1 h2
theorem s_ifF (h1 : Ev ns C ρ c σ (.bool false) σ₁) (h2 : evSs ns C ρ σ₁ r = Res) : evSs ns C ρ σ (.ite c t [] :: r) = Res := s_if (p := false) h1 h2
theorem after_ret : after ns C r (.ok (.ret v) ρ σ) = .ok (.ret v) ρ σ := rfl
theorem after_next {x : RS} (h : x = .ok .next ρ' σ') (h2 : evSs ns C ρ' σ' r = Res) : after ns C r x = Res := by rw [h]; exact h2
theorem after_end {x : RS} (h : x = .ok (.ret v) ρ' σ') : after ns C r x = .ok (.ret v) ρ' σ' := by rw [h]; rfl
theorem after_exc {x : RS} {k : Nat} (h : x = .exc k ρ' σ') : after ns C r x = .exc k ρ' σ' := by rw [h]; rfl
theorem ss_nil : evSs ns C ρ σ [] = .ok .next ρ σ := by rw [evSs]
theorem s_forN {k : Nat} {src : Src} {body : List S} {it : It} {n : Nat} (hn : C.hn = true) (h1 : evSrc ns C ρ src σ = .ok (it, n) σ₁) (h2 : after ns C r (forLoop (tgtN k) (fun ρ σ => evSs ns C ρ σ body) n it ρ σ₁) = Res) : evSs ns C ρ σ (.forN k src body :: r) = Res := by
  rw [ss_cons]
  unfold evS
  rw [h1, RS.ofE]
  dsimp only
  rw [if_pos hn]; exact h2
theorem s_forP {k k' : Nat} {src : Src} {body : List S} {it : It} {n : Nat} (hn : C.hn = true) (h1 : evSrc ns C ρ src σ = .ok (it, n) σ₁) (h2 : after ns C r (forLoop (tgtP k k') (fun ρ σ => evSs ns C ρ σ body) n it ρ σ₁) = Res) : evSs ns C ρ σ (.forP k k' src body :: r) = Res := by
  rw [ss_cons]
  unfold evS
  rw [h1, RS.ofE]
  dsimp only
  rw [if_pos hn]; exact h2
/-- a call -/
theorem f_ret {fn : Fn} (hl : vs.length = fn.nargs) (h : evSs ns C (vs.map some ++ List.replicate (fn.n - fn.nargs) .none) σ fn.body = .ok (.ret v) ρ' σ') : evF ns C fn vs σ = .ok v σ' := by
  unfold evF; rw [if_pos hl, h]
theorem f_exc {fn : Fn} {k : Nat} (hl : vs.length = fn.nargs) (h : evSs ns C (vs.map some ++ List.replicate (fn.n - fn.nargs) .none) σ fn.body = .exc k ρ' σ') : evF ns C fn vs σ = .exc k σ' := by
  unfold evF; rw [if_pos hl, h]

/-! loops -/
theorem for_stop {tgt : V → Env → Option Env} {body : Env → H → RS} {n : Nat} {it : It} (h : nextIt it σ = some .none) : forLoop tgt body n it ρ σ = .ok .next ρ σ := by
  unfold forLoop; rw [h]
theorem for_step {tgt : V → Env → Option Env} {body : Env → H → RS} {n : Nat} {it it' : It} (h : nextIt it σ = some (some (v, it'))) (ht : tgt v ρ = some ρ₁) (hb : body ρ₁ σ = .ok .next ρ₂ σ₂) (hr : forLoop tgt body n it' ρ₂ σ₂ = Res) : forLoop tgt body (n + 1) it ρ σ = Res := by
  unfold forLoop; rw [h]; dsimp only; rw [ht]; dsimp only; rw [hb]; exact hr
theorem for_ret {tgt : V → Env → Option Env} {body : Env → H → RS} {n : Nat} {it it' : It} (h : nextIt it σ = some (some (v, it'))) (ht : tgt v ρ = some ρ₁) (hb : body ρ₁ σ = .ok (.ret w) ρ₂ σ₂) : forLoop tgt body (n + 1) it ρ σ = .ok (.ret w) ρ₂ σ₂ := by
  unfold forLoop; rw [h]; dsimp only; rw [ht]; dsimp only; rw [hb]
theorem for_exc {tgt : V → Env → Option Env} {body : Env → H → RS} {n : Nat} {it it' : It} {k : Nat} (h : nextIt it σ = some (some (v, it'))) (ht : tgt v ρ = some ρ₁) (hb : body ρ₁ σ = .exc k ρ₂ σ₂) : forLoop tgt body (n + 1) it ρ σ = .exc k ρ₂ σ₂ := by
  unfold forLoop; rw [h]; dsimp only; rw [ht]; dsimp only; rw [hb]
/-- a loop that ends by itself: `P i` holds before turn `i` -/
theorem for_all {tgt : V → Env → Option Env} {body : Env → H → RS} {it : Nat → It} (P : Nat → Env → H → Prop) (N : Nat)
    (stop : ∀ ρ σ, P N ρ σ → nextIt (it N) σ = some .none)
    (step : ∀ i ρ σ, i < N → P i ρ σ → ∃ v ρ₁ ρ₂ σ₂, nextIt (it i) σ = some (some (v, it (i + 1))) ∧ tgt v ρ = some ρ₁ ∧ body ρ₁ σ = .ok .next ρ₂ σ₂ ∧ P (i + 1) ρ₂ σ₂) :
    ∀ (m i : Nat) (ρ : Env) (σ : H), i + m = N → P i ρ σ → ∃ ρ' σ', forLoop tgt body m (it i) ρ σ = .ok .next ρ' σ' ∧ P N ρ' σ'
  | 0, i, ρ, σ, e, p => by
    obtain rfl : i = N := e
    exact ⟨ρ, σ, for_stop (stop ρ σ p), p⟩
  | m + 1, i, ρ, σ, e, p => by
    obtain ⟨v, ρ₁, ρ₂, σ₂, h1, h2, h3, h4⟩ := step i ρ σ (by (first | lia | omega)) p
    obtain ⟨ρ', σ', h5, h6⟩ := for_all P N stop step m (i + 1) ρ₂ σ₂ (by (first | lia | omega)) h4
    exact ⟨ρ', σ', for_step h1 h2 h3 h5, h6⟩
end

/-! The heap grows. -/
noncomputable abbrev Gr (σ σ' : H) : Prop := σ <+: σ'
theorem Gr.rfl {σ : H} : Gr σ σ := List.prefix_refl σ
theorem Gr.app (σ τ : H) : Gr σ (σ ++ τ) := List.prefix_append σ τ
theorem Gr.tr {a b c : H} (h : Gr a b) (h' : Gr b c) : Gr a c := List.IsPrefix.trans h h'
theorem Gr.at {σ σ' : H} (h : Gr σ σ') {i : Nat} {o : O} (e : σ[i]? = some o) : σ'[i]? = some o := by
  obtain ⟨τ, rfl⟩ := h
  rw [List.getElem?_append_left (List.getElem?_eq_some_iff.mp e).1]; exact e
theorem listAt_of {σ : H} {l : Nat} {xs : List V} (h : σ[l]? = some (.list xs)) : listAt σ l = some xs := by unfold listAt; rw [h]
theorem dictAt_of {σ : H} {l : Nat} {xs : List (List Nat × V)} (h : σ[l]? = some (.dict xs)) : dictAt σ l = some xs := by unfold dictAt; rw [h]
theorem at_new (σ : H) (o : O) : (σ ++ [o])[σ.length]? = some o := by rw [List.getElem?_append_right (Nat.le_refl _), Nat.sub_self]; rfl
theorem set_new (σ : H) (o o' : O) : (σ ++ [o]).set σ.length o' = σ ++ [o'] := by rw [List.set_append_right _ _ (Nat.le_refl _), Nat.sub_self]; rfl
theorem onL_ok {α : Type} {σ : H} {l : Nat} {xs : List V} {f : List V → M α} (h : σ[l]? = some (.list xs)) : onL l f σ = f xs σ := by unfold onL; rw [listAt_of h]
theorem onD_ok {α : Type} {σ : H} {l : Nat} {xs : List (List Nat × V)} {f : List (List Nat × V) → M α} (h : σ[l]? = some (.dict xs)) : onD l f σ = f xs σ := by unfold onD; rw [dictAt_of h]

section
variable {ns : List Int} {C : Calls} {ρ : Env} {σ σ' σ₁ σ₂ : H}
/-- a comprehension: `P i` holds before turn `i` -/
theorem gather_all {f : V → M (Option V)} {it : Nat → It} (P : Nat → List V → H → Prop) (N : Nat) (stop : ∀ acc σ, P N acc σ → nextIt (it N) σ = some .none)
    (step : ∀ i acc σ, i < N → P i acc σ → ∃ v, nextIt (it i) σ = some (some (v, it (i + 1))) ∧ ((∃ x σ', f v σ = .ok (some x) σ' ∧ acc.length + 1 ≤ lim ∧ P (i + 1) (acc ++ [x]) σ') ∨ ∃ σ', f v σ = .ok .none σ' ∧ P (i + 1) acc σ')) :
    ∀ (m i : Nat) (acc : List V) (σ : H), i + m = N → P i acc σ → ∃ acc' σ', gather f m (it i) acc σ = .ok acc' σ' ∧ P N acc' σ'
  | 0, i, acc, σ, e, p => by
    obtain rfl : i = N := e
    exact ⟨acc, σ, by unfold gather; rw [stop acc σ p], p⟩
  | m + 1, i, acc, σ, e, p => by
    obtain ⟨v, h1, h2⟩ := step i acc σ (by (first | lia | omega)) p
    rcases h2 with ⟨x, σ', h2, hl, h3⟩ | ⟨σ', h2, h3⟩
    · obtain ⟨acc', σ'', h4, h5⟩ := gather_all P N stop step m (i + 1) (acc ++ [x]) σ' (by (first | lia | omega)) h3
      exact ⟨acc', σ'', by unfold gather; rw [h1]; dsimp only; rw [h2]; dsimp only; rw [if_pos hl]; exact h4, h5⟩
    · obtain ⟨acc', σ'', h4, h5⟩ := gather_all P N stop step m (i + 1) acc σ' (by (first | lia | omega)) h3
      exact ⟨acc', σ'', by unfold gather; rw [h1]; dsimp only; rw [h2]; exact h4, h5⟩
noncomputable def fElt (ns : List Int) (C : Calls) (ρ : Env) (elt : E) (v : V) : M (Option V) := (evE ns C (ρ ++ [some v]) elt).bnd fun x => .ret (some x)
theorem fElt_ok {elt : E} {v x : V} (h : Ev ns C (ρ ++ [some v]) elt σ x σ') : fElt ns C ρ elt v σ = .ok (some x) σ' := bnd2 h rfl
theorem e_comp {src : Src} {elt : E} {it : It} {n : Nat} {xs : List V} (hn : C.hn = true) (h1 : evSrc ns C ρ src σ = .ok (it, n) σ₁) (h2 : gather (fElt ns C ρ elt) n it [] σ₁ = .ok xs σ₂) : Ev ns C ρ (.comp src elt) σ (.ref σ₂.length) (σ₂ ++ [.list xs]) := by
  refine bnd2 h1 (bnd2 (a := xs) (σ' := σ₂) ?_ rfl)
  rw [hn]; exact h2
noncomputable def fIf (ns : List Int) (C : Calls) (ρ : Env) (elt cond : E) (v : V) : M (Option V) := (evE ns C (ρ ++ [some v]) cond).bnd fun t => match t with
  | .bool true => (evE ns C (ρ ++ [some v]) elt).bnd fun x => .ret (some x)
  | .bool false => .ret .none
  | _ => stuck
theorem fIf_t {elt cond : E} {v x : V} (h1 : Ev ns C (ρ ++ [some v]) cond σ (.bool true) σ₁) (h : Ev ns C (ρ ++ [some v]) elt σ₁ x σ') : fIf ns C ρ elt cond v σ = .ok (some x) σ' := bnd2 h1 (bnd2 h rfl)
theorem fIf_f {elt cond : E} {v : V} (h1 : Ev ns C (ρ ++ [some v]) cond σ (.bool false) σ₁) : fIf ns C ρ elt cond v σ = .ok .none σ₁ := bnd2 h1 rfl
theorem e_compIf {src : Src} {elt cond : E} {it : It} {n : Nat} {xs : List V} (hn : C.hn = true) (h1 : evSrc ns C ρ src σ = .ok (it, n) σ₁) (h2 : gather (fIf ns C ρ elt cond) n it [] σ₁ = .ok xs σ₂) : Ev ns C ρ (.compIf src elt cond) σ (.ref σ₂.length) (σ₂ ++ [.list xs]) := by
  refine bnd2 h1 (bnd2 (a := xs) (σ' := σ₂) ?_ rfl)
  rw [hn]; exact h2
theorem src_range {e : E} {k : Int} (h : Ev ns C ρ e σ (.int k) σ₁) (h0 : -4611686018427387904 < k) (h1 : k < 4611686018427387904) : evSrc ns C ρ (.range e) σ = .ok (.range 0 k.toNat, k.toNat) σ₁ :=
  bnd2 h (by show (if -4611686018427387904 < k ∧ k < 4611686018427387904 then M.ret (It.range 0 k.toNat, k.toNat) else stuck) σ₁ = _; rw [if_pos ⟨h0, h1⟩]; rfl)
theorem src_of {e : E} {l : Nat} {xs : List V} (h : Ev ns C ρ e σ (.ref l) σ₁) (hl : σ₁[l]? = some (.list xs)) : evSrc ns C ρ (.of e) σ = .ok (.list l 0, xs.length) σ₁ :=
  bnd2 h (by show pick ((listAt σ₁ l).map fun xs => (It.list l 0, xs.length)) σ₁ = _; rw [listAt_of hl]; rfl)
theorem src_enum {e : E} {l : Nat} {xs : List V} (h : Ev ns C ρ e σ (.ref l) σ₁) (hl : σ₁[l]? = some (.list xs)) : evSrc ns C ρ (.enum e) σ = .ok (.enum l 0, xs.length) σ₁ :=
  bnd2 h (by show pick (((listAt σ₁ l).map fun xs => (l, xs.length)).map fun p => (It.enum p.1 0, p.2)) σ₁ = _; rw [listAt_of hl]; rfl)
theorem src_zip {e e' : E} {l m : Nat} {xs ys : List V} (h : Ev ns C ρ e σ (.ref l) σ₁) (h' : Ev ns C ρ e' σ₁ (.ref m) σ₂) (hl : σ₂[l]? = some (.list xs)) (hm : σ₂[m]? = some (.list ys)) : evSrc ns C ρ (.zip e e') σ = .ok (.zip l m 0, xs.length) σ₂ :=
  bnd2 h (bnd2 h' (by show pick (((listAt σ₂ l).map fun xs => (l, xs.length)).bind fun p => ((listAt σ₂ m).map fun xs => (m, xs.length)).map fun q => (It.zip p.1 q.1 0, p.2)) σ₂ = _; rw [listAt_of hl, listAt_of hm]; rfl))
theorem next_range {i N : Nat} (h : i < N) : nextIt (.range i N) σ = some (some (.int i, .range (i + 1) N)) := congrArg some (if_pos h)
theorem stop_range {N : Nat} : nextIt (.range N N) σ = some .none := congrArg some (if_neg (Nat.lt_irrefl _))
theorem next_list {l i : Nat} {xs : List V} {v : V} (hl : σ[l]? = some (.list xs)) (h : xs[i]? = some v) : nextIt (.list l i) σ = some (some (v, .list l (i + 1))) := by unfold nextIt; dsimp only; rw [listAt_of hl, Option.map_some, h]; rfl
theorem stop_list {l : Nat} {xs : List V} (hl : σ[l]? = some (.list xs)) : nextIt (.list l xs.length) σ = some .none := by unfold nextIt; dsimp only; rw [listAt_of hl, Option.map_some, List.getElem?_eq_none (Nat.le_refl _)]; rfl
theorem next_enum {l i : Nat} {xs : List V} {v : V} (hl : σ[l]? = some (.list xs)) (h : xs[i]? = some v) : nextIt (.enum l i) σ = some (some (.tup [.int i, v], .enum l (i + 1))) := by unfold nextIt; dsimp only; rw [listAt_of hl, Option.map_some, h]; rfl
theorem stop_enum {l : Nat} {xs : List V} (hl : σ[l]? = some (.list xs)) : nextIt (.enum l xs.length) σ = some .none := by unfold nextIt; dsimp only; rw [listAt_of hl, Option.map_some, List.getElem?_eq_none (Nat.le_refl _)]; rfl

/-! operators at values -/
theorem idxN_nat {k : Int} {n : Nat} (h0 : 0 ≤ k) (h1 : k.toNat < n) : idxN k n = some k.toNat := by unfold idxN; rw [if_pos h0, if_pos h1]
theorem idxS {x : List Nat} {k : Int} (h0 : 0 ≤ k) (h1 : k.toNat < x.length) : idxV ns (.str x) (.int k) σ = .ok (.str [x[k.toNat]]) σ := by
  show pick (((idxN k x.length).bind (x[·]?)).map fun c => V.str [c]) σ = _
  rw [idxN_nat h0 h1, Option.bind_some, List.getElem?_eq_getElem h1]; rfl
theorem idxL {l : Nat} {xs : List V} {k : Int} {v : V} (hl : σ[l]? = some (.list xs)) (h0 : 0 ≤ k) (h1 : xs[k.toNat]? = some v) : idxV ns (.ref l) (.int k) σ = .ok v σ := by
  show onL l (fun xs => pick ((idxN k xs.length).bind (xs[·]?))) σ = _
  rw [onL_ok hl, idxN_nat h0 (List.getElem?_eq_some_iff.mp h1).1, Option.bind_some, h1]; rfl
theorem idxD {l : Nat} {kvs : List (List Nat × V)} {x : List Nat} {v : V} (hl : σ[l]? = some (.dict kvs)) (h1 : dget kvs x = some v) : idxV ns (.ref l) (.str x) σ = .ok v σ := by
  show onD l (fun kvs => pick (dget kvs x)) σ = _
  rw [onD_ok hl, h1]; rfl
theorem lenL {l : Nat} {xs : List V} (hl : σ[l]? = some (.list xs)) : biV ns .len (.ref l) σ = .ok (.int xs.length) σ := by
  show onL l (fun xs => M.ret (V.int xs.length)) σ = _
  rw [onL_ok hl]; rfl
theorem addS {x y : List Nat} (h : x.length + y.length ≤ lim) : binV .add (.str x) (.str y) σ = .ok (.str (x ++ y)) σ := by
  show mkS (x ++ y) σ = _
  unfold mkS
  rw [if_pos (by rw [List.length_append]; exact h)]; rfl
theorem addL {i j : Nat} {xs ys : List V} (hi : σ[i]? = some (.list xs)) (hj : σ[j]? = some (.list ys)) (h : xs.length + ys.length ≤ lim) : binV .add (.ref i) (.ref j) σ = .ok (.ref σ.length) (σ ++ [.list (xs ++ ys)]) := by
  show onL i (fun xs => onL j fun ys => newL (xs ++ ys)) σ = _
  rw [onL_ok hi, onL_ok hj, newL_ok (by rw [List.length_append]; exact h)]
theorem cut_len {α : Type} (xs : List α) (lo hi : Option Int) : (cut xs lo hi).length ≤ xs.length := by
  unfold cut
  exact Nat.le_trans (List.length_take_le' ..) (List.drop_sublist _ _).length_le
theorem slS {x : List Nat} {a b : V} {lo hi : Option Int} (ha : optInt a = some lo) (hb : optInt b = some hi) (h : x.length ≤ lim) : sliceV ns (.str x) a b σ = .ok (.str (cut x lo hi)) σ := by
  unfold sliceV
  rw [ha, hb]
  show mkS (cut x lo hi) σ = _
  unfold mkS
  rw [if_pos (Nat.le_trans (cut_len _ _ _) h)]; rfl
theorem slL {l : Nat} {xs : List V} {a b : V} {lo hi : Option Int} (hl : σ[l]? = some (.list xs)) (ha : optInt a = some lo) (hb : optInt b = some hi) (h : xs.length ≤ lim) : sliceV ns (.ref l) a b σ = .ok (.ref σ.length) (σ ++ [.list (cut xs lo hi)]) := by
  unfold sliceV
  rw [ha, hb]
  show onL l (fun xs => newL (cut xs lo hi)) σ = _
  rw [onL_ok hl, newL_ok (Nat.le_trans (cut_len _ _ _) h)]
theorem modV {x y : Int} (h : y ≠ 0) : binV .mod (.int x) (.int y) σ = .ok (.int (x.fmod y)) σ := by
  show (if y = 0 then stuck else M.ret (V.int (x.fmod y))) σ = _
  rw [if_neg h]; rfl
end
end Mine.P

set_option maxRecDepth 100000
set_option linter.all false
namespace Mine.L03
open PySem Mine Mine.P

section
variable {ns : List Int} {C : Calls} {σ σ' : H}

/-- a value: None or an int -/
noncomputable def val : Option Int → V
  | .none => .none
  | some i => .int i

theorem mulR (x y : Int) (hy : small y = true) : binV .mul (.int x) (.int y) σ = .ok (.int (x * y)) σ := by
  show (if (small x || small y) = true then M.ret (V.int (x * y)) else stuck) σ = _
  rw [hy, Bool.or_true]; rfl
theorem mixed_ok (x : Int) : evF ns C f12_mixed [.int x] σ = .ok (.int ((x * 48271 + 7919).fmod 2147483647)) σ := by
  apply f_ret rfl
  apply s_ret
  apply e_bin
  apply e_bin
  apply e_bin rfl rfl (mulR x _ rfl)
  all_goals exact rfl
theorem lt_ok (x y : Int) : cmpV .lt (.int x) (.int y) σ = .ok (.bool (decide (x < y))) σ := rfl
theorem cell_ok (hn : C.hn = true) (k : Nat) : evF ns C f11_cell_at [.scr, .int k] σ = .ok (.int (ns.getD k 0)) σ := by
  by_cases h : k < ns.length
  · apply f_ret rfl
    apply s_ifT
    · apply e_cmp rfl (e_bi hn rfl rfl)
      apply (lt_ok _ _).trans
      rw [decide_eq_true (by (first | lia | omega) : (k : Int) < ns.length)]
    · apply after_end
      apply s_ret
      apply e_idx rfl rfl
      show pick (((idxN k ns.length).bind (ns[·]?)).map V.int) σ = _
      have e : idxN k ns.length = some k := by unfold idxN; rw [if_pos (by (first | lia | omega)), Int.toNat_natCast, if_pos h]
      rw [e]
      show pick ((ns[k]?).map V.int) σ = _
      rw [List.getD_eq_getElem?_getD, List.getElem?_eq_getElem h]; rfl
  · apply f_ret rfl
    apply s_ifF
    · apply e_cmp rfl (e_bi hn rfl rfl)
      apply (lt_ok _ _).trans
      rw [decide_eq_false (by (first | lia | omega) : ¬ (k : Int) < ns.length)]
    · apply s_ret
      rw [List.getD_eq_getElem?_getD, List.getElem?_eq_none (by (first | lia | omega))]; rfl
theorem whole_ok (i : Int) : evF ns C f0_is_whole [.int i] σ = .ok (.bool true) σ := rfl
theorem under_ok (x y : List Nat) : evF ns C f1_is_under [.str x, .str y] σ = .ok (.bool (pre y x)) σ := rfl
theorem eqI (i j : Int) : cmpV .eq (.int i) (.int j) σ = .ok (.bool (decide (i = j))) σ := by
  show R.ok (V.bool (decide ((At.int i) = (At.int j)) != false)) σ = _
  rw [Bool.bne_false]
  congr 2
  exact decide_eq_decide.mpr ⟨fun q => by injection q, fun q => by rw [q]⟩
theorem eqS (x y : List Nat) : cmpV .eq (.str x) (.str y) σ = .ok (.bool (decide (x = y))) σ := by
  show R.ok (V.bool (decide ((At.str x) = (At.str y)) != false)) σ = _
  rw [Bool.bne_false]
  congr 2
  exact decide_eq_decide.mpr ⟨fun q => by injection q, fun q => by rw [q]⟩
/-- two values are alike -/
theorem alike_ok (h0 : ∀ i σ, C.call 0 [.int i] σ = .ok (.bool true) σ) (s t : Option Int) : evF ns C f4_is_alike [val s, val t] σ = .ok (.bool (decide (s = t))) σ := by
  cases s with
  | none => cases t <;> rfl
  | some i =>
    cases t with
    | none => rfl
    | some j =>
      apply f_ret rfl
      apply s_ifF rfl
      apply s_ret
      apply andT (e_call rfl (h0 i σ))
      apply andT (e_call rfl (h0 j σ))
      apply and1
      apply e_cmp rfl rfl
      apply (eqI i j).trans
      congr 2
      exact decide_eq_decide.mpr ⟨fun q => by rw [q], fun q => by injection q⟩
theorem same_ok (h0 : ∀ i σ, C.call 10 [.int i] σ = .ok (.bool true) σ) (s t : Option Int) : evF ns C f17_same [val s, val t] σ = .ok (.bool (decide (s = t))) σ := by
  cases s with
  | none => cases t <;> rfl
  | some i =>
    cases t with
    | none => rfl
    | some j =>
      apply f_ret rfl
      apply s_ifF rfl
      apply s_ret
      apply andT (e_call rfl (h0 i σ))
      apply and1
      apply e_cmp rfl rfl
      apply (eqI i j).trans
      congr 2
      exact decide_eq_decide.mpr ⟨fun q => by rw [q], fun q => by injection q⟩
/-- a value by a cell -/
theorem value_ok (x : Int) : ∃ t σ', evF ns C f16_value_by [.int x] σ = .ok (val t) σ' ∧ Gr σ σ' := by
  have q : ∀ k : Int, Ev ns C [some (.int x)] (.cmp .eq (.bin .mod (.var 0) (.lit (V.int 7))) (.lit (V.int k))) σ (.bool (decide (x.fmod 7 = k))) σ := fun k => e_cmp rfl rfl (eqI _ _)
  by_cases h3 : x.fmod 7 = 3
  · refine ⟨none, σ, f_ret rfl (s_ifT ((q 3).trans ?_) (after_end (s_ret rfl))), Gr.rfl⟩
    rw [decide_eq_true h3]
  · have h3' := (q 3).trans (by rw [decide_eq_false h3])
    by_cases h4 : x.fmod 7 = 4
    · have e : (x.fdiv 7).fmod 5 = 0 ∨ (x.fdiv 7).fmod 5 = 1 ∨ (x.fdiv 7).fmod 5 = 2 ∨ (x.fdiv 7).fmod 5 = 3 ∨ (x.fdiv 7).fmod 5 = 4 := by
        rw [Int.fmod_eq_emod_of_nonneg _ (by decide)]; (first | lia | omega)
      have h4' := (q 4).trans (by rw [decide_eq_true h4])
      have hl : Ev ns C [some (.int x)] (.list [(.lit (V.int 0)), (.lit (V.int 1)), (.neg (.lit (V.int 1))), (.bin .pow (.lit (V.int 10)) (.lit (V.int 30))), (.neg (.bin .pow (.lit (V.int 10)) (.lit (V.int 30))))]) σ (.ref σ.length) (σ ++ [.list [.int 0, .int 1, .int (-1), .int (10 ^ 30), .int (-10 ^ 30)]]) := e_list rfl (by decide)
      have hi : ∀ (j : Int) (t : Int), (x.fdiv 7).fmod 5 = j → ((idxN j 5).bind ([V.int 0, V.int 1, V.int (-1), V.int (10 ^ 30), V.int (-10 ^ 30)][·]?)) = some (.int t) →
          ∃ t' σ', evF ns C f16_value_by [.int x] σ = .ok (val t') σ' ∧ Gr σ σ' := fun j t hj ht =>
        ⟨some t, _, f_ret rfl (s_ifF h3' (s_ifT h4' (after_end (s_ret (e_idx hl rfl (show idxV ns (.ref σ.length) (.int ((x.fdiv 7).fmod 5)) _ = _ from by
          rw [hj]
          unfold idxV
          dsimp only
          rw [onL_ok (at_new _ _)]
          show pick ((idxN j 5).bind _) _ = _
          rw [ht]; rfl)))))), Gr.app _ _⟩
      rcases e with e | e | e | e | e
      · exact hi 0 0 e rfl
      · exact hi 1 1 e rfl
      · exact hi 2 (-1) e rfl
      · exact hi 3 (10 ^ 30) e rfl
      · exact hi 4 (-10 ^ 30) e rfl
    · have h4' := (q 4).trans (by rw [decide_eq_false h4])
      by_cases h5 : x.fmod 7 = 5
      · have h5' := (q 5).trans (by rw [decide_eq_true h5])
        exact ⟨some _, σ, f_ret rfl (s_ifF h3' (s_ifF h4' (s_ifT h5' (after_end (s_ret rfl))))), Gr.rfl⟩
      · have h5' := (q 5).trans (by rw [decide_eq_false h5])
        exact ⟨some _, σ, f_ret rfl (s_ifF h3' (s_ifF h4' (s_ifF h5' (s_ret rfl)))), Gr.rfl⟩
end
end Mine.L03

set_option maxRecDepth 100000
set_option linter.all false
namespace Mine.L03
open PySem Mine Mine.P

noncomputable def signs : List Nat := [97, 98, 99, 100, 101, 102, 103, 104, 105, 106, 107, 108, 109, 110, 111, 112, 113, 114, 115, 116, 117, 118, 119, 120, 121, 122, 48, 49, 50, 51, 52, 53, 54, 55, 56, 57, 46]
section
variable {ns : List Int} {C : Calls} {σ σ' : H}
theorem fmod_lt (x : Int) {y : Int} (h : 0 < y) : 0 ≤ x.fmod y ∧ x.fmod y < y := ⟨Int.fmod_nonneg_of_pos _ h, Int.fmod_lt_of_pos _ h⟩
theorem sign_ok (x : Int) : ∃ c, idxV ns (.str signs) (.int (x.fmod 37)) σ = .ok (.str [c]) σ := by
  obtain ⟨h1, h2⟩ := fmod_lt x (y := 37) (by decide)
  exact ⟨_, idxS h1 (by show _ < 37; (first | lia | omega))⟩

theorem name_ok (hn : C.hn = true) (h12 : ∀ x σ, ∃ y : Int, C.call 12 [.int x] σ = .ok (.int y) σ) (c : Int) : ∃ x, evF ns C f13_name_by [.int c] σ = .ok (.str x) σ ∧ 1 ≤ x.length ∧ x.length ≤ 12 := by
  obtain ⟨g1, g2⟩ := fmod_lt c (y := 12) (by decide)
  have hN : (1 + c.fmod 12).toNat ≤ 12 ∧ 1 ≤ (1 + c.fmod 12).toNat := by (first | lia | omega)
  obtain ⟨ρ', σ', h, x, m, o, hx, hρ, rfl⟩ := for_all (tgt := tgtN 4) (body := fun ρ σ => evSs ns C ρ σ [.assign 3 (.call 12 [(.var 3)]), .assign 2 (.bin .add (.var 2) (.idx (.var 1) (.bin .mod (.var 3) (.lit (V.int 37)))))]) (it := fun i => .range i (1 + c.fmod 12).toNat)
    (fun i ρ σ' => ∃ (x : List Nat) (m : Int) (o : Option V), x.length = i ∧ ρ = [some (.int c), some (.str signs), some (.str x), some (.int m), o] ∧ σ' = σ) (1 + c.fmod 12).toNat (fun _ _ _ => stop_range)
    (fun i ρ σ' hi p => by
      obtain ⟨x, m, o, hx, rfl, rfl⟩ := p
      obtain ⟨y, hy⟩ := h12 m σ'
      obtain ⟨d, hd⟩ := sign_ok (ns := ns) (σ := σ') y
      refine ⟨_, _, _, _, next_range hi, rfl, s_assign (e_call rfl hy) rfl (s_assign (e_bin rfl (e_idx rfl rfl hd) (addS (x := x) (y := [d]) ?_)) rfl ss_nil), x ++ [d], y, _, ?_, rfl, rfl⟩
      · have : lim = 16777216 := rfl
        rw [hx]; show i + 1 ≤ lim; (first | lia | omega)
      · rw [List.length_append, hx]; rfl)
    (1 + c.fmod 12).toNat 0 [some (.int c), some (.str signs), some (.str []), some (.int c), .none] σ (Nat.zero_add _) ⟨[], c, _, rfl, rfl, rfl⟩
  subst hρ
  refine ⟨x, f_ret (fn := f13_name_by) (vs := [.int c]) rfl (s_assign (v := .str signs) rfl rfl (s_assign rfl rfl (s_assign rfl rfl (s_forN hn (src_range (k := 1 + c.fmod 12) rfl (by (first | lia | omega)) (by (first | lia | omega))) (after_next h (s_ret rfl)))))), by (first | lia | omega), by (first | lia | omega)⟩
theorem findS (x : List Nat) (c : Nat) : meV (.str x) .find [.str [c]] σ = .ok (.int (findN c x 0)) σ := rfl
theorem twin_ok (hn : C.hn = true) {x : List Nat} (h1 : 1 ≤ x.length) (h2 : x.length ≤ 12) (c : Int) : ∃ y, evF ns C f14_twin [.str x, .int c] σ = .ok (.str y) σ ∧ y.length ≤ 32 := by
  have hl : lim = 16777216 := rfl
  obtain ⟨g1, g2⟩ := fmod_lt c (y := x.length) (by (first | lia | omega))
  obtain ⟨d, hd⟩ := sign_ok (ns := ns) (σ := σ) (findN x[(c.fmod x.length).toNat] signs 0 + 1 + (c.fdiv 12).fmod 36)
  have c1 := cut_len x .none (some (c.fmod x.length))
  have c2 := cut_len x (some (c.fmod x.length + 1)) .none
  refine ⟨_, f_ret (fn := f14_twin) (vs := [.str x, .int c]) rfl (s_assign (v := .str signs) rfl rfl (s_assign (v := .int (c.fmod x.length)) (e_bin rfl (e_bi hn rfl rfl) (modV (by (first | lia | omega)))) rfl (s_assign (v := .int (findN x[(c.fmod x.length).toNat] signs 0 + 1 + (c.fdiv 12).fmod 36)) (e_bin (e_bin (e_me rfl rfl (es_one (e_idx rfl rfl (idxS g1 (by (first | lia | omega))))) (findS _ _)) rfl rfl) rfl rfl) rfl
    (s_ret (e_bin (e_bin (e_slice rfl rfl rfl (slS (lo := .none) (hi := some (c.fmod x.length)) rfl rfl (by (first | lia | omega)))) (e_idx rfl rfl hd) (addS ?_)) (e_slice rfl rfl rfl (slS (lo := some (c.fmod x.length + 1)) (hi := .none) rfl rfl (by (first | lia | omega)))) (addS ?_)))))), ?_⟩
  · show _ + 1 ≤ lim; (first | lia | omega)
  · rw [List.length_append]; show _ + 1 + _ ≤ lim; (first | lia | omega)
  · rw [List.length_append, List.length_append]; show _ + 1 + _ ≤ 32; (first | lia | omega)
end
end Mine.L03

set_option maxRecDepth 100000
set_option linter.all false
namespace Mine.L03
open PySem Mine Mine.P

/-- a name -/
noncomputable def isN (v : V) : Prop := ∃ x, v = .str x ∧ x.length ≤ 32
noncomputable def allN (xs : List V) : Prop := ∀ v ∈ xs, isN v
theorem allN.app {xs ys : List V} (h : allN xs) (h' : allN ys) : allN (xs ++ ys) := fun v hv => (List.mem_append.mp hv).elim (h v) (h' v)
theorem allN.cut {xs : List V} (h : allN xs) (lo hi : Option Int) : allN (cut xs lo hi) := fun v hv => h v (List.mem_of_mem_drop (List.mem_of_mem_take hv))
theorem allN.nil : allN [] := fun _ h => nomatch h
theorem allN.cons {x : List Nat} {xs : List V} (h : x.length ≤ 32) (h' : allN xs) : allN (.str x :: xs) := fun v hv => (List.mem_cons.mp hv).elim (fun e => ⟨x, e, h⟩) (h' v)
section
variable {ns : List Int} {C : Calls} {σ σ' : H}
theorem strI {i : Nat} (h : i < 1000) : biV ns .str (.int i) σ = .ok (.str (digs i)) σ := by
  show (if (0 : Int) ≤ i ∧ (i : Int) < 1000 then M.ret (V.str (digs (i : Int).toNat)) else stuck) σ = _
  rw [if_pos (by (first | lia | omega))]; rfl
theorem digs_len (i : Nat) : (digs i).length ≤ 3 := by unfold digs; split <;> (try split) <;> simp
theorem pool_ok (hn : C.hn = true) (h13 : ∀ c σ, ∃ x, C.call 13 [.int c] σ = .ok (.str x) σ ∧ 1 ≤ x.length ∧ x.length ≤ 12) (h14 : ∀ x c σ, 1 ≤ x.length → x.length ≤ 12 → ∃ y, C.call 14 [.str x, .int c] σ = .ok (.str y) σ ∧ y.length ≤ 32) (a b : Int) :
    ∃ l xs σ', evF ns C f15_pool [.int a, .int b] σ = .ok (.ref l) σ' ∧ Gr σ σ' ∧ σ'[l]? = some (.list xs) ∧ xs ≠ [] ∧ xs.length ≤ 200 ∧ allN xs := by
  have hl : lim = 16777216 := rfl
  obtain ⟨x, hx, x1, x2⟩ := h13 a σ
  obtain ⟨y, hy, y1, y2⟩ := h13 b σ
  obtain ⟨t, ht, t2⟩ := h14 x b σ x1 x2
  have A1 : (x ++ y).length ≤ 24 := by rw [List.length_append]; (first | lia | omega)
  have A2 : (y ++ [46]).length ≤ 13 := by rw [List.length_append]; show _ + 1 ≤ 13; (first | lia | omega)
  have A3 : ((y ++ [97]) ++ x).length ≤ 25 := by rw [List.length_append, List.length_append]; show _ + 1 + _ ≤ 25; (first | lia | omega)
  have k1 := cut_len (x ++ y) .none (some 12)
  have k2 := cut_len x .none (some (1 + b.fmod x.length))
  have k3 := cut_len (y ++ [46]) .none (some 12)
  have k4 := cut_len ((y ++ [97]) ++ x) .none (some 12)
  obtain ⟨m1, m2⟩ := fmod_lt (a.fdiv 7) (y := 7) (by decide)
  let L1 : List V := [.str x, .str t, .str y, .str (cut (x ++ y) .none (some 12)), .str (cut x .none (some (1 + b.fmod x.length)))]
  let L2 : List V := [.str (cut (y ++ [46]) .none (some 12)), .str (cut ((y ++ [97]) ++ x) .none (some 12))]
  have n1 : allN L1 := .cons (by (first | lia | omega)) (.cons t2 (.cons (by (first | lia | omega)) (.cons (by (first | lia | omega)) (.cons (by (first | lia | omega)) .nil))))
  have n2 : allN L2 := .cons (by (first | lia | omega)) (.cons (by (first | lia | omega)) .nil)
  let L3 : List V := cut (L1 ++ L2) .none (some (1 + (a.fdiv 7).fmod 7))
  have n3 : allN L3 := (n1.app n2).cut _ _
  have l3 : L3.length ≤ 7 := cut_len (L1 ++ L2) _ _
  have p3 : L3 ≠ [] := fun q => by
    have e : L3.length = min (1 + (a.fdiv 7).fmod 7).toNat 7 := by
      show (((L1 ++ L2).drop 0).take (clampN (1 + (a.fdiv 7).fmod 7) 7 - 0)).length = _
      unfold clampN
      rw [if_pos (by (first | lia | omega)), List.drop_zero, Nat.sub_zero, List.length_take]
      show min (min _ 7) 7 = _
      (first | lia | omega)
    rw [q] at e
    have : ([] : List V).length = 0 := rfl
    (first | lia | omega)
  let σ1 := σ ++ [.list L1]
  let σ2 := σ1 ++ [.list L2]
  let σ3 := σ2 ++ [.list (L1 ++ L2)]
  let σ4 := σ3 ++ [.list L3]
  have G4 : Gr σ σ4 := ((Gr.app σ _).tr (Gr.app σ1 _)).tr ((Gr.app σ2 _).tr (Gr.app σ3 _))
  have S1 : Ev ns C [some (.int a), some (.int b), some (.str x), some (.str y), .none] (.list [(.var 2), (.call 14 [(.var 2), (.var 1)]), (.var 3), (.slice (.bin .add (.var 2) (.var 3)) .nil (.lit (V.int 12))), (.slice (.var 2) .nil (.bin .add (.lit (V.int 1)) (.bin .mod (.var 1) (.bi .len (.var 2)))))]) σ (.ref σ.length) σ1 :=
    e_list (es_cons rfl (es_cons (e_call rfl ht) (es_cons rfl (es_two (e_slice (e_bin rfl rfl (addS (by rw [← List.length_append]; (first | lia | omega)))) rfl rfl (slS (lo := .none) (hi := some 12) rfl rfl (by (first | lia | omega))))
      (e_slice rfl rfl (e_bin rfl (e_bin rfl (e_bi hn rfl rfl) (modV (by (first | lia | omega)))) rfl) (slS (lo := .none) (hi := some (1 + b.fmod x.length)) rfl rfl (by (first | lia | omega)))))))) (by show 5 ≤ lim; (first | lia | omega))
  have S2 : Ev ns C [some (.int a), some (.int b), some (.str x), some (.str y), some (.ref σ.length)] (.slice (.bin .add (.var 4) (.list [(.slice (.bin .add (.var 3) (.lit (V.str [46]))) .nil (.lit (V.int 12))), (.slice (.bin .add (.bin .add (.var 3) (.lit (V.str [97]))) (.var 2)) .nil (.lit (V.int 12)))])) .nil (.bin .add (.lit (V.int 1)) (.bin .mod (.bin .fdiv (.var 0) (.lit (V.int 7))) (.lit (V.int 7))))) σ1 (.ref σ3.length) σ4 :=
    e_slice (e_bin rfl (e_list (es_two (e_slice (e_bin rfl rfl (addS (by rw [← List.length_append]; (first | lia | omega)))) rfl rfl (slS (lo := .none) (hi := some 12) rfl rfl (by (first | lia | omega))))
      (e_slice (e_bin (e_bin rfl rfl (addS (by show _ + 1 ≤ lim; (first | lia | omega)))) rfl (addS (by rw [← List.length_append]; (first | lia | omega)))) rfl rfl (slS (lo := .none) (hi := some 12) rfl rfl (by (first | lia | omega))))) (by show 2 ≤ lim; (first | lia | omega)))
      (addL ((Gr.app σ1 _).at (at_new σ _)) (at_new σ1 _) (by show 5 + 2 ≤ lim; (first | lia | omega)))) rfl rfl (slL (at_new σ2 _) rfl rfl (by show 7 ≤ lim; (first | lia | omega)))
  have Q : Ev ns C [some (.int a), some (.int b), some (.str x), some (.str y), some (.ref σ3.length)] (.cmp .eq (.bin .mod (.bin .fdiv (.var 1) (.lit (V.int 7))) (.lit (V.int 4))) (.lit (V.int 1))) σ4 (.bool (decide ((b.fdiv 7).fmod 4 = 1))) σ4 := e_cmp rfl rfl (eqI _ _)
  by_cases hq : (b.fdiv 7).fmod 4 = 1
  · obtain ⟨w1, w2⟩ := fmod_lt (b.fdiv 28) (y := 130) (by decide)
    obtain ⟨acc, σ', hg, hacc, nacc, rfl⟩ := gather_all (f := fElt ns C [some (.int a), some (.int b), some (.str x), some (.str y), some (.ref σ3.length)] (.bin .add (.lit (V.str [110])) (.bi .str (.var 5)))) (it := fun i => .range i ((b.fdiv 28).fmod 130).toNat)
      (fun i acc σ' => acc.length = i ∧ allN acc ∧ σ' = σ4) ((b.fdiv 28).fmod 130).toNat (fun _ _ _ => stop_range)
      (fun i acc σ' hi p => by
        obtain ⟨h1, h2, rfl⟩ := p
        have := digs_len i
        refine ⟨_, next_range hi, .inl ⟨.str ([110] ++ digs i), σ4, fElt_ok (e_bin rfl (e_bi hn rfl (strI (by (first | lia | omega)))) (addS (by show 1 + _ ≤ lim; (first | lia | omega)))), by (first | lia | omega), by rw [List.length_append, h1]; rfl, h2.app (.cons (by rw [List.length_append]; show 1 + _ ≤ 32; (first | lia | omega)) .nil), rfl⟩⟩)
      ((b.fdiv 28).fmod 130).toNat 0 [] σ4 (Nat.zero_add _) ⟨rfl, .nil, rfl⟩
    refine ⟨_, L3 ++ acc, _, f_ret (fn := f15_pool) (vs := [.int a, .int b]) rfl (s_assign (e_call rfl hx) rfl (s_assign (e_call rfl hy) rfl (s_assign S1 rfl (s_assign S2 rfl (s_ifT (Q.trans (by rw [decide_eq_true hq])) (after_next (s_assign (e_bin rfl (e_comp hn (src_range (k := (b.fdiv 28).fmod 130) rfl (by (first | lia | omega)) (by (first | lia | omega))) hg) (addL ((Gr.app σ4 _).at (at_new σ3 _)) (at_new σ4 _) (by (first | lia | omega)))) rfl ss_nil) (s_ret rfl))))))), (G4.tr (Gr.app σ4 _)).tr (Gr.app _ _), at_new _ _, fun q => p3 (List.append_eq_nil_iff.mp q).1, by rw [List.length_append]; (first | lia | omega), n3.app nacc⟩
  · exact ⟨σ3.length, L3, σ4, f_ret (fn := f15_pool) (vs := [.int a, .int b]) rfl (s_assign (e_call rfl hx) rfl (s_assign (e_call rfl hy) rfl (s_assign S1 rfl (s_assign S2 rfl (s_ifF (Q.trans (by rw [decide_eq_false hq])) (s_ret rfl)))))), G4, at_new σ3 _, p3, by (first | lia | omega), n3⟩
end
end Mine.L03

set_option maxRecDepth 100000
set_option linter.all false
namespace Mine.L03
open PySem Mine Mine.P

noncomputable abbrev Ws := List (List Nat × Option Int)
noncomputable abbrev Kv := List (List Nat × V)
/-- writes, as a list's items and as entries -/
noncomputable def wV (ws : Ws) : List V := ws.map fun p => .tup [.str p.1, val p.2]
noncomputable def wE (ws : Ws) : Kv := ws.map fun p => (p.1, val p.2)
noncomputable def put (d : Kv) (ws : Ws) : Kv := dputs d (wE ws)
noncomputable def get (d : Kv) (n : List Nat) : V := (dget d n).getD .none
noncomputable def look (o : Option V) (ws : Ws) (n : List Nat) : Option V := ws.foldl (fun a q => if q.1 = n then some (val q.2) else a) o

theorem dget_dput (k n : List Nat) (v : V) : ∀ d : Kv, dget (dput d k v) n = if k = n then some v else dget d n
  | [] => by show (if k = n then some v else .none) = _; rfl
  | (a, x) :: r => by
    show dget (if a = k then (a, v) :: r else (a, x) :: dput r k v) n = if k = n then some v else (if a = n then some x else dget r n)
    by_cases h : a = k
    · rw [if_pos h]
      show (if a = n then some v else dget r n) = _
      rw [h]; split <;> rfl
    · rw [if_neg h]
      show (if a = n then some x else dget (dput r k v) n) = _
      rw [dget_dput k n v r]
      by_cases h1 : a = n
      · rw [if_pos h1, if_neg (fun q => h (h1.trans q.symm)), if_pos h1]
      · rw [if_neg h1, if_neg h1]
theorem dput_len (k : List Nat) (v : V) : ∀ d : Kv, (dput d k v).length ≤ d.length + 1
  | [] => Nat.le_refl _
  | (a, x) :: r => by
    show (if a = k then (a, v) :: r else (a, x) :: dput r k v).length ≤ _
    split
    · exact Nat.le_succ _
    · exact Nat.succ_le_succ (dput_len k v r)
theorem put_snoc (d : Kv) (ws : Ws) (p : List Nat × Option Int) : put d (ws ++ [p]) = dput (put d ws) p.1 (val p.2) := by
  unfold put wE dputs
  rw [List.map_append, List.foldl_append]; rfl
theorem put_get (n : List Nat) : ∀ (ws : Ws) (d : Kv), dget (put d ws) n = look (dget d n) ws n
  | [], _ => rfl
  | p :: ws, d => by
    show dget (put (dput d p.1 (val p.2)) ws) n = look (if p.1 = n then some (val p.2) else dget d n) ws n
    rw [put_get n ws, dget_dput]
theorem put_len (ws : Ws) (d : Kv) : (put d ws).length ≤ d.length + ws.length := by
  induction ws generalizing d with
  | nil => exact Nat.le_refl _
  | cons p ws ih =>
    refine Nat.le_trans (ih (dput d p.1 (val p.2))) ?_
    have := dput_len p.1 (val p.2) d
    show _ ≤ d.length + (ws.length + 1)
    (first | lia | omega)
theorem look_none (n : List Nat) : ∀ (ws : Ws) (o : Option V), look o ws n = (look .none ws n).or o
  | [], o => rfl
  | p :: ws, o => by
    show look (if p.1 = n then some (val p.2) else o) ws n = (look (if p.1 = n then some (val p.2) else .none) ws n).or o
    split
    · rw [look_none n ws (some _), Option.or_assoc]; rfl
    · exact look_none n ws o
section
variable {ns : List Int} {C : Calls} {σ σ' : H}

theorem wV_at {ws : Ws} {i : Nat} (h : i < ws.length) : (wV ws)[i]? = some (.tup [.str ws[i].1, val ws[i].2]) := by
  unfold wV; rw [List.getElem?_map, List.getElem?_eq_getElem h]; rfl
theorem take_at {α : Type} (l : List α) {i : Nat} (h : i < l.length) : l.take (i + 1) = l.take i ++ [l[i]] := by rw [List.take_succ, List.getElem?_eq_getElem h]; rfl
theorem setD {l : Nat} {kvs : Kv} {x : List Nat} {v : V} (hl : σ[l]? = some (.dict kvs)) (h : (dput kvs x v).length ≤ lim) : setV (.ref l) (.str x) v σ = .ok .none (σ.set l (.dict (dput kvs x v))) := by
  show onD l (fun kvs => putD l (dput kvs x v)) σ = _
  rw [onD_ok hl]
  unfold putD
  rw [if_pos h]
theorem values_ok (hn : C.hn = true) {l : Nat} {ws : Ws} (hl : σ[l]? = some (.list (wV ws))) (hz : ws.length ≤ 100) : evF ns C f3_last_values [.ref l] σ = .ok (.ref σ.length) (σ ++ [.dict (put [] ws)]) := by
  have hlim : lim = 16777216 := rfl
  obtain ⟨ρ', σ', h, o, o', rfl, rfl⟩ := for_all (tgt := tgtP 2 3) (body := fun ρ σ => evSs ns C ρ σ [.setitem (.var 1) (.var 2) (.var 3)]) (it := fun i => .list l i)
    (fun i ρ σ' => ∃ o o' : Option V, ρ = [some (.ref l), some (.ref σ.length), o, o'] ∧ σ' = σ ++ [.dict (put [] (ws.take i))]) (wV ws).length
    (fun ρ σ' p => by obtain ⟨o, o', rfl, rfl⟩ := p; exact stop_list ((Gr.app σ _).at hl))
    (fun i ρ σ' hi p => by
      obtain ⟨o, o', rfl, rfl⟩ := p
      have hi' : i < ws.length := by rw [wV, List.length_map] at hi; exact hi
      have e := put_snoc [] (ws.take i) ws[i]
      rw [← take_at ws hi'] at e
      have hlen := put_len (ws.take (i + 1)) []
      rw [List.length_take] at hlen
      have h0 : ([] : Kv).length = 0 := rfl
      refine ⟨_, _, _, _, next_list ((Gr.app σ _).at hl) (wV_at hi'), rfl, s_set rfl rfl rfl (setD (at_new σ _) (by rw [← e]; (first | lia | omega))) ss_nil, _, _, rfl, ?_⟩
      rw [set_new, ← e])
    (wV ws).length 0 [some (.ref l), some (.ref σ.length), .none, .none] (σ ++ [.dict []]) (Nat.zero_add _) ⟨_, _, rfl, rfl⟩
  rw [wV, List.length_map, List.take_length] at h
  exact f_ret (fn := f3_last_values) (vs := [.ref l]) rfl (s_assign (v := .ref σ.length) rfl rfl (s_forP hn (src_of rfl ((Gr.app σ _).at hl)) (after_next (by rw [wV, List.length_map]; exact h) (s_ret rfl))))
theorem last_ok (hn : C.hn = true) {l : Nat} {ws : Ws} (hl : σ[l]? = some (.list (wV ws))) (hz : ws.length ≤ 100) : evF ns C f19_last [.ref l] σ = .ok (.ref σ.length) (σ ++ [.dict (put [] ws)]) := by
  have hlim : lim = 16777216 := rfl
  obtain ⟨ρ', σ', h, o, rfl, rfl⟩ := for_all (tgt := tgtN 2) (body := fun ρ σ => evSs ns C ρ σ [.setitem (.var 1) (.idx (.var 2) (.lit (V.int 0))) (.idx (.var 2) (.lit (V.int 1)))]) (it := fun i => .list l i)
    (fun i ρ σ' => ∃ o : Option V, ρ = [some (.ref l), some (.ref σ.length), o] ∧ σ' = σ ++ [.dict (put [] (ws.take i))]) (wV ws).length
    (fun ρ σ' p => by obtain ⟨o, rfl, rfl⟩ := p; exact stop_list ((Gr.app σ _).at hl))
    (fun i ρ σ' hi p => by
      obtain ⟨o, rfl, rfl⟩ := p
      have hi' : i < ws.length := by rw [wV, List.length_map] at hi; exact hi
      have e := put_snoc [] (ws.take i) ws[i]
      rw [← take_at ws hi'] at e
      have hlen := put_len (ws.take (i + 1)) []
      rw [List.length_take] at hlen
      have h0 : ([] : Kv).length = 0 := rfl
      refine ⟨_, _, _, _, next_list ((Gr.app σ _).at hl) (wV_at hi'), rfl, s_set rfl rfl rfl (setD (at_new σ _) (by rw [← e]; (first | lia | omega))) ss_nil, _, rfl, ?_⟩
      rw [set_new, ← e])
    (wV ws).length 0 [some (.ref l), some (.ref σ.length), .none] (σ ++ [.dict []]) (Nat.zero_add _) ⟨_, rfl, rfl⟩
  rw [wV, List.length_map, List.take_length] at h
  exact f_ret (fn := f19_last) (vs := [.ref l]) rfl (s_assign (v := .ref σ.length) rfl rfl (s_forN hn (src_of rfl ((Gr.app σ _).at hl)) (after_next (by rw [wV, List.length_map]; exact h) (s_ret rfl))))
/-- the place of the last write to a name -/
noncomputable def LP (ws : Ws) (n : List Nat) (i : Nat) (p : Int) : Prop := (p = -1 ∧ look .none (ws.take i) n = .none) ∨ ∃ (j : Nat) (t : Option Int), p = j ∧ ws[j]? = some (n, t) ∧ look .none (ws.take i) n = some (val t)
theorem look_take {ws : Ws} {i : Nat} (h : i < ws.length) (n : List Nat) : look .none (ws.take (i + 1)) n = if ws[i].1 = n then some (val ws[i].2) else look .none (ws.take i) n := by
  rw [take_at ws h]; unfold look; rw [List.foldl_append]; rfl
theorem place_ok (hn : C.hn = true) {l : Nat} {ws : Ws} (hl : σ[l]? = some (.list (wV ws))) (hz : ws.length ≤ 100) (n : List Nat) : ∃ p, evF ns C f2_last_place [.ref l, .str n] σ = .ok (.int p) σ ∧ LP ws n ws.length p := by
  obtain ⟨ρ', σ', h, p, o, hp, rfl, rfl⟩ := for_all (tgt := tgtN 3) (body := fun ρ σ => evSs ns C ρ σ [.ite (.cmp .eq (.idx (.idx (.var 0) (.var 3)) (.lit (V.int 0))) (.var 1)) [.assign 2 (.var 3)] []]) (it := fun i => .range i ws.length)
    (fun i ρ σ' => ∃ (p : Int) (o : Option V), LP ws n i p ∧ ρ = [some (.ref l), some (.str n), some (.int p), o] ∧ σ' = σ) ws.length (fun _ _ _ => stop_range)
    (fun i ρ σ' hi p => by
      obtain ⟨p, o, hp, rfl, rfl⟩ := p
      have hc : Ev ns C [some (.ref l), some (.str n), some (.int p), some (.int i)] (.cmp .eq (.idx (.idx (.var 0) (.var 3)) (.lit (V.int 0))) (.var 1)) σ' (.bool (decide (ws[i].1 = n))) σ' :=
        e_cmp (e_idx (e_idx rfl rfl (idxL hl (Int.natCast_nonneg i) (wV_at hi))) rfl rfl) rfl (eqS _ _)
      have lt := look_take hi n
      by_cases hq : ws[i].1 = n
      · refine ⟨_, _, _, _, next_range hi, rfl, s_ifT (hc.trans (by rw [decide_eq_true hq])) (after_next (s_assign rfl rfl ss_nil) ss_nil), i, _, .inr ⟨i, ws[i].2, rfl, ?_, ?_⟩, rfl, rfl⟩
        · rw [List.getElem?_eq_getElem hi, ← hq]
        · rw [lt, if_pos hq]
      · refine ⟨_, _, _, _, next_range hi, rfl, s_ifF (hc.trans (by rw [decide_eq_false hq])) ss_nil, p, _, ?_, rfl, rfl⟩
        unfold LP
        rw [lt, if_neg hq]
        exact hp)
    ws.length 0 [some (.ref l), some (.str n), some (.int (-1)), .none] σ (Nat.zero_add _) ⟨-1, _, .inl ⟨rfl, rfl⟩, rfl, rfl⟩
  have hs : evSrc ns C [some (.ref l), some (.str n), some (.int (-1)), .none] (.range (.bi .len (.var 0))) σ' = .ok (.range 0 ws.length, ws.length) σ' := by
    have := src_range (ns := ns) (C := C) (ρ := [some (.ref l), some (.str n), some (.int (-1)), .none]) (e := .bi .len (.var 0)) (k := (wV ws).length) (e_bi hn rfl (lenL hl)) (by (first | lia | omega)) (by rw [wV, List.length_map]; (first | lia | omega))
    rw [wV, List.length_map, Int.toNat_natCast] at this
    exact this
  exact ⟨p, f_ret (fn := f2_last_place) (vs := [.ref l, .str n]) rfl (s_assign rfl rfl (s_forN hn hs (after_next h (s_ret rfl)))), hp⟩
theorem getD1 {l : Nat} {kvs : Kv} {x : List Nat} (hl : σ[l]? = some (.dict kvs)) : meV (.ref l) .get [.str x] σ = .ok (get kvs x) σ := by
  unfold meV; dsimp only; rw [hl]; rfl
theorem kD {l : Nat} {kvs : Kv} {m : Me} (hl : σ[l]? = some (.dict kvs)) (h : meOn m = 2) : meK m (.ref l) σ = .ok .none σ := by
  unfold meK; dsimp only; rw [hl]; dsimp only; rw [if_pos h]
theorem seen_ok (h2 : ∀ {l : Nat} {ws : Ws} {σ : H}, σ[l]? = some (.list (wV ws)) → ws.length ≤ 100 → ∀ n, ∃ p, C.call 2 [.ref l, .str n] σ = .ok (.int p) σ ∧ LP ws n ws.length p)
    {d l : Nat} {kvs : Kv} {ws : Ws} (hd : σ[d]? = some (.dict kvs)) (hl : σ[l]? = some (.list (wV ws))) (hz : ws.length ≤ 100) (n : List Nat) : evF ns C f5_seen_by [.ref d, .ref l, .str n] σ = .ok (get (put kvs ws) n) σ := by
  obtain ⟨p, hp, q⟩ := h2 hl hz n
  have e := put_get n ws kvs
  rw [look_none] at e
  unfold get
  rcases q with ⟨rfl, q⟩ | ⟨j, t, rfl, q1, q2⟩
  · rw [List.take_length] at q
    rw [q] at e
    rw [e]
    exact f_ret (fn := f5_seen_by) (vs := [.ref d, .ref l, .str n]) rfl (s_assign (e_call rfl hp) rfl (s_ifF rfl (s_ret (e_me rfl (kD hd rfl) rfl (getD1 hd)))))
  · rw [List.take_length] at q2
    rw [q2] at e
    rw [e]
    have hj := (List.getElem?_eq_some_iff.mp q1).1
    refine f_ret (fn := f5_seen_by) (vs := [.ref d, .ref l, .str n]) rfl (s_assign (e_call rfl hp) rfl (s_ifT (e_cmp rfl rfl (show cmpV .ge (.int j) (.int 0) σ = .ok (.bool true) σ from ?_)) (after_end (s_ret (e_idx (e_idx rfl rfl (idxL hl (Int.natCast_nonneg j) (v := .tup [.str n, val t]) ?_)) rfl rfl)))))
    · show R.ok (V.bool (decide ((0 : Int) ≤ j))) σ = _
      rw [decide_eq_true (Int.natCast_nonneg j)]
    · rw [Int.toNat_natCast]; unfold wV; rw [List.getElem?_map, q1]; rfl
end
end Mine.L03

set_option maxRecDepth 100000
set_option linter.all false
namespace Mine.L03
open PySem Mine Mine.P

noncomputable abbrev Ps := List (List Nat × Int)
noncomputable def pV (ps : Ps) : List V := ps.map fun p => .tup [.str p.1, .int p.2]
/-- what a dict tells of one name, and of all names under a head -/
noncomputable def tells (P : Kv) (h n : List Nat) : Option (List Nat × Int) := if pre h n then (match get P n with | .int i => some (n, i) | _ => .none) else .none
noncomputable def keysOf (P : Kv) : List (List Nat) := P.map (·.1)
noncomputable def told (P : Kv) (h : List Nat) : Ps := (sort lexLe (keysOf P)).filterMap (tells P h)
/-- a dict of values -/
noncomputable def Vd (d : Kv) : Prop := ∀ n, ∃ t, get d n = val t
theorem Vd_some (n : List Nat) : ∀ (ws : Ws) (t : Option Int), ∃ t', (look (some (val t)) ws n).getD .none = val t'
  | [], t => ⟨t, rfl⟩
  | p :: ws, t => by
    show ∃ t', (look (if p.1 = n then some (val p.2) else some (val t)) ws n).getD .none = val t'
    split
    · exact Vd_some n ws p.2
    · exact Vd_some n ws t
theorem Vd.put {d : Kv} (h : Vd d) (ws : Ws) : Vd (put d ws) := fun n => by
  unfold get
  rw [put_get]
  obtain ⟨t, ht⟩ := h n
  unfold get at ht
  induction ws generalizing d t with
  | nil => exact ⟨t, ht⟩
  | cons p ws ih =>
    show ∃ t, (look (if p.1 = n then some (val p.2) else dget d n) ws n).getD .none = val t
    by_cases hp : p.1 = n
    · rw [if_pos hp]
      exact Vd_some n ws p.2
    · rw [if_neg hp]
      exact ih h t ht
theorem Vd.nil : Vd [] := fun _ => ⟨.none, rfl⟩
theorem ins_len {α : Type} (le : α → α → Bool) (x : α) : ∀ l : List α, (ins le x l).length = l.length + 1
  | [] => rfl
  | y :: r => by
    show (if le x y then x :: y :: r else y :: ins le x r).length = _
    split
    · rfl
    · exact congrArg (· + 1) (ins_len le x r)
theorem sort_len {α : Type} (le : α → α → Bool) : ∀ l : List α, (sort le l).length = l.length
  | [] => rfl
  | x :: l => (ins_len le x _).trans (congrArg (· + 1) (sort_len le l))
theorem strs_map : ∀ l : List (List Nat), strsOf (l.map V.str) = some l
  | [] => rfl
  | x :: l => by show (strsOf (l.map V.str)).map (x :: ·) = _; rw [strs_map l]; rfl
section
variable {ns : List Int} {C : Calls} {σ σ' : H}
theorem sortedL {l : Nat} {ks : List (List Nat)} (hl : σ[l]? = some (.list (ks.map V.str))) (h : ks.length < 64) : biV ns .sorted (.ref l) σ = .ok (.ref σ.length) (σ ++ [.list ((sort lexLe ks).map V.str)]) := by
  have hlim : lim = 16777216 := rfl
  have e : itemsV σ (.ref l) = some (ks.map V.str) := by unfold itemsV; dsimp only; rw [hl]
  show (pick ((itemsV σ (.ref l)).bind sortV)).bnd newL σ = _
  rw [e, Option.bind_some]
  unfold sortV
  rw [if_pos (by rw [List.length_map]; exact h), strs_map]
  exact newL_ok (by rw [List.length_map, sort_len]; (first | lia | omega))
theorem sortedD {l : Nat} {P : Kv} (hl : σ[l]? = some (.dict P)) (h : P.length < 64) : biV ns .sorted (.ref l) σ = .ok (.ref σ.length) (σ ++ [.list ((sort lexLe (keysOf P)).map V.str)]) := by
  have hlim : lim = 16777216 := rfl
  have e : itemsV σ (.ref l) = some ((keysOf P).map V.str) := by unfold itemsV; dsimp only; rw [hl, keysOf, List.map_map]; rfl
  show (pick ((itemsV σ (.ref l)).bind sortV)).bnd newL σ = _
  rw [e, Option.bind_some]
  unfold sortV
  rw [if_pos (by rw [List.length_map, keysOf, List.length_map]; exact h), strs_map]
  exact newL_ok (by rw [List.length_map, sort_len, keysOf, List.length_map]; (first | lia | omega))
theorem listD {l : Nat} {P : Kv} (hl : σ[l]? = some (.dict P)) (h : P.length < 64) : biV ns .list (.ref l) σ = .ok (.ref σ.length) (σ ++ [.list ((keysOf P).map V.str)]) := by
  have hlim : lim = 16777216 := rfl
  have e : itemsV σ (.ref l) = some ((keysOf P).map V.str) := by unfold itemsV; dsimp only; rw [hl, keysOf, List.map_map]; rfl
  show (pick (itemsV σ (.ref l))).bnd newL σ = _
  rw [e]
  exact newL_ok (by rw [List.length_map, keysOf, List.length_map]; (first | lia | omega))
theorem dictD {l : Nat} {P : Kv} (hl : σ[l]? = some (.dict P)) (h : P.length ≤ lim) : biV ns .dict (.ref l) σ = .ok (.ref σ.length) (σ ++ [.dict P]) := by
  show onD l newD σ = _
  rw [onD_ok hl]
  unfold newD
  rw [if_pos h]; rfl
theorem kL {l : Nat} {xs : List V} {m : Me} (hl : σ[l]? = some (.list xs)) (h : meOn m = 1) : meK m (.ref l) σ = .ok .none σ := by
  unfold meK; dsimp only; rw [hl]; dsimp only; rw [if_pos h]
theorem appL {l : Nat} {xs : List V} {v : V} (hl : σ[l]? = some (.list xs)) (h : xs.length + 1 ≤ lim) : meV (.ref l) .append [v] σ = .ok .none (σ.set l (.list (xs ++ [v]))) := by
  unfold meV; dsimp only; rw [hl]
  show putL l (xs ++ [v]) σ = _
  unfold putL
  rw [if_pos (by rw [List.length_append]; exact h)]
theorem set_mid (a t : H) (o o' : O) : (a ++ [o] ++ t).set a.length o' = a ++ [o'] ++ t := by
  rw [List.set_append_left _ _ (by rw [List.length_append]; exact Nat.lt_succ_self _), set_new]
theorem at_mid (a t : H) (o : O) : (a ++ [o] ++ t)[a.length]? = some o := (Gr.app _ t).at (at_new a o)
theorem take_filterMap {α β : Type} (f : α → Option β) (l : List α) {i : Nat} (h : i < l.length) : (l.take (i + 1)).filterMap f = (l.take i).filterMap f ++ (f l[i]).toList := by
  rw [take_at l h, List.filterMap_append, List.filterMap_cons]
  cases f l[i] <;> rfl
theorem at_mid2 (a : H) (o p q : O) : (a ++ [o] ++ [p, q])[a.length + 2]? = some q := by
  rw [List.getElem?_append_right (by rw [List.length_append]; exact Nat.le_succ _), List.length_append, show a.length + 2 - (a.length + [o].length) = 1 by show _ + 2 - (_ + 1) = 1; (first | lia | omega)]; rfl
theorem two_more (a : H) (o p q : O) : (R.ok (V.ref (a ++ [o] ++ [p]).length) (a ++ [o] ++ [p] ++ [q]) : R V) = R.ok (V.ref (a.length + 2)) (a ++ [o] ++ [p, q]) := by
  rw [List.append_assoc (a ++ [o]), List.length_append, List.length_append]; rfl
theorem two_lim : 2 ≤ lim := by decide
theorem strV_at {ks : List (List Nat)} {i : Nat} (h : i < ks.length) : (ks.map V.str)[i]? = some (.str ks[i]) := by rw [List.getElem?_map, List.getElem?_eq_getElem h]; rfl
theorem pairs_of_ok (hn : C.hn = true) (h1 : ∀ x y σ, C.call 1 [.str x, .str y] σ = .ok (.bool (pre y x)) σ)
    (h5 : ∀ {d l : Nat} {kvs : Kv} {ws : Ws} {σ : H}, σ[d]? = some (.dict kvs) → σ[l]? = some (.list (wV ws)) → ws.length ≤ 100 → ∀ n, C.call 5 [.ref d, .ref l, .str n] σ = .ok (get (put kvs ws) n) σ)
    {d l : Nat} {kvs : Kv} {ws : Ws} (hd : σ[d]? = some (.dict kvs)) (hl : σ[l]? = some (.list (wV ws))) (hz : kvs.length + ws.length < 64) (hv : Vd kvs) (h : List Nat) :
    ∃ l' σ', evF ns C f6_pairs_of [.ref d, .ref l, .str h] σ = .ok (.ref l') σ' ∧ Gr σ σ' ∧ σ'[l']? = some (.list (pV (told (put kvs ws) h))) := by
  have hlim : lim = 16777216 := rfl
  have hP : (put kvs ws).length < 64 := Nat.lt_of_le_of_lt (put_len ws kvs) hz
  obtain ⟨ρ', σ1, L1, o, o', rfl, rfl⟩ := for_all (tgt := tgtP 4 5) (body := fun ρ σ => evSs ns C ρ σ [.setitem (.var 3) (.var 4) (.var 5)]) (it := fun i => .list l i)
    (fun i ρ σ' => ∃ o o' : Option V, ρ = [some (.ref d), some (.ref l), some (.str h), some (.ref σ.length), o, o', .none] ∧ σ' = σ ++ [.dict (put kvs (ws.take i))]) (wV ws).length
    (fun ρ σ' p => by obtain ⟨o, o', rfl, rfl⟩ := p; exact stop_list ((Gr.app σ _).at hl))
    (fun i ρ σ' hi p => by
      obtain ⟨o, o', rfl, rfl⟩ := p
      have hi' : i < ws.length := by rw [wV, List.length_map] at hi; exact hi
      have e := put_snoc kvs (ws.take i) ws[i]
      rw [← take_at ws hi'] at e
      have hlen := put_len (ws.take (i + 1)) kvs
      rw [List.length_take] at hlen
      refine ⟨_, _, _, _, next_list ((Gr.app σ _).at hl) (wV_at hi'), rfl, s_set rfl rfl rfl (setD (at_new σ _) (by rw [← e]; (first | lia | omega))) ss_nil, _, _, rfl, ?_⟩
      rw [set_new, ← e])
    (wV ws).length 0 [some (.ref d), some (.ref l), some (.str h), some (.ref σ.length), .none, .none, .none] (σ ++ [.dict kvs]) (Nat.zero_add _) ⟨_, _, rfl, rfl⟩
  have eT : ws.take (wV ws).length = ws := by rw [wV, List.length_map, List.take_length]
  rw [eT] at L1
  let P := put kvs ws
  let σ1 := σ ++ [.dict P]
  let ks := sort lexLe (keysOf P)
  let τ : H := [.list ((keysOf P).map V.str), .list (ks.map V.str)]
  have hS : ∀ acc, (σ1 ++ [.list acc] ++ τ)[σ1.length + 2]? = some (.list (ks.map V.str)) := fun acc => at_mid2 _ _ _ _
  have G : ∀ acc, Gr σ (σ1 ++ [.list acc] ++ τ) := fun acc => ((Gr.app σ _).tr (Gr.app σ1 _)).tr (Gr.app _ _)
  obtain ⟨ρ', σ', L2, o1, o2, rfl, rfl⟩ := for_all (tgt := tgtN 4) (body := fun ρ σ => evSs ns C ρ σ [.assign 5 (.call 5 [(.var 0), (.var 1), (.var 4)]), .ite (.and [(.call 1 [(.var 4), (.var 2)]), (.cmp .isnt (.var 5) (.lit V.none))]) [.expr (.me (.var 6) .append [(.tup [(.var 4), (.var 5)])])] []]) (it := fun i => .list (σ1.length + 2) i)
    (fun i ρ σ' => ∃ o o' : Option V, ρ = [some (.ref d), some (.ref l), some (.str h), some (.ref σ.length), o, o', some (.ref σ1.length)] ∧ σ' = σ1 ++ [.list (pV ((ks.take i).filterMap (tells P h)))] ++ τ) (ks.map V.str).length
    (fun ρ σ' p => by obtain ⟨o, o', rfl, rfl⟩ := p; exact stop_list (hS _))
    (fun i ρ σ' hi p => by
      obtain ⟨o, o', rfl, rfl⟩ := p
      have hi' : i < ks.length := by rw [List.length_map] at hi; exact hi
      have hks : ks.length < 64 := by show (sort lexLe (keysOf P)).length < 64; rw [sort_len, keysOf, List.length_map]; exact hP
      have ft := take_filterMap (tells P h) ks hi'
      have s5 := h5 ((G (pV ((ks.take i).filterMap (tells P h)))).at hd) ((G _).at hl) (by (first | lia | omega)) ks[i]
      obtain ⟨t, ht⟩ := (hv.put ws) ks[i]
      rw [ht] at s5
      by_cases hp : pre h ks[i] = true
      · have c1 := (h1 ks[i] h (σ1 ++ [.list (pV ((ks.take i).filterMap (tells P h)))] ++ τ)).trans (by rw [hp])
        cases t with
        | none =>
          have hf : tells P h ks[i] = .none := by unfold tells; rw [if_pos hp, show get P ks[i] = .none from ht]
          rw [hf] at ft
          refine ⟨_, _, _, _, next_list (hS _) (strV_at hi'), rfl, s_assign (e_call rfl s5) rfl (s_ifF (andT (e_call rfl c1) (and1 rfl)) ss_nil), _, _, rfl, ?_⟩
          rw [ft, Option.toList_none, List.append_nil]
        | some j =>
          have hf : tells P h ks[i] = some (ks[i], j) := by unfold tells; rw [if_pos hp, show get P ks[i] = .int j from ht]
          rw [hf] at ft
          have hacc : (pV ((ks.take i).filterMap (tells P h))).length ≤ 64 := by
            unfold pV
            rw [List.length_map]
            refine Nat.le_trans (List.length_filterMap_le _ _) ?_
            rw [List.length_take]; (first | lia | omega)
          refine ⟨_, _, _, _, next_list (hS _) (strV_at hi'), rfl, s_assign (e_call rfl s5) rfl (s_ifT (andT (e_call rfl c1) (and1 rfl)) (after_next (s_expr (e_me rfl (kL (at_mid σ1 τ _) rfl) (es_one (e_tup rfl two_lim)) (appL (at_mid σ1 τ _) (by (first | lia | omega)))) ss_nil) ss_nil)), _, _, rfl, ?_⟩
          rw [set_mid, ft]
          unfold pV
          rw [List.map_append]; rfl
      · have hp' : pre h ks[i] = false := Bool.eq_false_iff.mpr hp
        have c1 := (h1 ks[i] h (σ1 ++ [.list (pV ((ks.take i).filterMap (tells P h)))] ++ τ)).trans (by rw [hp'])
        have hf : tells P h ks[i] = .none := by unfold tells; rw [hp']; rfl
        rw [hf] at ft
        refine ⟨_, _, _, _, next_list (hS _) (strV_at hi'), rfl, s_assign (e_call rfl s5) rfl (s_ifF (andF (e_call rfl c1)) ss_nil), _, _, rfl, ?_⟩
        rw [ft, Option.toList_none, List.append_nil])
    (ks.map V.str).length 0 [some (.ref d), some (.ref l), some (.str h), some (.ref σ.length), o, o', some (.ref σ1.length)] (σ1 ++ [.list []] ++ τ) (Nat.zero_add _) ⟨_, _, rfl, rfl⟩
  have eK : ks.take (ks.map V.str).length = ks := by rw [List.length_map, List.take_length]
  rw [eK] at L2
  refine ⟨σ1.length, _, f_ret (fn := f6_pairs_of) (vs := [.ref d, .ref l, .str h]) rfl (s_assign (e_bi hn rfl (dictD hd (by (first | lia | omega)))) rfl (s_forP hn (src_of rfl ((Gr.app σ _).at hl)) (after_next L1 (s_assign (v := .ref σ1.length) (σ₁ := σ1 ++ [O.list []]) (e_list es_nil (Nat.zero_le _)) rfl
    (s_forN hn (src_of (l := σ1.length + 2) (xs := ks.map V.str) (σ₁ := σ1 ++ [O.list []] ++ τ) ?_ (hS _)) (after_next L2 (s_ret rfl))))))), G _, at_mid σ1 τ _⟩
  have e1 := listD (ns := ns) (σ := σ1 ++ [.list []]) ((Gr.app σ1 _).at (at_new σ (.dict P))) hP
  have e2 := sortedL (ns := ns) (σ := σ1 ++ [.list []] ++ [.list ((keysOf P).map V.str)]) (at_new _ _) (by rw [keysOf, List.length_map]; exact hP)
  exact (e_bi hn (e_bi hn rfl e1) e2).trans (two_more σ1 _ _ _)
end
end Mine.L03

set_option maxRecDepth 100000
set_option linter.all false
namespace Mine.L03
open PySem Mine Mine.P

noncomputable def Kb (d : Kv) : Prop := ∀ n ∈ keysOf d, n.length ≤ 32
theorem mem_ins {α : Type} (le : α → α → Bool) (x y : α) : ∀ l : List α, y ∈ ins le x l → y = x ∨ y ∈ l
  | [], h => .inl (List.mem_singleton.mp h)
  | z :: r, h => by
    have h : y ∈ if le x z then x :: z :: r else z :: ins le x r := h
    split at h
    · exact (List.mem_cons.mp h)
    · exact (List.mem_cons.mp h).elim (fun e => .inr (e ▸ List.mem_cons_self)) fun q => (mem_ins le x y r q).imp id (List.mem_cons_of_mem _)
theorem mem_sort {α : Type} (le : α → α → Bool) (y : α) : ∀ l : List α, y ∈ sort le l → y ∈ l
  | [], h => h
  | x :: l, h => (mem_ins le x y _ h).elim (fun e => e ▸ List.mem_cons_self) fun q => List.mem_cons_of_mem _ (mem_sort le y l q)
theorem key_get : ∀ {d : Kv} {n : List Nat}, n ∈ keysOf d → dget d n = some (get d n)
  | (a, x) :: r, n, h => by
    unfold get
    show (if a = n then some x else dget r n) = some ((if a = n then some x else dget r n).getD .none)
    by_cases e : a = n
    · rw [if_pos e]; rfl
    · rw [if_neg e]
      exact key_get ((List.mem_cons.mp h).elim (fun q => absurd q.symm e) id)
theorem dput_keys (k : List Nat) (v : V) : ∀ (d : Kv) (n : List Nat), n ∈ keysOf (dput d k v) → n = k ∨ n ∈ keysOf d
  | [], n, h => .inl (List.mem_singleton.mp h)
  | (a, x) :: r, n, h => by
    have h : n ∈ keysOf (if a = k then (a, v) :: r else (a, x) :: dput r k v) := h
    split at h
    · exact .inr h
    · exact (List.mem_cons.mp h).elim (fun e => .inr (e ▸ List.mem_cons_self)) fun q => (dput_keys k v r n q).imp id (List.mem_cons_of_mem _)
noncomputable def Wb (ws : Ws) : Prop := ∀ p ∈ ws, p.1.length ≤ 32
theorem Kb.put : ∀ {ws : Ws} {d : Kv}, Kb d → Wb ws → Kb (put d ws)
  | [], d, h, _ => h
  | p :: ws, d, h, w => Kb.put (ws := ws) (d := dput d p.1 (val p.2)) (fun n hn => (dput_keys _ _ d n hn).elim (fun e => e ▸ w p List.mem_cons_self) (h n)) fun q hq => w q (List.mem_cons_of_mem _ hq)
theorem Kb.nil : Kb [] := fun _ h => nomatch h
theorem pre_take : ∀ (h n : List Nat), decide (n.take h.length = h) = pre h n
  | [], n => by rw [List.length_nil, List.take_zero]; rfl
  | a :: h, [] => rfl
  | a :: h, b :: n => by
    show decide (b :: n.take h.length = a :: h) = (a == b && pre h n)
    rw [← pre_take h n]
    by_cases e : a = b
    · subst e
      rw [beq_self_eq_true, Bool.true_and]
      exact decide_eq_decide.mpr ⟨fun q => by injection q, fun q => by rw [q]⟩
    · rw [beq_eq_false_iff_ne.mpr e, Bool.false_and]
      exact decide_eq_false fun q => e (by injection q with q _; exact q.symm)
theorem cut_pre (h n : List Nat) : decide (cut n .none (some h.length) = h) = pre h n := by
  rw [← pre_take]
  have : cut n .none (some h.length) = n.take h.length := by
    show (n.drop 0).take (clampN h.length n.length - 0) = _
    unfold clampN
    rw [if_pos (Int.natCast_nonneg _), Int.toNat_natCast, List.drop_zero, Nat.sub_zero, List.take_eq_take_iff]
    (first | lia | omega)
  rw [this]
noncomputable def asP (P : Kv) (n : List Nat) : Option (List Nat × Int) := match get P n with | .int i => some (n, i) | _ => .none
theorem told_eq (P : Kv) (h : List Nat) : ((sort lexLe (keysOf P)).filter (pre h)).filterMap (asP P) = told P h := by
  rw [List.filterMap_filter]; rfl
section
variable {ns : List Int} {C : Calls} {σ σ' : H}
theorem updD {l j : Nat} {kvs qs : Kv} (hl : σ[l]? = some (.dict kvs)) (hj : σ[j]? = some (.dict qs)) (hne : j ≠ l) (h : kvs.length + qs.length ≤ lim) (h' : (dputs kvs qs).length ≤ lim) : meV (.ref l) .update [.ref j] σ = .ok .none (σ.set l (.dict (dputs kvs qs))) := by
  unfold meV; dsimp only; rw [hl]
  show (if j = l then stuck else onD j fun qs => if kvs.length + qs.length ≤ lim then putD l (dputs kvs qs) else stuck : M V) σ = _
  rw [if_neg hne, onD_ok hj, if_pos h]
  unfold putD
  rw [if_pos h']
theorem dputs_len : ∀ (qs d : Kv), (dputs d qs).length ≤ d.length + qs.length
  | [], d => Nat.le_refl _
  | p :: qs, d => by
    have := dputs_len qs (dput d p.1 p.2)
    have := dput_len p.1 p.2 d
    show (dputs (dput d p.1 p.2) qs).length ≤ d.length + (qs.length + 1)
    (first | lia | omega)
theorem told_under_ok (hn : C.hn = true) {d j : Nat} {kvs qs : Kv} (hd : σ[d]? = some (.dict kvs)) (hj : σ[j]? = some (.dict qs)) (hz : kvs.length + qs.length < 64) (hv : Vd (dputs kvs qs)) (hk : Kb (dputs kvs qs)) (h : List Nat) :
    ∃ l' σ', evF ns C f20_told_under [.ref d, .ref j, .str h] σ = .ok (.ref l') σ' ∧ Gr σ σ' ∧ σ'[l']? = some (.list (pV (told (dputs kvs qs) h))) ∧ σ.length ≤ l' := by
  have hlim : lim = 16777216 := rfl
  have hP : (dputs kvs qs).length < 64 := Nat.lt_of_le_of_lt (dputs_len qs kvs) hz
  have hjl : j < σ.length := (List.getElem?_eq_some_iff.mp hj).1
  generalize hPe : dputs kvs qs = P at *
  have A : evSs ns C [some (.ref d), some (.ref j), some (.str h), .none, .none] σ (.assign 3 (.bi .dict (.var 0)) :: .expr (.me (.var 3) .update [(.var 1)]) :: f20_told_under.body.drop 2) = evSs ns C [some (.ref d), some (.ref j), some (.str h), some (.ref σ.length), .none] (σ ++ [.dict P]) (f20_told_under.body.drop 2) :=
    s_assign (e_bi hn rfl (dictD hd (by (first | lia | omega)))) rfl (s_expr (e_me rfl (kD (at_new σ _) rfl) rfl ((updD (at_new σ _) ((Gr.app σ _).at hj) (Nat.ne_of_lt hjl) (by (first | lia | omega)) (by rw [hPe]; (first | lia | omega))).trans (by rw [set_new, hPe]))) rfl)
  let σ1 := σ ++ [.dict P]
  let ks := sort lexLe (keysOf P)
  let σ2 := σ1 ++ [.list (ks.map V.str)]
  have hks : ks.length < 64 := by show (sort lexLe (keysOf P)).length < 64; rw [sort_len, keysOf, List.length_map]; exact hP
  have hmem : ∀ n ∈ ks, n ∈ keysOf P := fun n hn => mem_sort lexLe n _ hn
  obtain ⟨acc, σ', hg, rfl, rfl⟩ := gather_all (f := fIf ns C [some (.ref d), some (.ref j), some (.str h), some (.ref σ.length), .none] (.var 5) (.cmp .eq (.slice (.var 5) .nil (.bi .len (.var 2))) (.var 2))) (it := fun i => .list σ1.length i)
    (fun i acc σ' => acc = ((ks.take i).filter (pre h)).map V.str ∧ σ' = σ2) (ks.map V.str).length (fun acc σ' p => by obtain ⟨_, rfl⟩ := p; exact stop_list (at_new σ1 _))
    (fun i acc σ' hi p => by
      obtain ⟨rfl, rfl⟩ := p
      have hi' : i < ks.length := by rw [List.length_map] at hi; exact hi
      have hl := hk _ (hmem _ (List.getElem_mem hi'))
      refine ⟨_, next_list (at_new σ1 _) (strV_at hi'), ?_⟩
      have hc : Ev ns C ([some (.ref d), some (.ref j), some (.str h), some (.ref σ.length), .none] ++ [some (.str ks[i])]) (.cmp .eq (.slice (.var 5) .nil (.bi .len (.var 2))) (.var 2)) σ2 (.bool (pre h ks[i])) σ2 :=
        (e_cmp (e_slice rfl rfl (e_bi hn rfl rfl) (slS (lo := .none) (hi := some h.length) rfl rfl (by (first | lia | omega)))) rfl (eqS _ _)).trans (by rw [cut_pre])
      have hlen : (((ks.take i).filter (pre h)).map V.str).length ≤ 64 := by
        rw [List.length_map]
        exact Nat.le_trans (List.length_filter_le _ _) (by rw [List.length_take]; (first | lia | omega))
      cases hp : pre h ks[i] with
      | true =>
        rw [hp] at hc
        refine .inl ⟨_, _, fIf_t hc rfl, by (first | lia | omega), ?_, rfl⟩
        rw [take_at ks hi', List.filter_append, List.map_append, List.filter_cons, if_pos hp]; rfl
      | false =>
        rw [hp] at hc
        refine .inr ⟨_, fIf_f hc, ?_, rfl⟩
        rw [take_at ks hi', List.filter_append, List.filter_cons, if_neg (by rw [hp]; exact Bool.false_ne_true), List.filter_nil, List.append_nil])
    (ks.map V.str).length 0 [] σ2 (Nat.zero_add _) ⟨rfl, rfl⟩
  have eK : ks.take (ks.map V.str).length = ks := by rw [List.length_map, List.take_length]
  rw [eK] at hg
  let lo := ks.filter (pre h)
  let σ3 := σ2 ++ [.list (lo.map V.str)]
  have hD : σ3[σ.length]? = some (.dict P) := (Gr.app σ2 _).at ((Gr.app σ1 _).at (at_new σ _))
  obtain ⟨acc, σ', hg2, rfl, rfl⟩ := gather_all (f := fIf ns C [some (.ref d), some (.ref j), some (.str h), some (.ref σ.length), some (.ref σ2.length)] (.tup [(.var 5), (.idx (.var 3) (.var 5))]) (.cmp .isnt (.idx (.var 3) (.var 5)) (.lit V.none))) (it := fun i => .list σ2.length i)
    (fun i acc σ' => acc = pV ((lo.take i).filterMap (asP P)) ∧ σ' = σ3) (lo.map V.str).length (fun acc σ' p => by obtain ⟨_, rfl⟩ := p; exact stop_list (at_new σ2 _))
    (fun i acc σ' hi p => by
      obtain ⟨rfl, rfl⟩ := p
      have hi' : i < lo.length := by rw [List.length_map] at hi; exact hi
      have hlo : lo.length ≤ ks.length := List.length_filter_le _ _
      have hm : lo[i] ∈ keysOf P := hmem _ (List.mem_filter.mp (List.getElem_mem hi')).1
      have hget := key_get hm
      obtain ⟨t, ht⟩ := hv lo[i]
      rw [ht] at hget
      have ft := take_filterMap (asP P) lo hi'
      refine ⟨_, next_list (at_new σ2 _) (strV_at hi'), ?_⟩
      have hx : Ev ns C ([some (.ref d), some (.ref j), some (.str h), some (.ref σ.length), some (.ref σ2.length)] ++ [some (.str lo[i])]) (.idx (.var 3) (.var 5)) σ3 (val t) σ3 := e_idx rfl rfl (idxD hD hget)
      have hlen : (pV ((lo.take i).filterMap (asP P))).length ≤ 64 := by
        unfold pV
        rw [List.length_map]
        exact Nat.le_trans (List.length_filterMap_le _ _) (by rw [List.length_take]; (first | lia | omega))
      cases t with
      | none =>
        have hf : asP P lo[i] = .none := by unfold asP; rw [ht]; rfl
        refine .inr ⟨_, fIf_f (e_cmp hx rfl rfl), ?_, rfl⟩
        rw [ft, hf, Option.toList_none, List.append_nil]
      | some v =>
        have hf : asP P lo[i] = some (lo[i], v) := by unfold asP; rw [ht]; rfl
        refine .inl ⟨_, _, fIf_t (e_cmp hx rfl rfl) (e_tup (es_two rfl hx) two_lim), by (first | lia | omega), ?_, rfl⟩
        rw [ft, hf]
        unfold pV
        rw [List.map_append]; rfl)
    (lo.map V.str).length 0 [] σ3 (Nat.zero_add _) ⟨rfl, rfl⟩
  have eL : lo.take (lo.map V.str).length = lo := by rw [List.length_map, List.take_length]
  rw [eL] at hg2
  have B : evSs ns C [some (.ref d), some (.ref j), some (.str h), some (.ref σ.length), .none] σ1 (f20_told_under.body.drop 2) = .ok (.ret (.ref σ3.length)) [some (.ref d), some (.ref j), some (.str h), some (.ref σ.length), some (.ref σ2.length)] (σ3 ++ [.list (pV (lo.filterMap (asP P)))]) :=
    s_assign (e_compIf hn (src_of (e_bi hn rfl (sortedD (at_new σ _) hP)) (at_new σ1 _)) hg) rfl (s_ret (e_compIf hn (src_of rfl (at_new σ2 _)) hg2))
  refine ⟨σ3.length, _, f_ret (fn := f20_told_under) (vs := [.ref d, .ref j, .str h]) rfl (A.trans B), (((Gr.app σ _).tr (Gr.app σ1 _)).tr (Gr.app σ2 _)).tr (Gr.app σ3 _), ?_, (((Gr.app σ _).tr (Gr.app σ1 _)).tr (Gr.app σ2 _)).length_le⟩
  rw [← told_eq]
  exact at_new σ3 _
end
end Mine.L03

set_option maxRecDepth 100000
set_option linter.all false
namespace Mine.L03
open PySem Mine Mine.P

theorem dput_mem (k : List Nat) (v : V) : ∀ (d : Kv), k ∈ keysOf (dput d k v)
  | [] => List.mem_singleton.mpr rfl
  | (a, x) :: r => by
    show k ∈ keysOf (if a = k then (a, v) :: r else (a, x) :: dput r k v)
    split
    · rename_i h; rw [h]; exact List.mem_cons_self
    · exact List.mem_cons_of_mem _ (dput_mem k v r)
theorem dput_sup (k : List Nat) (v : V) {n : List Nat} : ∀ (d : Kv), n ∈ keysOf d → n ∈ keysOf (dput d k v)
  | (a, x) :: r, h => by
    show n ∈ keysOf (if a = k then (a, v) :: r else (a, x) :: dput r k v)
    split
    · exact h
    · exact (List.mem_cons.mp h).elim (fun e => e ▸ List.mem_cons_self) fun q => List.mem_cons_of_mem _ (dput_sup k v r q)
theorem dput_idem (n : List Nat) (x t : V) : ∀ (d : Kv), dput (dput d n x) n t = dput d n t
  | [] => by show (if n = n then [(n, t)] else _) = _; rw [if_pos rfl]; rfl
  | (a, y) :: r => by
    show dput (if a = n then (a, x) :: r else (a, y) :: dput r n x) n t = if a = n then (a, t) :: r else (a, y) :: dput r n t
    split
    · rename_i h
      show (if a = n then (a, t) :: r else _) = _
      rw [if_pos h]
    · rename_i h
      show (if a = n then _ else (a, y) :: dput (dput r n x) n t) = _
      rw [if_neg h, dput_idem n x t r]
theorem dput_comm {n m : List Nat} (hne : n ≠ m) (t y : V) : ∀ (d : Kv), n ∈ keysOf d → dput (dput d m y) n t = dput (dput d n t) m y
  | (a, x) :: r, h => by
    show dput (if a = m then (a, y) :: r else (a, x) :: dput r m y) n t = dput (if a = n then (a, t) :: r else (a, x) :: dput r n t) m y
    by_cases h1 : a = m
    · have h2 : ¬ a = n := fun q => hne (q.symm.trans h1)
      rw [if_pos h1, if_neg h2]
      show (if a = n then _ else (a, y) :: dput r n t) = if a = m then (a, y) :: dput r n t else _
      rw [if_neg h2, if_pos h1]
    · by_cases h2 : a = n
      · rw [if_neg h1, if_pos h2]
        show (if a = n then (a, t) :: dput r m y else _) = if a = m then _ else (a, t) :: dput r m y
        rw [if_pos h2, if_neg h1]
      · rw [if_neg h1, if_neg h2]
        show (if a = n then _ else (a, x) :: dput (dput r m y) n t) = if a = m then _ else (a, x) :: dput (dput r n t) m y
        rw [if_neg h2, if_neg h1, dput_comm hne t y r ((List.mem_cons.mp h).elim (fun q => absurd q.symm h2) id)]
theorem dputs_dput {n : List Nat} (t : V) : ∀ (r L : Kv), n ∈ keysOf L → n ∉ keysOf r → dput (dputs L r) n t = dputs (dput L n t) r
  | [], _, _, _ => rfl
  | (m, y) :: r, L, h, h' => by
    have hne : n ≠ m := fun e => h' (e ▸ List.mem_cons_self)
    show dput (dputs (dput L m y) r) n t = dputs (dput (dput L n t) m y) r
    rw [dputs_dput t r (dput L m y) (dput_sup m y L h) fun q => h' (List.mem_cons_of_mem _ q), dput_comm hne t y L h]
theorem dput_nodup (k : List Nat) (v : V) : ∀ (d : Kv), (keysOf d).Nodup → (keysOf (dput d k v)).Nodup
  | [], _ => List.pairwise_singleton _ _
  | (a, x) :: r, h => by
    show (keysOf (if a = k then (a, v) :: r else (a, x) :: dput r k v)).Nodup
    obtain ⟨h1, h2⟩ := List.nodup_cons.mp h
    split
    · exact h
    · rename_i hk
      exact List.nodup_cons.mpr ⟨fun q => (dput_keys k v r a q).elim hk h1, dput_nodup k v r h2⟩
theorem put_nodup : ∀ (ws : Ws) (d : Kv), (keysOf d).Nodup → (keysOf (put d ws)).Nodup
  | [], _, h => h
  | p :: ws, d, h => put_nodup ws (dput d p.1 (val p.2)) (dput_nodup _ _ d h)
theorem dputs_put1 (n : List Nat) (t : V) : ∀ (d L : Kv), (keysOf d).Nodup → dputs L (dput d n t) = dput (dputs L d) n t
  | [], _, _ => rfl
  | (a, x) :: r, L, h => by
    obtain ⟨h1, h2⟩ := List.nodup_cons.mp h
    show dputs L (if a = n then (a, t) :: r else (a, x) :: dput r n t) = dput (dputs (dput L a x) r) n t
    by_cases e : a = n
    · rw [if_pos e]
      subst e
      rw [dputs_dput t r (dput L a x) (dput_mem a x L) h1, dput_idem]; rfl
    · rw [if_neg e]
      exact dputs_put1 n t r (dput L a x) h2
theorem dputs_put (L : Kv) (ws : Ws) : dputs L (put [] ws) = put L ws := by
  have : ∀ i, i ≤ ws.length → dputs L (put [] (ws.take i)) = put L (ws.take i) := by
    intro i
    induction i with
    | zero => intro _; rfl
    | succ i ih =>
      intro hi
      rw [take_at ws hi, put_snoc, put_snoc, dputs_put1 _ _ _ _ (put_nodup _ [] List.nodup_nil), ih (Nat.le_of_lt hi)]
  have h := this ws.length (Nat.le_refl _)
  rw [List.take_length] at h
  exact h

section
variable {ns : List Int} {C : Calls} {σ σ' : H}
/-- a loop that may end early: `D` is what is known then -/
theorem for_or {tgt : V → Env → Option Env} {body : Env → H → RS} {it : Nat → It} (P : Nat → Env → H → Prop) (D : RS → Prop) (N : Nat) (stop : ∀ ρ σ, P N ρ σ → nextIt (it N) σ = some .none)
    (step : ∀ i ρ σ, i < N → P i ρ σ → ∃ v ρ₁, nextIt (it i) σ = some (some (v, it (i + 1))) ∧ tgt v ρ = some ρ₁ ∧ ((∃ ρ₂ σ₂, body ρ₁ σ = .ok .next ρ₂ σ₂ ∧ P (i + 1) ρ₂ σ₂) ∨ (∃ w ρ₂ σ₂, body ρ₁ σ = .ok (.ret w) ρ₂ σ₂ ∧ D (.ok (.ret w) ρ₂ σ₂)) ∨ ∃ k ρ₂ σ₂, body ρ₁ σ = .exc k ρ₂ σ₂ ∧ D (.exc k ρ₂ σ₂))) :
    ∀ (m i : Nat) (ρ : Env) (σ : H), i + m = N → P i ρ σ → (∃ ρ' σ', forLoop tgt body m (it i) ρ σ = .ok .next ρ' σ' ∧ P N ρ' σ') ∨ D (forLoop tgt body m (it i) ρ σ)
  | 0, i, ρ, σ, e, p => by
    obtain rfl : i = N := e
    exact .inl ⟨ρ, σ, for_stop (stop ρ σ p), p⟩
  | m + 1, i, ρ, σ, e, p => by
    obtain ⟨v, ρ₁, h1, h2, h3⟩ := step i ρ σ (by (first | lia | omega)) p
    rcases h3 with ⟨ρ₂, σ₂, h3, h4⟩ | ⟨w, ρ₂, σ₂, h3, h4⟩ | ⟨k, ρ₂, σ₂, h3, h4⟩
    · rw [for_step h1 h2 h3 rfl]
      exact for_or P D N stop step m (i + 1) ρ₂ σ₂ (by (first | lia | omega)) h4
    · rw [for_ret h1 h2 h3]; exact .inr h4
    · rw [for_exc h1 h2 h3]; exact .inr h4
theorem neI (i j : Int) : cmpV .ne (.int i) (.int j) σ = .ok (.bool (!decide (i = j))) σ := by
  show R.ok (V.bool (decide ((At.int i) = (At.int j)) != true)) σ = _
  have : decide ((At.int i) = (At.int j)) = decide (i = j) := decide_eq_decide.mpr ⟨fun q => by injection q, fun q => by rw [q]⟩
  rw [this]; cases decide (i = j) <;> rfl
theorem neS (x y : List Nat) : cmpV .ne (.str x) (.str y) σ = .ok (.bool (!decide (x = y))) σ := by
  show R.ok (V.bool (decide ((At.str x) = (At.str y)) != true)) σ = _
  have : decide ((At.str x) = (At.str y)) = decide (x = y) := decide_eq_decide.mpr ⟨fun q => by injection q, fun q => by rw [q]⟩
  rw [this]; cases decide (x = y) <;> rfl
theorem next_zip {l m i : Nat} {xs ys : List V} {v w : V} (hl : σ[l]? = some (.list xs)) (hm : σ[m]? = some (.list ys)) (h : xs[i]? = some v) (h' : ys[i]? = some w) : nextIt (.zip l m i) σ = some (some (.tup [v, w], .zip l m (i + 1))) := by
  unfold nextIt; dsimp only; rw [listAt_of hl, listAt_of hm, Option.bind_some, Option.map_some, h, h']; rfl
theorem stop_zip {l m : Nat} {xs ys : List V} (hl : σ[l]? = some (.list xs)) (hm : σ[m]? = some (.list ys)) : nextIt (.zip l m xs.length) σ = some .none := by
  unfold nextIt; dsimp only; rw [listAt_of hl, listAt_of hm, Option.bind_some, Option.map_some, List.getElem?_eq_none (Nat.le_refl _)]; rfl
theorem pV_at {ps : Ps} {i : Nat} (h : i < ps.length) : (pV ps)[i]? = some (.tup [.str ps[i].1, .int ps[i].2]) := by
  unfold pV; rw [List.getElem?_map, List.getElem?_eq_getElem h]; rfl
theorem pV_len (ps : Ps) : (pV ps).length = ps.length := List.length_map ..
theorem same_row_ok (hn : C.hn = true) (h4 : ∀ s t σ, C.call 4 [val s, val t] σ = .ok (.bool (decide (s = t))) σ) {a b : Nat} {ps qs : Ps} (ha : σ[a]? = some (.list (pV ps))) (hb : σ[b]? = some (.list (pV qs))) :
    evF ns C f7_is_same_row [.ref a, .ref b] σ = .ok (.bool (decide (ps = qs))) σ := by
  have hc : Ev ns C [some (.ref a), some (.ref b), .none, .none] (.cmp .ne (.bi .len (.var 0)) (.bi .len (.var 1))) σ (.bool (!decide (((pV ps).length : Int) = (pV qs).length))) σ := e_cmp (e_bi hn rfl (lenL ha)) (e_bi hn rfl (lenL hb)) (neI _ _)
  by_cases hl : ps.length = qs.length
  · have hq := for_or (tgt := tgtP 2 3) (body := fun ρ σ => evSs ns C ρ σ [.ite (.or [(.cmp .ne (.idx (.var 2) (.lit (V.int 0))) (.idx (.var 3) (.lit (V.int 0)))), (.not (.call 4 [(.idx (.var 2) (.lit (V.int 1))), (.idx (.var 3) (.lit (V.int 1)))]))]) [.ret (.lit (V.bool false))] []]) (it := fun i => .zip a b i)
      (fun i ρ σ' => ∃ o o' : Option V, ρ = [some (.ref a), some (.ref b), o, o'] ∧ σ' = σ ∧ ps.take i = qs.take i) (fun r => ps ≠ qs ∧ ∃ ρ, r = .ok (.ret (.bool false)) ρ σ) (pV ps).length (fun ρ σ' p => by obtain ⟨_, _, _, rfl, _⟩ := p; exact stop_zip ha hb)
      (fun i ρ σ' hi p => by
        obtain ⟨o, o', rfl, rfl, ht⟩ := p
        rw [pV_len] at hi
        have hi' : i < qs.length := hl ▸ hi
        refine ⟨_, _, next_zip ha hb (pV_at hi) (pV_at hi'), rfl, ?_⟩
        have c1 : Ev ns C [some (.ref a), some (.ref b), some (.tup [.str ps[i].1, .int ps[i].2]), some (.tup [.str qs[i].1, .int qs[i].2])] (.cmp .ne (.idx (.var 2) (.lit (V.int 0))) (.idx (.var 3) (.lit (V.int 0)))) σ' (.bool (!decide (ps[i].1 = qs[i].1))) σ' := e_cmp rfl rfl (neS _ _)
        have c2 : Ev ns C [some (.ref a), some (.ref b), some (.tup [.str ps[i].1, .int ps[i].2]), some (.tup [.str qs[i].1, .int qs[i].2])] (.not (.call 4 [(.idx (.var 2) (.lit (V.int 1))), (.idx (.var 3) (.lit (V.int 1)))])) σ' (.bool (!decide (some ps[i].2 = some qs[i].2))) σ' := e_not (e_call rfl (h4 (some ps[i].2) (some qs[i].2) σ')) rfl
        have c := or2 c1 c2
        by_cases he : ps[i] = qs[i]
        · refine .inl ⟨_, _, s_ifF (c.trans ?_) ss_nil, _, _, rfl, rfl, ?_⟩
          · rw [he, decide_eq_true rfl, decide_eq_true rfl]; rfl
          · rw [take_at ps hi, take_at qs hi', ht, he]
        · refine .inr (.inl ⟨_, _, _, s_ifT (c.trans ?_) (after_end (s_ret rfl)), fun q => he (by subst q; rfl), _, rfl⟩)
          by_cases e1 : ps[i].1 = qs[i].1
          · rw [decide_eq_true e1, decide_eq_false (fun q => he (Prod.ext e1 (Option.some.inj q)))]; rfl
          · rw [decide_eq_false e1]; rfl)
      (pV ps).length 0 [some (.ref a), some (.ref b), .none, .none] σ (Nat.zero_add _) ⟨_, _, rfl, rfl, rfl⟩
    have c0 := hc.trans (by rw [decide_eq_true (by rw [pV_len, pV_len, hl])])
    rcases hq with ⟨ρ', σ', h, _, _, rfl, rfl, ht⟩ | ⟨hne, ρ, h⟩
    · rw [pV_len, List.take_length, hl, List.take_length] at ht
      rw [decide_eq_true ht]
      exact f_ret (fn := f7_is_same_row) (vs := [.ref a, .ref b]) rfl (s_ifF c0 (s_forP hn (src_zip rfl rfl ha hb) (after_next h (s_ret rfl))))
    · rw [decide_eq_false hne]
      exact f_ret (fn := f7_is_same_row) (vs := [.ref a, .ref b]) rfl (s_ifF c0 (s_forP hn (src_zip rfl rfl ha hb) (after_end h)))
  · rw [decide_eq_false fun q => hl (by rw [q])]
    exact f_ret (fn := f7_is_same_row) (vs := [.ref a, .ref b]) rfl (s_ifT (hc.trans (by rw [decide_eq_false (by rw [pV_len, pV_len]; (first | lia | omega))]; rfl)) (after_end (s_ret rfl)))
/-- the law's own look at two rows of pairs that are the same -/
theorem pairs_ok (hn : C.hn = true) (h17 : ∀ s t σ, C.call 17 [val s, val t] σ = .ok (.bool (decide (s = t))) σ) {a b : Nat} {ps : Ps} (ha : σ[a]? = some (.list (pV ps))) (hb : σ[b]? = some (.list (pV ps))) (hz : ps.length ≤ 100) :
    evF ns C f18_pairs [.ref a, .ref b] σ = .ok (.bool true) σ := by
  obtain ⟨ρ', σ', h, o, rfl, rfl⟩ := for_all (tgt := tgtN 2) (body := fun ρ σ => evSs ns C ρ σ [.ite (.or [(.not (.isi (.idx (.var 0) (.var 2)) .tuple)), (.cmp .ne (.bi .len (.idx (.var 0) (.var 2))) (.lit (V.int 2))), (.not (.isi (.idx (.idx (.var 0) (.var 2)) (.lit (V.int 0))) .str))]) [.ret (.lit (V.bool false))] [],
      .ite (.or [(.cmp .ne (.idx (.idx (.var 0) (.var 2)) (.lit (V.int 0))) (.idx (.idx (.var 1) (.var 2)) (.lit (V.int 0)))), (.not (.call 17 [(.idx (.idx (.var 0) (.var 2)) (.lit (V.int 1))), (.idx (.idx (.var 1) (.var 2)) (.lit (V.int 1)))]))]) [.ret (.lit (V.bool false))] []]) (it := fun i => .range i (pV ps).length)
    (fun i ρ σ' => ∃ o : Option V, ρ = [some (.ref a), some (.ref b), o] ∧ σ' = σ) (pV ps).length (fun _ _ _ => stop_range)
    (fun i ρ σ' hi p => by
      obtain ⟨o, rfl, rfl⟩ := p
      have hi' : i < ps.length := by rw [pV_len] at hi; exact hi
      have x0 : Ev ns C [some (.ref a), some (.ref b), some (.int i)] (.idx (.var 0) (.var 2)) σ' (.tup [.str ps[i].1, .int ps[i].2]) σ' := e_idx rfl rfl (idxL ha (Int.natCast_nonneg i) (pV_at hi'))
      have x1 : Ev ns C [some (.ref a), some (.ref b), some (.int i)] (.idx (.var 1) (.var 2)) σ' (.tup [.str ps[i].1, .int ps[i].2]) σ' := e_idx rfl rfl (idxL hb (Int.natCast_nonneg i) (pV_at hi'))
      refine ⟨_, _, _, _, next_range hi, rfl, s_ifF (orF (e_not (e_isi x0 rfl) rfl) (orF (e_cmp (e_bi hn x0 rfl) rfl rfl) (or1 (e_not (e_isi (e_idx x0 rfl rfl) rfl) rfl)))) (s_ifF ((or2 (e_cmp (e_idx x0 rfl rfl) (e_idx x1 rfl rfl) (neS _ _)) (e_not (e_call (es_two (e_idx x0 rfl rfl) (e_idx x1 rfl rfl)) (h17 (some ps[i].2) (some ps[i].2) σ')) rfl)).trans ?_) ss_nil), _, rfl, rfl⟩
      rw [decide_eq_true rfl, decide_eq_true rfl]; rfl)
    (pV ps).length 0 [some (.ref a), some (.ref b), .none] σ (Nat.zero_add _) ⟨_, rfl, rfl⟩
  have hs := src_range (ns := ns) (C := C) (ρ := [some (.ref a), some (.ref b), .none]) (e := .bi .len (.var 1)) (k := (pV ps).length) (e_bi hn rfl (lenL hb)) (by (first | lia | omega)) (by rw [pV_len]; (first | lia | omega))
  rw [Int.toNat_natCast] at hs
  have ci : isiV C.sub .list (.ref a) σ' = .ok (.bool true) σ' := by
    show (match tyIs σ' (.ref a) with | some k => R.ok (V.bool (tyHas .list k)) σ' | .none => .stuck) = _
    have : tyIs σ' (.ref a) = some .list := by show (listAt σ' a).map _ = _; rw [listAt_of ha]; rfl
    rw [this]; rfl
  exact f_ret (fn := f18_pairs) (vs := [.ref a, .ref b]) rfl (s_ifF ((or2 (e_not (e_isi rfl ci) rfl) (e_cmp (e_bi hn rfl (lenL ha)) (e_bi hn rfl (lenL hb)) (neI _ _))).trans (by rw [decide_eq_true rfl]; rfl)) (s_forN hn hs (after_next h (s_ret rfl))))
end
end Mine.L03

set_option maxRecDepth 100000
set_option linter.all false
namespace Mine.L03
open PySem Mine Mine.P

inductive Deed where
  | read (n : List Nat) (t : Option Int) | under (h : List Nat) (ps : Ps) | write (n : List Nat) (t : Option Int) | back (k : Nat)
noncomputable def sRead : List Nat := [114, 101, 97, 100]
noncomputable def sUnder : List Nat := [117, 110, 100, 101, 114]
noncomputable def sWrite : List Nat := [119, 114, 105, 116, 101]
noncomputable def sBack : List Nat := [98, 97, 99, 107]
/-- a deed stands in the heap -/
noncomputable def DR (σ : H) : Deed → V → Prop
  | .read n t, v => v = .tup [.str sRead, .str n, val t]
  | .under h ps, v => ∃ l, v = .tup [.str sUnder, .str h, .ref l] ∧ σ[l]? = some (.list (pV ps))
  | .write n t, v => v = .tup [.str sWrite, .str n, val t]
  | .back k, v => v = .tup [.str sBack, .int k]
theorem DR.gr {σ σ' : H} (g : Gr σ σ') : ∀ {d : Deed} {v : V}, DR σ d v → DR σ' d v
  | .read .., _, h => h
  | .under .., _, ⟨l, e, h⟩ => ⟨l, e, g.at h⟩
  | .write .., _, h => h
  | .back .., _, h => h
noncomputable def All2 {α β : Type} (R : α → β → Prop) : List α → List β → Prop
  | [], bs => bs = []
  | a :: as, bs => ∃ b r, bs = b :: r ∧ R a b ∧ All2 R as r
theorem All2.len {α β : Type} {R : α → β → Prop} : ∀ {as : List α} {bs : List β}, All2 R as bs → as.length = bs.length
  | [], _, h => by rw [show _ = [] from h]; rfl
  | a :: as, _, ⟨b, r, e, _, h⟩ => by rw [e, List.length_cons, List.length_cons, h.len]
theorem All2.at {α β : Type} {R : α → β → Prop} : ∀ {as : List α} {bs : List β}, All2 R as bs → ∀ {i : Nat} {a : α}, as[i]? = some a → ∃ b, bs[i]? = some b ∧ R a b
  | [], _, _, _, _, e => nomatch e
  | a :: as, _, ⟨b, r, e, h1, h⟩, 0, _, e' => by cases e'; exact ⟨b, by rw [e]; rfl, h1⟩
  | a :: as, _, ⟨b, r, e, _, h⟩, i + 1, _, e' => by
    obtain ⟨c, h3, h4⟩ := h.at (i := i) e'
    exact ⟨c, by rw [e]; exact h3, h4⟩
theorem All2.imp {α β : Type} {R R' : α → β → Prop} (hi : ∀ a b, R a b → R' a b) : ∀ {as : List α} {bs : List β}, All2 R as bs → All2 R' as bs
  | [], _, h => h
  | a :: as, _, ⟨b, r, e, h1, h⟩ => ⟨b, r, e, hi _ _ h1, h.imp hi⟩
noncomputable def RR (σ : H) (row : List Deed) (v : V) : Prop := ∃ l vs, v = .ref l ∧ σ[l]? = some (.list vs) ∧ All2 (DR σ) row vs
theorem RR.gr {σ σ' : H} (g : Gr σ σ') {row : List Deed} {v : V} (h : RR σ row v) : RR σ' row v := let ⟨l, vs, e, h1, h2⟩ := h; ⟨l, vs, e, g.at h1, h2.imp fun _ _ x => x.gr g⟩

/-! what the walk means -/
noncomputable def seenO (d : Kv) (n : List Nat) : Option Int := match get d n with | .int i => some i | _ => .none
theorem seenO_eq {d : Kv} (h : Vd d) (n : List Nat) : get d n = val (seenO d n) := by
  obtain ⟨t, ht⟩ := h n
  unfold seenO
  rw [ht]
  cases t <;> rfl
noncomputable def stepD (vals : Kv) (w : Ws) : Deed → Option Ws
  | .read n t => if seenO (put vals w) n = t then some w else .none
  | .under h ps => if told (put vals w) h = ps then some w else .none
  | .write n t => some (w ++ [(n, t)])
  | .back k => some (w.take k)
noncomputable def doneD (vals : Kv) : Ws → List Deed → Option Ws
  | w, [] => some w
  | w, d :: r => (stepD vals w d).bind fun w' => doneD vals w' r
noncomputable def walkD : Kv → List (List Deed) → Option Kv
  | v, [] => some v
  | v, r :: rs => (doneD v [] r).bind fun w => walkD (put v w) rs
theorem doneD_app (vals : Kv) : ∀ (a b : List Deed) (w : Ws), doneD vals w (a ++ b) = (doneD vals w a).bind fun w' => doneD vals w' b
  | [], _, _ => rfl
  | d :: a, b, w => by
    show (stepD vals w d).bind (fun w' => doneD vals w' (a ++ b)) = ((stepD vals w d).bind fun w' => doneD vals w' a).bind fun w' => doneD vals w' b
    cases stepD vals w d with
    | none => rfl
    | some w' => exact doneD_app vals a b w'
theorem doneD_take {vals : Kv} {row : List Deed} {i : Nat} {w : Ws} (h : i < row.length) (e : doneD vals [] (row.take i) = some w) : doneD vals [] (row.take (i + 1)) = stepD vals w row[i] := by
  rw [take_at row h, doneD_app, e]
  show (stepD vals w row[i]).bind some = _
  cases stepD vals w row[i] <;> rfl
theorem doneD_fail {vals : Kv} {row : List Deed} {i : Nat} {w : Ws} (h : i < row.length) (e : doneD vals [] (row.take i) = some w) (f : stepD vals w row[i] = .none) : doneD vals [] row = .none := by
  have : row = row.take (i + 1) ++ row.drop (i + 1) := (List.take_append_drop _ _).symm
  rw [this, doneD_app, doneD_take h e, f]; rfl
theorem walkD_app : ∀ (a b : List (List Deed)) (v : Kv), walkD v (a ++ b) = (walkD v a).bind fun v' => walkD v' b
  | [], _, _ => rfl
  | r :: a, b, v => by
    show (doneD v [] r).bind (fun w => walkD (put v w) (a ++ b)) = ((doneD v [] r).bind fun w => walkD (put v w) a).bind fun v' => walkD v' b
    cases doneD v [] r with
    | none => rfl
    | some w => exact walkD_app a b (put v w)
theorem cut_take {α : Type} (xs : List α) (k : Nat) : cut xs .none (some (k : Int)) = xs.take k := by
  show (xs.drop 0).take (clampN k xs.length - 0) = _
  unfold clampN
  rw [if_pos (Int.natCast_nonneg _), Int.toNat_natCast, List.drop_zero, Nat.sub_zero, List.take_eq_take_iff]
  (first | lia | omega)
section
variable {ns : List Int} {C : Calls} {ρ : Env} {σ σ' : H}
theorem s_raise (hn : C.hn = true) {k : Nat} {r : List S} : evSs ns C ρ σ (.raise k :: r) = .exc k ρ σ := by
  rw [ss_cons]; unfold evS; rw [if_pos hn]; rfl
/-- what the kit of the walk does -/
structure Wk (C : Calls) : Prop where
  hn : C.hn = true
  alike : ∀ s t σ, C.call 4 [val s, val t] σ = .ok (.bool (decide (s = t))) σ
  seen : ∀ {d l : Nat} {kvs : Kv} {ws : Ws} {σ : H}, σ[d]? = some (.dict kvs) → σ[l]? = some (.list (wV ws)) → ws.length ≤ 100 → ∀ n, C.call 5 [.ref d, .ref l, .str n] σ = .ok (get (put kvs ws) n) σ
  pairs : ∀ {d l : Nat} {kvs : Kv} {ws : Ws} {σ : H}, σ[d]? = some (.dict kvs) → σ[l]? = some (.list (wV ws)) → kvs.length + ws.length < 64 → Vd kvs → ∀ h, ∃ l' σ', C.call 6 [.ref d, .ref l, .str h] σ = .ok (.ref l') σ' ∧ Gr σ σ' ∧ σ'[l']? = some (.list (pV (told (put kvs ws) h)))
  row : ∀ {a b : Nat} {ps qs : Ps} {σ : H}, σ[a]? = some (.list (pV ps)) → σ[b]? = some (.list (pV qs)) → C.call 7 [.ref a, .ref b] σ = .ok (.bool (decide (ps = qs))) σ
theorem done_ok (K : Wk C) {dv : Nat} {vals : Kv} {row : List Deed} {rv : V} (hd : σ[dv]? = some (.dict vals)) (hr : RR σ row rv) (hv : Vd vals) (hz : vals.length + row.length < 64) :
    (∃ w l σ', doneD vals [] row = some w ∧ w.length ≤ row.length ∧ evF ns C f8_done_by [.ref dv, rv] σ = .ok (.ref l) σ' ∧ Gr σ σ' ∧ σ'[l]? = some (.list (wV w))) ∨ (∃ σ', doneD vals [] row = .none ∧ evF ns C f8_done_by [.ref dv, rv] σ = .exc 9 σ' ∧ Gr σ σ') := by
  have hlim : lim = 16777216 := rfl
  obtain ⟨lr, vs, rfl, hl, h2⟩ := hr
  have hlen := h2.len
  have hq := for_or (tgt := tgtN 3) (body := fun ρ σ => evSs ns C ρ σ [.ite (.cmp .eq (.idx (.var 3) (.lit (V.int 0))) (.lit (V.str [114, 101, 97, 100]))) [.ite (.not (.call 4 [(.call 5 [(.var 0), (.var 2), (.idx (.var 3) (.lit (V.int 1)))]), (.idx (.var 3) (.lit (V.int 2)))])) [.raise 9] []] [.ite (.cmp .eq (.idx (.var 3) (.lit (V.int 0))) (.lit (V.str [117, 110, 100, 101, 114]))) [.ite (.not (.call 7 [(.call 6 [(.var 0), (.var 2), (.idx (.var 3) (.lit (V.int 1)))]), (.idx (.var 3) (.lit (V.int 2)))])) [.raise 9] []] [.ite (.cmp .eq (.idx (.var 3) (.lit (V.int 0))) (.lit (V.str [119, 114, 105, 116, 101]))) [.assign 2 (.bin .add (.var 2) (.list [(.tup [(.idx (.var 3) (.lit (V.int 1))), (.idx (.var 3) (.lit (V.int 2)))])]))] [.assign 2 (.slice (.var 2) .nil (.idx (.var 3) (.lit (V.int 1))))]]]])
    (it := fun i => .list lr i)
    (fun i ρ σ' => ∃ (lw : Nat) (w : Ws) (o : Option V), ρ = [some (.ref dv), some (.ref lr), some (.ref lw), o] ∧ Gr σ σ' ∧ σ'[lw]? = some (.list (wV w)) ∧ doneD vals [] (row.take i) = some w ∧ w.length ≤ i)
    (fun r => doneD vals [] row = .none ∧ ∃ ρ σ', r = .exc 9 ρ σ' ∧ Gr σ σ') vs.length (fun ρ σ' p => by obtain ⟨_, _, _, _, g, _⟩ := p; exact stop_list (g.at hl))
    (fun i ρ σ' hi p => by
      obtain ⟨lw, w, o, rfl, g, hw, hdn, hwl⟩ := p
      have hi' : i < row.length := by (first | lia | omega)
      obtain ⟨v, hv1, hv2⟩ := h2.at (List.getElem?_eq_getElem hi')
      refine ⟨v, _, next_list (g.at hl) hv1, rfl, ?_⟩
      have dt := doneD_take hi' hdn
      have df := doneD_fail hi' hdn
      cases hd' : row[i] with
      | read n t =>
        rw [hd'] at hv2 dt df
        obtain rfl : v = _ := hv2
        have s5 := K.seen (g.at hd) hw (by (first | lia | omega)) n
        rw [seenO_eq (hv.put w)] at s5
        have c : Ev ns C [some (.ref dv), some (.ref lr), some (.ref lw), some (.tup [.str sRead, .str n, val t])] (.not (.call 4 [(.call 5 [(.var 0), (.var 2), (.idx (.var 3) (.lit (V.int 1)))]), (.idx (.var 3) (.lit (V.int 2)))])) σ' (.bool (!decide (seenO (put vals w) n = t))) σ' :=
          e_not (e_call (es_two (e_call rfl s5) rfl) (K.alike _ _ _)) rfl
        by_cases hs : seenO (put vals w) n = t
        · refine .inl ⟨_, _, s_ifT rfl (after_next (s_ifF (c.trans (by rw [decide_eq_true hs]; rfl)) ss_nil) ss_nil), lw, w, _, rfl, g, hw, ?_, by (first | lia | omega)⟩
          rw [dt]; exact if_pos hs
        · exact .inr (.inr ⟨_, _, _, s_ifT rfl (after_exc (s_ifT (c.trans (by rw [decide_eq_false hs]; rfl)) (after_exc (s_raise K.hn)))), df (if_neg hs), _, _, rfl, g⟩)
      | under h ps =>
        rw [hd'] at hv2 dt df
        obtain ⟨lp, rfl, hlp⟩ := hv2
        obtain ⟨l', σ2, e6, g6, h6⟩ := K.pairs (g.at hd) hw (by (first | lia | omega)) hv h
        have g2 := g.tr g6
        have c : Ev ns C [some (.ref dv), some (.ref lr), some (.ref lw), some (.tup [.str sUnder, .str h, .ref lp])] (.not (.call 7 [(.call 6 [(.var 0), (.var 2), (.idx (.var 3) (.lit (V.int 1)))]), (.idx (.var 3) (.lit (V.int 2)))])) σ' (.bool (!decide (told (put vals w) h = ps))) σ2 :=
          e_not (e_call (es_two (e_call rfl e6) rfl) (K.row h6 (g2.at hlp))) rfl
        by_cases hs : told (put vals w) h = ps
        · refine .inl ⟨_, _, s_if (p := false) rfl (after_next (s_ifT rfl (after_next (s_ifF (c.trans (by rw [decide_eq_true hs]; rfl)) ss_nil) ss_nil)) ss_nil), lw, w, _, rfl, g2, g6.at hw, ?_, by (first | lia | omega)⟩
          rw [dt]; exact if_pos hs
        · exact .inr (.inr ⟨_, _, _, s_if (p := false) rfl (after_exc (s_ifT rfl (after_exc (s_ifT (c.trans (by rw [decide_eq_false hs]; rfl)) (after_exc (s_raise K.hn)))))), df (if_neg hs), _, _, rfl, g2⟩)
      | write n t =>
        rw [hd'] at hv2 dt
        obtain rfl : v = _ := hv2
        refine .inl ⟨_, _, s_if (p := false) rfl (after_next (s_if (p := false) rfl (after_next (s_ifT rfl (after_next (s_assign (e_bin rfl (e_list (es_one (e_tup rfl two_lim)) (by show 1 ≤ lim; (first | lia | omega))) (addL ((Gr.app σ' _).at hw) (at_new σ' _) (by rw [wV, List.length_map]; show _ + 1 ≤ lim; (first | lia | omega)))) rfl ss_nil) ss_nil)) ss_nil)) ss_nil), _, w ++ [(n, t)], _, rfl, (g.tr (Gr.app _ _)).tr (Gr.app _ _), ?_, dt, by rw [List.length_append]; show _ + 1 ≤ _; (first | lia | omega)⟩
        rw [show wV (w ++ [(n, t)]) = wV w ++ [.tup [.str n, val t]] from List.map_append]
        exact at_new _ _
      | back k =>
        rw [hd'] at hv2 dt
        obtain rfl : v = _ := hv2
        refine .inl ⟨_, _, s_if (p := false) rfl (after_next (s_if (p := false) rfl (after_next (s_if (p := false) rfl (after_next (s_assign (e_slice rfl rfl rfl (slL hw (lo := .none) (hi := some (k : Int)) rfl rfl (by rw [wV, List.length_map]; (first | lia | omega)))) rfl ss_nil) ss_nil)) ss_nil)) ss_nil), _, w.take k, _, rfl, g.tr (Gr.app _ _), ?_, dt, by rw [List.length_take]; (first | lia | omega)⟩
        rw [at_new, cut_take]
        unfold wV
        rw [List.map_take])
    vs.length 0 [some (.ref dv), some (.ref lr), some (.ref σ.length), .none] (σ ++ [.list []]) (Nat.zero_add _) ⟨_, [], _, rfl, Gr.app _ _, at_new _ _, rfl, Nat.le_refl _⟩
  have hs := src_of (ns := ns) (C := C) (ρ := [some (.ref dv), some (.ref lr), some (.ref σ.length), .none]) (e := .var 1) (σ := σ ++ [.list []]) rfl ((Gr.app σ _).at hl)
  rcases hq with ⟨ρ', σ', h, lw, w, o, rfl, g, hw, hdn, hwl⟩ | ⟨hno, ρ', σ', h, g⟩
  · rw [← hlen, List.take_length] at hdn
    exact .inl ⟨w, lw, σ', hdn, by (first | lia | omega), f_ret (fn := f8_done_by) (vs := [.ref dv, .ref lr]) rfl (s_assign (e_list es_nil (Nat.zero_le _)) rfl (s_forN K.hn hs (after_next h (s_ret rfl)))), g, hw⟩
  · exact .inr ⟨σ', hno, f_exc (fn := f8_done_by) (vs := [.ref dv, .ref lr]) rfl (s_assign (e_list es_nil (Nat.zero_le _)) rfl (s_forN K.hn hs (after_exc h))), g⟩
end
end Mine.L03

set_option maxRecDepth 100000
set_option linter.all false
namespace Mine.L03
open PySem Mine Mine.P

noncomputable def tot (rows : List (List Deed)) : Nat := (rows.map List.length).sum
theorem tot_app (a b : List (List Deed)) : tot (a ++ b) = tot a + tot b := by unfold tot; rw [List.map_append, List.sum_append]
theorem tot_take {rows : List (List Deed)} {i : Nat} (h : i < rows.length) : tot (rows.take (i + 1)) = tot (rows.take i) + rows[i].length := by rw [take_at rows h, tot_app]; show _ + (rows[i].length + 0) = _; rfl
theorem tot_le (rows : List (List Deed)) (i : Nat) : tot (rows.take i) ≤ tot rows := by
  have := tot_app (rows.take i) (rows.drop i)
  rw [List.take_append_drop] at this
  (first | lia | omega)
theorem walkD_take {rows : List (List Deed)} {i : Nat} {v : Kv} (h : i < rows.length) (e : walkD [] (rows.take i) = some v) : walkD [] (rows.take (i + 1)) = (doneD v [] rows[i]).map (put v) := by
  rw [take_at rows h, walkD_app, e]
  show (doneD v [] rows[i]).bind (fun w => some (put v w)) = _
  cases doneD v [] rows[i] <;> rfl
theorem walkD_fail {rows : List (List Deed)} {i : Nat} {v : Kv} (h : i < rows.length) (e : walkD [] (rows.take i) = some v) (f : doneD v [] rows[i] = .none) : walkD [] rows = .none := by
  have : rows = rows.take (i + 1) ++ rows.drop (i + 1) := (List.take_append_drop _ _).symm
  rw [this, walkD_app, walkD_take h e, f]; rfl
theorem Gr.set {σ σ' : H} (g : Gr σ σ') {e : Nat} (h : σ.length ≤ e) (o : O) : Gr σ (σ'.set e o) := by
  obtain ⟨τ, rfl⟩ := g
  rw [List.set_append_right _ _ h]; exact Gr.app _ _
noncomputable def RowsR (σ : H) (rows : List (List Deed)) (l : Nat) : Prop := ∃ rs, σ[l]? = some (.list rs) ∧ All2 (RR σ) rows rs
theorem RowsR.gr {σ σ' : H} (g : Gr σ σ') {rows : List (List Deed)} {l : Nat} (h : RowsR σ rows l) : RowsR σ' rows l := let ⟨rs, h1, h2⟩ := h; ⟨rs, g.at h1, h2.imp fun _ _ x => x.gr g⟩
theorem told_nil (P : Kv) : (sort lexLe (keysOf P)).filterMap (asP P) = told P [] := rfl
section
variable {ns : List Int} {C : Calls} {ρ : Env} {σ σ' σ₁ σ₂ : H}
theorem s_exprX {e : E} {k : Nat} {r : List S} (h : evE ns C ρ e σ = .exc k σ') : evSs ns C ρ σ (.expr e :: r) = .exc k ρ σ' := by
  rw [ss_cons]; unfold evS; rw [h]; rfl
theorem s_assignX {e : E} {k j : Nat} {r : List S} (h : evE ns C ρ e σ = .exc k σ') : evSs ns C ρ σ (.assign j e :: r) = .exc k ρ σ' := by
  rw [ss_cons]; unfold evS; rw [h]; rfl
/-- the walk's parts -/
structure Wk2 (C : Calls) : Prop where
  hn : C.hn = true
  done : ∀ {dv : Nat} {vals : Kv} {row : List Deed} {rv : V} {σ : H}, σ[dv]? = some (.dict vals) → RR σ row rv → Vd vals → vals.length + row.length < 64 →
    (∃ w l σ', doneD vals [] row = some w ∧ w.length ≤ row.length ∧ C.call 8 [.ref dv, rv] σ = .ok (.ref l) σ' ∧ Gr σ σ' ∧ σ'[l]? = some (.list (wV w))) ∨ (∃ σ', doneD vals [] row = .none ∧ C.call 8 [.ref dv, rv] σ = .exc 9 σ' ∧ Gr σ σ')
  values : ∀ {l : Nat} {ws : Ws} {σ : H}, σ[l]? = some (.list (wV ws)) → ws.length ≤ 100 → C.call 3 [.ref l] σ = .ok (.ref σ.length) (σ ++ [.dict (put [] ws)])
theorem walked_ok (K : Wk2 C) {l : Nat} {rows : List (List Deed)} (hr : RowsR σ rows l) (hz : tot rows < 64) :
    (∃ v l' σ', walkD [] rows = some v ∧ evF ns C f9_walked [.ref l] σ = .ok (.ref l') σ' ∧ Gr σ σ' ∧ σ'[l']? = some (.list (pV (told v [])))) ∨ (∃ σ', walkD [] rows = .none ∧ evF ns C f9_walked [.ref l] σ = .exc 9 σ' ∧ Gr σ σ') := by
  have hlim : lim = 16777216 := rfl
  obtain ⟨rs, hl, h2⟩ := hr
  have hlen := h2.len
  have hq := for_or (tgt := tgtN 2) (body := fun ρ σ => evSs ns C ρ σ [.expr (.me (.var 1) .update [(.call 3 [(.call 8 [(.var 1), (.var 2)])])])]) (it := fun i => .list l i)
    (fun i ρ σ' => ∃ (v : Kv) (o : Option V), ρ = [some (.ref l), some (.ref σ.length), o] ∧ Gr σ σ' ∧ σ'[σ.length]? = some (.dict v) ∧ walkD [] (rows.take i) = some v ∧ v.length ≤ tot (rows.take i) ∧ Vd v)
    (fun r => walkD [] rows = .none ∧ ∃ ρ σ', r = .exc 9 ρ σ' ∧ Gr σ σ') rs.length (fun ρ σ' p => by obtain ⟨_, _, _, g, _⟩ := p; exact stop_list (g.at hl))
    (fun i ρ σ' hi p => by
      obtain ⟨v, o, rfl, g, hd, hw, hvl, hv⟩ := p
      have hi' : i < rows.length := by (first | lia | omega)
      obtain ⟨rv, hv1, hv2⟩ := h2.at (List.getElem?_eq_getElem hi')
      refine ⟨rv, _, next_list (g.at hl) hv1, rfl, ?_⟩
      have tt := tot_take hi'
      have tl := tot_le rows (i + 1)
      rcases K.done hd (hv2.gr g) hv (by (first | lia | omega)) with ⟨w, lw, σ1, e1, wl, e2, g1, hw1⟩ | ⟨σ1, e1, e2, g1⟩
      · have hlt : σ.length < σ1.length := Nat.lt_of_lt_of_le (List.getElem?_eq_some_iff.mp hd).1 g1.length_le
        have pl := put_len w []
        have pl2 := put_len w v
        have h0 : ([] : Kv).length = 0 := rfl
        have hu : meV (.ref σ.length) .update [.ref σ1.length] (σ1 ++ [O.dict (put [] w)]) = .ok .none ((σ1 ++ [O.dict (put [] w)]).set σ.length (O.dict (put v w))) := by
          have := updD (σ := σ1 ++ [O.dict (put [] w)]) ((Gr.app σ1 _).at (g1.at hd)) (at_new σ1 (.dict (put [] w))) (Nat.ne_of_gt hlt) (by (first | lia | omega)) (by rw [dputs_put]; (first | lia | omega))
          rw [dputs_put] at this; exact this
        refine .inl ⟨_, _, s_expr (e_me rfl (kD hd rfl) (es_one (e_call (es_one (e_call rfl e2)) (K.values hw1 (by (first | lia | omega))))) hu) ss_nil, put v w, _, rfl, Gr.set ((g.tr g1).tr (Gr.app _ _)) (Nat.le_refl _) _, ?_, ?_, by (first | lia | omega), hv.put w⟩
        · rw [List.getElem?_set_self (by rw [List.length_append]; (first | lia | omega))]
        · rw [walkD_take hi' hw, e1]; rfl
      · exact .inr (.inr ⟨_, _, _, s_exprX (bnd2 (σ' := σ') (a := .ref σ.length) rfl (bnd2 (kD hd rfl) (bndx (bndx (bndx (bndx (bnd2 (a := [.ref σ.length, rv]) (σ' := σ') rfl e2))))))), walkD_fail hi' hw e1, _, _, rfl, g.tr g1⟩))
    rs.length 0 [some (.ref l), some (.ref σ.length), .none] (σ ++ [.dict []]) (Nat.zero_add _) ⟨[], _, rfl, Gr.app _ _, at_new _ _, rfl, Nat.le_refl _, .nil⟩
  have hs := src_of (ns := ns) (C := C) (ρ := [some (.ref l), some (.ref σ.length), .none]) (e := .var 0) (σ := σ ++ [.dict []]) rfl ((Gr.app σ _).at hl)
  rcases hq with ⟨ρ', σ', h, v, o, rfl, g, hd, hw, hvl, hv⟩ | ⟨hno, ρ', σ', h, g⟩
  · rw [← hlen, List.take_length] at hw hvl
    have hP : v.length < 64 := by (first | lia | omega)
    let ks := sort lexLe (keysOf v)
    let σ2 := σ' ++ [.list ((keysOf v).map V.str)]
    let σ3 := σ2 ++ [.list (ks.map V.str)]
    have hks : ks.length < 64 := by show (sort lexLe (keysOf v)).length < 64; rw [sort_len, keysOf, List.length_map]; exact hP
    have hD : σ3[σ.length]? = some (.dict v) := (Gr.app σ2 _).at ((Gr.app σ' _).at hd)
    obtain ⟨acc, σ4, hg2, rfl, rfl⟩ := gather_all (f := fIf ns C [some (.ref l), some (.ref σ.length), o] (.tup [(.var 3), (.idx (.var 1) (.var 3))]) (.cmp .isnt (.idx (.var 1) (.var 3)) (.lit V.none))) (it := fun i => .list σ2.length i)
      (fun i acc σ' => acc = pV ((ks.take i).filterMap (asP v)) ∧ σ' = σ3) (ks.map V.str).length (fun acc σ' p => by obtain ⟨_, rfl⟩ := p; exact stop_list (at_new σ2 _))
      (fun i acc σ' hi p => by
        obtain ⟨rfl, rfl⟩ := p
        have hi' : i < ks.length := by rw [List.length_map] at hi; exact hi
        have hget := key_get (mem_sort lexLe _ _ (List.getElem_mem hi' : ks[i] ∈ sort lexLe (keysOf v)))
        obtain ⟨t, ht⟩ := hv ks[i]
        rw [ht] at hget
        have ft := take_filterMap (asP v) ks hi'
        refine ⟨_, next_list (at_new σ2 _) (strV_at hi'), ?_⟩
        have hx : Ev ns C ([some (.ref l), some (.ref σ.length), o] ++ [some (.str ks[i])]) (.idx (.var 1) (.var 3)) σ3 (val t) σ3 := e_idx rfl rfl (idxD hD hget)
        have hlen : (pV ((ks.take i).filterMap (asP v))).length ≤ 64 := by
          rw [pV_len]
          exact Nat.le_trans (List.length_filterMap_le _ _) (by rw [List.length_take]; (first | lia | omega))
        cases t with
        | none =>
          have hf : asP v ks[i] = .none := by unfold asP; rw [ht]; rfl
          refine .inr ⟨_, fIf_f (e_cmp hx rfl rfl), ?_, rfl⟩
          rw [ft, hf, Option.toList_none, List.append_nil]
        | some j =>
          have hf : asP v ks[i] = some (ks[i], j) := by unfold asP; rw [ht]; rfl
          refine .inl ⟨_, _, fIf_t (e_cmp hx rfl rfl) (e_tup (es_two rfl hx) two_lim), by (first | lia | omega), ?_, rfl⟩
          rw [ft, hf]
          unfold pV
          rw [List.map_append]; rfl)
      (ks.map V.str).length 0 [] σ3 (Nat.zero_add _) ⟨rfl, rfl⟩
    have eK : ks.take (ks.map V.str).length = ks := by rw [List.length_map, List.take_length]
    rw [eK] at hg2
    refine .inl ⟨v, σ3.length, _, hw, f_ret (fn := f9_walked) (vs := [.ref l]) rfl (s_assign (v := .ref σ.length) rfl rfl (s_forN K.hn hs (after_next h (s_ret (e_compIf K.hn (src_of (e_bi K.hn (e_bi K.hn rfl (listD hd hP)) (sortedL (at_new σ' _) (by rw [keysOf, List.length_map]; exact hP))) (at_new σ2 _)) hg2))))), ((g.tr (Gr.app _ _)).tr (Gr.app _ _)).tr (Gr.app _ _), ?_⟩
    rw [← told_nil]
    exact at_new σ3 _
  · exact .inr ⟨σ', hno, f_exc (fn := f9_walked) (vs := [.ref l]) rfl (s_assign (v := .ref σ.length) rfl rfl (s_forN K.hn hs (after_exc h))), g⟩
end
end Mine.L03

set_option maxRecDepth 100000
set_option linter.all false
namespace Mine.L03
open PySem Mine Mine.P

/-- a deed that the dealing takes -/
noncomputable def Fits (left : Kv) (ws : Ws) : Deed → Prop
  | .read n t => seenO (put left ws) n = t
  | .under h ps => told (put left ws) h = ps
  | .write n _ => n.length ≤ 32
  | .back _ => True
/-- where a deed's list lies -/
noncomputable def DF (Q : Nat → Prop) (v : V) : Prop := ∀ k n l, v = .tup [k, n, .ref l] → Q l
theorem DF.val {Q : Nat → Prop} {k n : V} {t : Option Int} : DF Q (.tup [k, n, val t]) := fun _ _ l e => by
  injection e with e; injection e with _ e; injection e with _ e; injection e with e _
  cases t <;> cases e
theorem DF.two {Q : Nat → Prop} {k n : V} : DF Q (.tup [k, n]) := fun _ _ l e => by
  injection e with e; injection e with _ e; injection e with _ e; cases e
theorem DF.ref {Q : Nat → Prop} {k n : V} {l : Nat} (h : Q l) : DF Q (.tup [k, n, .ref l]) := fun _ _ l' e => by
  injection e with e; injection e with _ e; injection e with _ e; injection e with e _; injection e with e; exact e ▸ h
theorem DF.imp {Q Q' : Nat → Prop} {v : V} (h : DF Q v) (hi : ∀ l, Q l → Q' l) : DF Q' v := fun k n l e => hi l (h k n l e)
section
variable {ns : List Int} {C : Calls} {ρ : Env} {σ σ' σ₁ σ₂ : H}
theorem getD2 {l : Nat} {kvs : Kv} {x : List Nat} {v : V} (hl : σ[l]? = some (.dict kvs)) : meV (.ref l) .get [.str x, v] σ = .ok ((dget kvs x).getD v) σ := by
  unfold meV; dsimp only; rw [hl]; rfl
theorem own_get (left : Kv) (ws : Ws) (n : List Nat) : (dget (put [] ws) n).getD (get left n) = get (put left ws) n := by
  unfold get
  rw [put_get, put_get, look_none n ws (dget left n)]
  show (look .none ws n).getD _ = _
  cases look .none ws n <;> rfl
structure Dk (C : Calls) : Prop where
  hn : C.hn = true
  last : ∀ {l : Nat} {ws : Ws} {σ : H}, σ[l]? = some (.list (wV ws)) → ws.length ≤ 100 → C.call 19 [.ref l] σ = .ok (.ref σ.length) (σ ++ [.dict (put [] ws)])
  under : ∀ {d j : Nat} {kvs qs : Kv} {σ : H}, σ[d]? = some (.dict kvs) → σ[j]? = some (.dict qs) → kvs.length + qs.length < 64 → Vd (dputs kvs qs) → Kb (dputs kvs qs) → ∀ h, ∃ l' σ', C.call 20 [.ref d, .ref j, .str h] σ = .ok (.ref l') σ' ∧ Gr σ σ' ∧ σ'[l']? = some (.list (pV (told (dputs kvs qs) h))) ∧ σ.length ≤ l'
  value : ∀ x σ, ∃ t σ', C.call 16 [.int x] σ = .ok (val t) σ' ∧ Gr σ σ'
theorem deed_ok (K : Dk C) {dl lp lq : Nat} {left : Kv} {ws : Ws} {xs : List V} (hd : σ[dl]? = some (.dict left)) (hp : σ[lp]? = some (.list (wV ws))) (hq : σ[lq]? = some (.list xs)) (hv : Vd left) (hk : Kb left) (hw : Wb ws) (hz : left.length + ws.length < 64) (hx : xs ≠ []) (hxl : xs.length ≤ 200) (hxn : allN xs) (more cell : Int) :
    ∃ d v σ', evF ns C f21_deed_by [.ref dl, .ref lp, .ref lq, .int more, .int cell] σ = .ok v σ' ∧ Gr σ σ' ∧ DR σ' d v ∧ Fits left ws d ∧ DF (σ.length ≤ ·) v := by
  have hlim : lim = 16777216 := rfl
  have hpos : 0 < xs.length := List.length_pos_iff.mpr hx
  obtain ⟨m1, m2⟩ := fmod_lt (more.fdiv 16) (y := xs.length) (by (first | lia | omega))
  have hkx : ((more.fdiv 16).fmod xs.length).toNat < xs.length := by (first | lia | omega)
  obtain ⟨n, hn1, hn2⟩ := hxn _ (List.getElem_mem hkx)
  have hget : xs[((more.fdiv 16).fmod xs.length).toNat]? = some (.str n) := by rw [List.getElem?_eq_getElem hkx, hn1]
  have e5 : Ev ns C [some (.ref dl), some (.ref lp), some (.ref lq), some (.int more), some (.int cell), .none, .none, .none] (.idx (.var 2) (.bin .mod (.bin .fdiv (.var 3) (.lit (V.int 16))) (.bi .len (.var 2)))) σ (.str n) σ :=
    e_idx rfl (e_bin rfl (e_bi K.hn rfl (lenL hq)) (modV (by (first | lia | omega)))) (idxL hq m1 hget)
  have eL := K.last hp (by (first | lia | omega))
  let σ1 := σ ++ [.dict (put [] ws)]
  let ρ2 : Env := [some (.ref dl), some (.ref lp), some (.ref lq), some (.int more), some (.int cell), some (.str n), some (.ref σ.length), .none]
  have A : ∀ {Res : RS}, evSs ns C ρ2 σ1 (f21_deed_by.body.drop 2) = Res → evSs ns C [some (.ref dl), some (.ref lp), some (.ref lq), some (.int more), some (.int cell), .none, .none, .none] σ f21_deed_by.body = Res := fun h => s_assign e5 rfl (s_assign (e_call rfl eL) rfl h)
  have G1 : Gr σ σ1 := Gr.app _ _
  have hd1 := G1.at hd
  have q : ∀ k : Int, Ev ns C ρ2 (.cmp .lt (.bin .mod (.var 3) (.lit (V.int 16))) (.lit (V.int k))) σ1 (.bool (decide (more.fmod 16 < k))) σ1 := fun k => e_cmp rfl rfl (lt_ok _ _)
  have hvp := hv.put ws
  have pl := put_len ws []
  have h0 : ([] : Kv).length = 0 := rfl
  by_cases h5 : more.fmod 16 < 5
  · refine ⟨.read n (seenO (put left ws) n), _, σ1, f_ret (fn := f21_deed_by) (vs := [.ref dl, .ref lp, .ref lq, .int more, .int cell]) rfl (A (s_ifT ((q 5).trans (by rw [decide_eq_true h5])) (after_end (s_ret (e_tup (es_three rfl rfl (e_me rfl (kD (at_new σ _) rfl) (es_two rfl (e_me rfl (kD hd1 rfl) rfl (getD1 hd1))) (getD2 (at_new σ _)))) (by show 3 ≤ lim; (first | lia | omega))))))), G1, ?_, rfl, ?_⟩
    · show V.tup [.str sRead, .str n, _] = _
      rw [own_get, seenO_eq hvp]
    · show DF _ (V.tup [.str sRead, .str n, _])
      rw [own_get, seenO_eq hvp]
      exact DF.val
  · have q5 := (q 5).trans (by rw [decide_eq_false h5])
    by_cases h8 : more.fmod 16 < 8
    · have q8 := (q 8).trans (by rw [decide_eq_true h8])
      let k := (more.fdiv 1056).fmod (n.length + 1)
      let hh := cut n .none (some k)
      obtain ⟨l', σ2, e20, g20, h20, f20⟩ := K.under hd1 (at_new σ (.dict (put [] ws))) (by (first | lia | omega)) (by rw [dputs_put]; exact hvp) (by rw [dputs_put]; exact hk.put hw) hh
      rw [dputs_put] at h20
      exact ⟨.under hh (told (put left ws) hh), _, σ2, f_ret (fn := f21_deed_by) (vs := [.ref dl, .ref lp, .ref lq, .int more, .int cell]) rfl (A (s_ifF q5 (s_ifT q8 (after_end (s_assign (e_slice rfl rfl (e_bin rfl (e_bin (e_bi K.hn rfl rfl) rfl rfl) (modV (by (first | lia | omega)))) (slS (lo := .none) (hi := some k) rfl rfl (by (first | lia | omega)))) rfl (s_ret (e_tup (es_three rfl rfl (e_call rfl e20)) (by show 3 ≤ lim; (first | lia | omega))))))))), G1.tr g20, ⟨l', rfl, h20⟩, rfl, DF.ref (Nat.le_trans G1.length_le f20)⟩
    · have q8 := (q 8).trans (by rw [decide_eq_false h8])
      by_cases h14 : more.fmod 16 < 14
      · obtain ⟨t, σ2, e16, g16⟩ := K.value cell σ1
        exact ⟨.write n t, _, σ2, f_ret (fn := f21_deed_by) (vs := [.ref dl, .ref lp, .ref lq, .int more, .int cell]) rfl (A (s_ifF q5 (s_ifF q8 (s_ifT ((q 14).trans (by rw [decide_eq_true h14])) (after_end (s_ret (e_tup (es_three rfl rfl (e_call rfl e16)) (by show 3 ≤ lim; (first | lia | omega))))))))), G1.tr g16, rfl, hn2, DF.val⟩
      · obtain ⟨w1, w2⟩ := fmod_lt (more.fdiv 16) (y := (wV ws).length + 1) (by (first | lia | omega))
        refine ⟨.back ((more.fdiv 16).fmod ((wV ws).length + 1)).toNat, _, σ1, f_ret (fn := f21_deed_by) (vs := [.ref dl, .ref lp, .ref lq, .int more, .int cell]) rfl (A (s_ifF q5 (s_ifF q8 (s_ifF ((q 14).trans (by rw [decide_eq_false h14])) (s_ret (e_tup (es_two rfl (e_bin rfl (e_bin (e_bi K.hn rfl (lenL (G1.at hp))) rfl rfl) (modV (by (first | lia | omega))))) two_lim)))))), G1, ?_, True.intro, DF.two⟩
        show V.tup [.str sBack, .int _] = .tup [.str sBack, .int _]
        rw [Int.toNat_of_nonneg w1]
theorem listL {l : Nat} {xs : List V} (hl : σ[l]? = some (.list xs)) (h : xs.length ≤ lim) : biV ns .list (.ref l) σ = .ok (.ref σ.length) (σ ++ [.list xs]) := by
  have e : itemsV σ (.ref l) = some xs := by unfold itemsV; dsimp only; rw [hl]
  show (pick (itemsV σ (.ref l))).bnd newL σ = _
  rw [e]
  exact newL_ok h
/-- a deed that is not too long -/
noncomputable def Small : Deed → Prop
  | .under _ ps => ps.length ≤ 100 ∧ ∀ q ∈ ps, q.1.length ≤ 32
  | _ => True
/-- one that may be copied -/
noncomputable def Small2 : Deed → Prop
  | .under _ ps => ps.length ≤ 300
  | _ => True
theorem copied_ok (hn : C.hn = true) {d : Deed} {v : V} (h : DR σ d v) (hs : Small2 d) : ∃ v' σ', evF ns C f25_copied [v] σ = .ok v' σ' ∧ Gr σ σ' ∧ DR σ' d v' := by
  have hlim : lim = 16777216 := rfl
  cases d with
  | read n t => obtain rfl : v = _ := h; exact ⟨_, σ, f_ret (fn := f25_copied) (vs := [_]) rfl (s_ifF rfl (s_ret rfl)), Gr.rfl, rfl⟩
  | write n t => obtain rfl : v = _ := h; exact ⟨_, σ, f_ret (fn := f25_copied) (vs := [_]) rfl (s_ifF rfl (s_ret rfl)), Gr.rfl, rfl⟩
  | back k => obtain rfl : v = _ := h; exact ⟨_, σ, f_ret (fn := f25_copied) (vs := [_]) rfl (s_ifF rfl (s_ret rfl)), Gr.rfl, rfl⟩
  | under hd ps =>
    obtain ⟨l, rfl, hl⟩ := h
    have hs : ps.length ≤ 300 := hs
    exact ⟨_, _, f_ret (fn := f25_copied) (vs := [_]) rfl (s_ifT rfl (after_end (s_ret (e_tup (es_three rfl rfl (e_bi hn rfl (listL hl (by rw [pV_len]; (first | lia | omega))))) (by show 3 ≤ lim; (first | lia | omega)))))), Gr.app _ _, σ.length, rfl, at_new _ _⟩
end
end Mine.L03

set_option maxRecDepth 100000
set_option linter.all false
namespace Mine.L03
open PySem Mine Mine.P

/-- a deed stands in the heap, its list apart from some places -/
noncomputable def Dd (σ : H) (M : List Nat) (d : Deed) (v : V) : Prop := DR σ d v ∧ DF (· ∉ M) v
theorem Dd.fr {σ σ' : H} {M M' : List Nat} {m : Nat} (hmM : m ∈ M) (hk : ∀ i o, i ≠ m → σ[i]? = some o → σ'[i]? = some o) (hm : ∀ l, l < σ.length → l ∉ M → l ∉ M') {d : Deed} {v : V} (h : Dd σ M d v) : Dd σ' M' d v := by
  obtain ⟨h1, h2⟩ := h
  cases d with
  | read n t => obtain rfl : v = _ := h1; exact ⟨rfl, DF.val⟩
  | write n t => obtain rfl : v = _ := h1; exact ⟨rfl, DF.val⟩
  | back k => obtain rfl : v = _ := h1; exact ⟨rfl, DF.two⟩
  | under hd ps =>
    obtain ⟨l, rfl, hl⟩ := h1
    have hl2 : l ∉ M := h2 _ _ l rfl
    exact ⟨⟨l, rfl, hk l _ (fun e => hl2 (e ▸ hmM)) hl⟩, DF.ref (hm l (List.getElem?_eq_some_iff.mp hl).1 hl2)⟩
theorem Dd.gr {σ σ' : H} {M M' : List Nat} (g : Gr σ σ') (hm : ∀ l, l < σ.length → l ∉ M → l ∉ M') {d : Deed} {v : V} (h : Dd σ M d v) : Dd σ' M' d v := by
  obtain ⟨h1, h2⟩ := h
  refine ⟨h1.gr g, ?_⟩
  cases d with
  | read n t => obtain rfl : v = _ := h1; exact DF.val
  | write n t => obtain rfl : v = _ := h1; exact DF.val
  | back k => obtain rfl : v = _ := h1; exact DF.two
  | under hd ps =>
    obtain ⟨l, rfl, hl⟩ := h1
    exact DF.ref (hm l (List.getElem?_eq_some_iff.mp hl).1 (h2 _ _ l rfl))
noncomputable def Rw (σ : H) (M : List Nat) (row : List Deed) (l : Nat) : Prop := ∃ vs, σ[l]? = some (.list vs) ∧ All2 (Dd σ M) row vs
theorem Rw.gr {σ σ' : H} {M M' : List Nat} (g : Gr σ σ') (hm : ∀ l, l < σ.length → l ∉ M → l ∉ M') {row : List Deed} {l : Nat} (h : Rw σ M row l) : Rw σ' M' row l := let ⟨vs, h1, h2⟩ := h; ⟨vs, g.at h1, h2.imp fun _ _ x => x.gr g hm⟩
theorem Rw.fr {σ σ' : H} {M M' : List Nat} {m : Nat} (hmM : m ∈ M) (hk : ∀ i o, i ≠ m → σ[i]? = some o → σ'[i]? = some o) (hm : ∀ l, l < σ.length → l ∉ M → l ∉ M') {row : List Deed} {l : Nat} (hl : l ≠ m) (h : Rw σ M row l) : Rw σ' M' row l :=
  let ⟨vs, h1, h2⟩ := h; ⟨vs, hk l _ hl h1, h2.imp fun _ _ x => x.fr hmM hk hm⟩
theorem set_at {σ : H} {m : Nat} (o : O) : ∀ i x, i ≠ m → σ[i]? = some x → (σ.set m o)[i]? = some x := fun i x h e => by rw [List.getElem?_set_ne (Ne.symm h)]; exact e
theorem set_self {σ : H} {m : Nat} (h : m < σ.length) (o : O) : (σ.set m o)[m]? = some o := List.getElem?_set_self h
theorem All2.mem {α β : Type} {R R' : α → β → Prop} : ∀ {as : List α} {bs : List β}, All2 R as bs → (∀ a b, b ∈ bs → R a b → R' a b) → All2 R' as bs
  | [], _, h, _ => h
  | a :: as, _, ⟨b, r, e, h1, h⟩, hi => ⟨b, r, e, hi a b (e ▸ List.mem_cons_self) h1, h.mem fun a' b' hb => hi a' b' (e ▸ List.mem_cons_of_mem _ hb)⟩
theorem All2.snoc {α β : Type} {R : α → β → Prop} : ∀ {as : List α} {bs : List β} {a : α} {b : β}, All2 R as bs → R a b → All2 R (as ++ [a]) (bs ++ [b])
  | [], _, a, b, h, hr => by rw [show _ = [] from h]; exact ⟨b, [], rfl, hr, rfl⟩
  | x :: as, _, a, b, ⟨y, r, e, h1, h⟩, hr => ⟨y, r ++ [b], by rw [e]; rfl, h1, h.snoc hr⟩

/-- the rows that are being made: the list of rows at `a`, what is left at `b`, the writes at `p`, the row under way at `c`, the rows done at `is` -/
structure HI (σ σ' : H) (a b p c : Nat) (is : List Nat) (dn : List (List Deed)) (cur : List Deed) (left : Kv) (ws : Ws) : Prop where
  g : Gr σ σ'
  nd : (a :: b :: p :: c :: is).Nodup
  lo : ∀ m ∈ a :: b :: p :: c :: is, σ.length ≤ m ∧ m < σ'.length
  outer : σ'[a]? = some (.list (is.map V.ref ++ [.ref c]))
  rows : All2 (Rw σ' (a :: b :: p :: c :: is)) dn is
  cur : Rw σ' (a :: b :: p :: c :: is) cur c
  left : σ'[b]? = some (.dict left)
  puts : σ'[p]? = some (.list (wV ws))
section
variable {σ σ' σ₁ : H} {a b p c : Nat} {is : List Nat} {dn : List (List Deed)} {cur : List Deed} {left left' : Kv} {ws ws' : Ws}
theorem HI.grow (h : HI σ σ' a b p c is dn cur left ws) (g : Gr σ' σ₁) : HI σ σ₁ a b p c is dn cur left ws :=
  ⟨h.g.tr g, h.nd, fun m hm => ⟨(h.lo m hm).1, Nat.lt_of_lt_of_le (h.lo m hm).2 g.length_le⟩, g.at h.outer, h.rows.imp fun _ _ x => x.gr g fun _ _ q => q, h.cur.gr g fun _ _ q => q, g.at h.left, g.at h.puts⟩
theorem nd4 {a b p c : Nat} {is : List Nat} (h : (a :: b :: p :: c :: is).Nodup) : a ≠ b ∧ a ≠ p ∧ a ≠ c ∧ b ≠ p ∧ b ≠ c ∧ p ≠ c ∧ (∀ i ∈ is, i ≠ a ∧ i ≠ b ∧ i ≠ p ∧ i ≠ c) := by
  obtain ⟨h1, h⟩ := List.nodup_cons.mp h
  obtain ⟨h2, h⟩ := List.nodup_cons.mp h
  obtain ⟨h3, h⟩ := List.nodup_cons.mp h
  obtain ⟨h4, h⟩ := List.nodup_cons.mp h
  simp only [List.mem_cons, not_or] at h1 h2 h3
  exact ⟨h1.1, h1.2.1, h1.2.2.1, h2.1, h2.2.1, h3.1, fun i hi => ⟨fun e => h1.2.2.2 (e ▸ hi), fun e => h2.2.2 (e ▸ hi), fun e => h3.2 (e ▸ hi), fun e => h4 (e ▸ hi)⟩⟩
/-- a deed is put behind the row under way -/
theorem HI.deed (h : HI σ σ' a b p c is dn cur left ws) {d : Deed} {v : V} (hd : Dd σ' (a :: b :: p :: c :: is) d v) : ∃ vs, σ'[c]? = some (.list vs) ∧ vs.length = cur.length ∧ HI σ (σ'.set c (.list (vs ++ [v]))) a b p c is dn (cur ++ [d]) left ws := by
  obtain ⟨n1, n2, n3, n4, n5, n6, n7⟩ := nd4 h.nd
  obtain ⟨vs, e1, e2⟩ := h.cur
  have hc : c ∈ a :: b :: p :: c :: is := .tail _ (.tail _ (.tail _ (.head _)))
  have fr := set_at (σ := σ') (m := c) (.list (vs ++ [v]))
  refine ⟨vs, e1, e2.len.symm, Gr.set h.g (h.lo c hc).1 _, h.nd, fun m hm => ⟨(h.lo m hm).1, by rw [List.length_set]; exact (h.lo m hm).2⟩, fr _ _ n3 h.outer, h.rows.mem fun row l hl x => x.fr hc fr (fun _ _ q => q) (n7 l hl).2.2.2, ⟨_, set_self (h.lo c hc).2 _, ?_⟩, fr _ _ n5 h.left, fr _ _ n6 h.puts⟩
  exact (e2.snoc hd).imp fun _ _ x => x.fr hc fr fun _ _ q => q
/-- the writes change -/
theorem HI.put (h : HI σ σ' a b p c is dn cur left ws) : HI σ (σ'.set p (.list (wV ws'))) a b p c is dn cur left ws' := by
  obtain ⟨n1, n2, n3, n4, n5, n6, n7⟩ := nd4 h.nd
  have hp : p ∈ a :: b :: p :: c :: is := .tail _ (.tail _ (.head _))
  have fr := set_at (σ := σ') (m := p) (.list (wV ws'))
  exact ⟨Gr.set h.g (h.lo p hp).1 _, h.nd, fun m hm => ⟨(h.lo m hm).1, by rw [List.length_set]; exact (h.lo m hm).2⟩, fr _ _ n2 h.outer, h.rows.mem fun row l hl x => x.fr hp fr (fun _ _ q => q) (n7 l hl).2.2.1, h.cur.fr hp fr (fun _ _ q => q) (Ne.symm n6), fr _ _ n4 h.left, set_self (h.lo p hp).2 _⟩
theorem HI.left_ (h : HI σ σ' a b p c is dn cur left ws) : HI σ (σ'.set b (.dict left')) a b p c is dn cur left' ws := by
  obtain ⟨n1, n2, n3, n4, n5, n6, n7⟩ := nd4 h.nd
  have hb : b ∈ a :: b :: p :: c :: is := .tail _ (.head _)
  have fr := set_at (σ := σ') (m := b) (.dict left')
  exact ⟨Gr.set h.g (h.lo b hb).1 _, h.nd, fun m hm => ⟨(h.lo m hm).1, by rw [List.length_set]; exact (h.lo m hm).2⟩, fr _ _ n1 h.outer, h.rows.mem fun row l hl x => x.fr hb fr (fun _ _ q => q) (n7 l hl).2.1, h.cur.fr hb fr (fun _ _ q => q) (Ne.symm n5), set_self (h.lo b hb).2 _, fr _ _ (Ne.symm n4) h.puts⟩
/-- other writes, at a new place -/
theorem HI.newp (h : HI σ σ' a b p c is dn cur left ws) : HI σ (σ' ++ [.list (wV ws')]) a b σ'.length c is dn cur left ws' := by
  have g := Gr.app σ' [.list (wV ws')]
  have lt : ∀ m ∈ a :: b :: p :: c :: is, m ≠ σ'.length := fun m hm => Nat.ne_of_lt (h.lo m hm).2
  have la := lt a (.head _)
  have lb := lt b (.tail _ (.head _))
  have lc := lt c (.tail _ (.tail _ (.tail _ (.head _))))
  have li : ∀ i ∈ is, i ≠ σ'.length := fun i hi => lt i (.tail _ (.tail _ (.tail _ (.tail _ hi))))
  have hm : ∀ l, l < σ'.length → l ∉ a :: b :: p :: c :: is → l ∉ a :: b :: σ'.length :: c :: is := fun l hl q => by
    simp only [List.mem_cons, not_or] at q ⊢
    exact ⟨q.1, q.2.1, Nat.ne_of_lt hl, q.2.2.2.1, q.2.2.2.2⟩
  have nd : (a :: b :: σ'.length :: c :: is).Nodup := by
    have := h.nd
    simp only [List.nodup_cons, List.mem_cons, not_or] at this ⊢
    obtain ⟨⟨a1, a2, a3, a4⟩, ⟨b1, b2, b3⟩, ⟨c1, c2⟩, d1, d2⟩ := this
    exact ⟨⟨a1, la, a3, a4⟩, ⟨lb, b2, b3⟩, ⟨Ne.symm lc, fun q => li _ q rfl⟩, d1, d2⟩
  refine ⟨h.g.tr g, nd, fun m q => ?_, g.at h.outer, h.rows.imp fun _ _ x => x.gr g hm, h.cur.gr g hm, g.at h.left, at_new _ _⟩
  rw [List.length_append]
  show _ ∧ m < σ'.length + 1
  by_cases e : m = σ'.length
  · subst e; exact ⟨h.g.length_le, Nat.lt_succ_self _⟩
  · have q' : m ∈ a :: b :: p :: c :: is := by
      simp only [List.mem_cons] at q ⊢
      rcases q with q | q | q | q | q
      · exact .inl q
      · exact .inr (.inl q)
      · exact absurd q e
      · exact .inr (.inr (.inr (.inl q)))
      · exact .inr (.inr (.inr (.inr q)))
    exact ⟨(h.lo m q').1, Nat.lt_succ_of_lt (h.lo m q').2⟩
/-- a new row begins -/
theorem HI.turn (h : HI σ σ' a b p c is dn cur left ws) : HI σ ((σ' ++ [O.list []]).set a (O.list ((is.map V.ref ++ [V.ref c]) ++ [V.ref σ'.length]))) a b p σ'.length (is ++ [c]) (dn ++ [cur]) [] left ws := by
  obtain ⟨n1, n2, n3, n4, n5, n6, n7⟩ := nd4 h.nd
  have g := Gr.app σ' [O.list []]
  have lt : ∀ m ∈ a :: b :: p :: c :: is, m ≠ σ'.length := fun m hm => Nat.ne_of_lt (h.lo m hm).2
  have la := lt a (.head _)
  have lb := lt b (.tail _ (.head _))
  have lp := lt p (.tail _ (.tail _ (.head _)))
  have lc := lt c (.tail _ (.tail _ (.tail _ (.head _))))
  have li : ∀ i ∈ is, i ≠ σ'.length := fun i hi => lt i (.tail _ (.tail _ (.tail _ (.tail _ hi))))
  have fr := set_at (σ := σ' ++ [O.list []]) (m := a) (.list ((is.map V.ref ++ [.ref c]) ++ [.ref σ'.length]))
  have hm : ∀ l, l < σ'.length → l ∉ a :: b :: p :: c :: is → l ∉ a :: b :: p :: σ'.length :: (is ++ [c]) := fun l hl q => by
    simp only [List.mem_cons, List.mem_append, List.mem_singleton, List.not_mem_nil, or_false, not_or] at q ⊢
    exact ⟨q.1, q.2.1, q.2.2.1, Nat.ne_of_lt hl, q.2.2.2.2, q.2.2.2.1⟩
  have ha : a ∈ a :: b :: p :: σ'.length :: (is ++ [c]) := .head _
  have hal : a < (σ' ++ [O.list []]).length := by rw [List.length_append]; exact Nat.lt_succ_of_lt (h.lo a (.head _)).2
  have nd : (a :: b :: p :: σ'.length :: (is ++ [c])).Nodup := by
    have := h.nd
    simp only [List.nodup_cons, List.mem_cons, not_or] at this
    obtain ⟨⟨a1, a2, a3, a4⟩, ⟨b1, b2, b3⟩, ⟨c1, c2⟩, d1, d2⟩ := this
    simp only [List.nodup_cons, List.mem_cons, List.mem_append, List.mem_singleton, List.not_mem_nil, or_false, not_or]
    refine ⟨⟨a1, a2, la, a4, a3⟩, ⟨b1, lb, b3, b2⟩, ⟨lp, c2, c1⟩, ⟨fun q => li _ q rfl, Ne.symm lc⟩, ?_⟩
    exact List.nodup_append.mpr ⟨d2, List.pairwise_singleton _ _, fun x hx y hy e => d1 (by rw [List.mem_singleton.mp hy] at e; exact e ▸ hx)⟩
  refine ⟨Gr.set (h.g.tr g) (h.lo a (.head _)).1 _, nd, fun m q => ?_, ?_, ?_, ⟨[], fr _ _ (Ne.symm la) (at_new _ _), rfl⟩, fr _ _ (Ne.symm n1) (g.at h.left), fr _ _ (Ne.symm n2) (g.at h.puts)⟩
  · rw [List.length_set, List.length_append]
    show _ ∧ m < σ'.length + 1
    by_cases e : m = σ'.length
    · subst e; exact ⟨h.g.length_le, Nat.lt_succ_self _⟩
    · have q' : m ∈ a :: b :: p :: c :: is := by
        simp only [List.mem_cons, List.mem_append, List.not_mem_nil, or_false] at q ⊢
        rcases q with q | q | q | q | q | q
        · exact .inl q
        · exact .inr (.inl q)
        · exact .inr (.inr (.inl q))
        · exact absurd q e
        · exact .inr (.inr (.inr (.inr q)))
        · exact .inr (.inr (.inr (.inl q)))
      exact ⟨(h.lo m q').1, Nat.lt_succ_of_lt (h.lo m q').2⟩
  · rw [set_self hal, List.map_append]; rfl
  · exact ((h.rows.mem fun row l hl x => (x.gr g hm).fr ha fr (fun _ _ q => q) (n7 l hl).1)).snoc ((h.cur.gr g hm).fr ha fr (fun _ _ q => q) (Ne.symm n3))
end
end Mine.L03

set_option maxRecDepth 100000
set_option linter.all false
namespace Mine.L03
open PySem Mine Mine.P

/-- what the rows made so far mean -/
structure SI (dn : List (List Deed)) (cur : List Deed) (left : Kv) (ws : Ws) (i : Nat) : Prop where
  wk : walkD [] dn = some left
  dw : doneD left [] cur = some ws
  vd : Vd left
  kb : Kb left
  wb : Wb ws
  ll : left.length ≤ tot dn
  wl : ws.length ≤ cur.length
  n : tot dn + cur.length = i
  sm : ∀ r ∈ dn, ∀ d ∈ r, Small d
  sc : ∀ d ∈ cur, Small d
theorem tot_snoc (dn : List (List Deed)) (cur : List Deed) : tot (dn ++ [cur]) = tot dn + cur.length := by rw [tot_app]; rfl
theorem told_len (P : Kv) (h : List Nat) : (told P h).length ≤ P.length := by
  unfold told
  refine Nat.le_trans (List.length_filterMap_le _ _) ?_
  rw [sort_len, keysOf, List.length_map]; exact Nat.le_refl _
theorem told_mem {P : Kv} {h : List Nat} {q : List Nat × Int} (hq : q ∈ told P h) : q.1 ∈ keysOf P := by
  obtain ⟨n, hn, e⟩ := List.mem_filterMap.mp hq
  unfold tells at e
  split at e
  · split at e
    · cases e; exact mem_sort lexLe _ _ hn
    · cases e
  · cases e
theorem SI.deed {dn : List (List Deed)} {cur : List Deed} {left : Kv} {ws ws' : Ws} {i : Nat} (h : SI dn cur left ws i) (hi : i < 64) {d : Deed} (hf : Fits left ws d) (hs : stepD left ws d = some ws') (hw : Wb ws') (hl : ws'.length ≤ ws.length + 1) : SI dn (cur ++ [d]) left ws' (i + 1) := by
  have n := h.n
  refine ⟨h.wk, ?_, h.vd, h.kb, hw, h.ll, by rw [List.length_append]; have := h.wl; show _ ≤ _ + 1; (first | lia | omega), by rw [List.length_append]; show _ + (_ + 1) = _; (first | lia | omega), h.sm, fun e he => ?_⟩
  · rw [doneD_app, h.dw]
    show (stepD left ws d).bind some = _
    rw [hs]; rfl
  · rcases List.mem_append.mp he with q | q
    · exact h.sc e q
    · rw [List.mem_singleton.mp q]
      cases d with
      | under hd ps =>
        have e : told (put left ws) hd = ps := hf
        show ps.length ≤ 100 ∧ _
        rw [← e]
        refine ⟨?_, fun q hq => h.kb.put h.wb _ (told_mem hq)⟩
        have := told_len (put left ws) hd
        have := put_len ws left
        have := h.ll
        have := h.wl
        (first | lia | omega)
      | _ => trivial
theorem SI.turn {dn : List (List Deed)} {cur : List Deed} {left : Kv} {ws : Ws} {i : Nat} (h : SI dn cur left ws i) : SI (dn ++ [cur]) [] (put left ws) [] i := by
  have := put_len ws left
  have a := h.ll
  have b := h.wl
  have c := h.n
  have e := tot_snoc dn cur
  refine ⟨?_, rfl, h.vd.put ws, h.kb.put h.wb, (fun _ q => nomatch q), by (first | lia | omega), Nat.le_refl _, by show tot (dn ++ [cur]) + 0 = i; (first | lia | omega), fun r hr => ?_, fun _ q => nomatch q⟩
  · rw [walkD_app, h.wk]
    show (doneD left [] cur).bind (fun w => some (put left w)) = _
    rw [h.dw]; rfl
  · rcases List.mem_append.mp hr with q | q
    · exact h.sm r q
    · rw [List.mem_singleton.mp q]; exact h.sc
section
variable {ns : List Int} {C : Calls} {σ σ' σ₁ : H}
theorem idxLast {l : Nat} {xs : List V} {v : V} (hl : σ[l]? = some (.list (xs ++ [v]))) : idxV ns (.ref l) (.int (-1)) σ = .ok v σ := by
  show onL l (fun xs => pick ((idxN (-1) xs.length).bind (xs[·]?))) σ = _
  rw [onL_ok hl]
  have e : idxN (-1) (xs ++ [v]).length = some xs.length := by
    unfold idxN
    rw [List.length_append, if_neg (by decide)]
    show (if (0 : Int) ≤ -1 + ((xs.length + 1 : Nat) : Int) then some (-1 + ((xs.length + 1 : Nat) : Int)).toNat else .none) = _
    rw [if_pos (by (first | lia | omega))]
    congr 1
    (first | lia | omega)
  rw [e, Option.bind_some, List.getElem?_append_right (Nat.le_refl _), Nat.sub_self]; rfl
structure Rk (C : Calls) : Prop where
  hn : C.hn = true
  mixed : ∀ x σ, ∃ y : Int, C.call 12 [.int x] σ = .ok (.int y) σ
  last : ∀ {l : Nat} {ws : Ws} {σ : H}, σ[l]? = some (.list (wV ws)) → ws.length ≤ 100 → C.call 19 [.ref l] σ = .ok (.ref σ.length) (σ ++ [.dict (put [] ws)])
  deed : ∀ {dl lp lq : Nat} {left : Kv} {ws : Ws} {xs : List V} {σ : H}, σ[dl]? = some (.dict left) → σ[lp]? = some (.list (wV ws)) → σ[lq]? = some (.list xs) → Vd left → Kb left → Wb ws → left.length + ws.length < 64 → xs ≠ [] → xs.length ≤ 200 → allN xs → ∀ more cell : Int,
    ∃ d v σ', C.call 21 [.ref dl, .ref lp, .ref lq, .int more, .int cell] σ = .ok v σ' ∧ Gr σ σ' ∧ DR σ' d v ∧ Fits left ws d ∧ DF (σ.length ≤ ·) v
noncomputable def RI (σ : H) (lc lq : Nat) (i : Nat) (ρ : Env) (σ' : H) : Prop := ∃ (a b p c : Nat) (is : List Nat) (dn : List (List Deed)) (cur : List Deed) (left : Kv) (ws : Ws) (o5 o6 o7 o8 : Option V), ρ = [some (.ref lc), some (.ref lq), some (.ref a), some (.ref b), some (.ref p), o5, o6, o7, o8] ∧ HI σ σ' a b p c is dn cur left ws ∧ SI dn cur left ws i ∧ is.length ≤ i
/-- what is left takes the writes -/
theorem flush_ok (K : Rk C) {a b p c : Nat} {is : List Nat} {dn : List (List Deed)} {cur : List Deed} {left : Kv} {ws : Ws} {i : Nat} {lc lq : Nat} {o5 o6 o7 o8 : Option V} (h : HI σ σ' a b p c is dn cur left ws) (s : SI dn cur left ws i) (hi : i < 64) :
    ∃ σ'', Ev ns C [some (.ref lc), some (.ref lq), some (.ref a), some (.ref b), some (.ref p), o5, o6, o7, o8] (.me (.var 3) .update [(.call 19 [(.var 4)])]) σ' .none σ'' ∧ HI σ σ'' a b p c is dn cur (put left ws) ws := by
  have hlim : lim = 16777216 := rfl
  have pl := put_len ws []
  have pl2 := put_len ws left
  have h0 : ([] : Kv).length = 0 := rfl
  have := s.ll
  have := s.wl
  have := s.n
  have g := Gr.app σ' [O.dict (put [] ws)]
  have hu := updD (σ := σ' ++ [O.dict (put [] ws)]) (g.at h.left) (at_new σ' (.dict (put [] ws))) (Nat.ne_of_gt (h.lo b (.tail _ (.head _))).2) (by (first | lia | omega)) (by rw [dputs_put]; (first | lia | omega))
  rw [dputs_put] at hu
  exact ⟨_, e_me rfl (kD h.left rfl) (es_one (e_call rfl (K.last h.puts (by (first | lia | omega))))) hu, (h.grow g).left_⟩
theorem tail_ok (K : Rk C) {a b p c : Nat} {is : List Nat} {dn : List (List Deed)} {cur : List Deed} {left : Kv} {ws : Ws} {i : Nat} {lc lq : Nat} {o5 o6 o8 : Option V} {y : Int} (h : HI σ σ' a b p c is dn cur left ws) (s : SI dn cur left ws i) (hi : i < 64) (hil : is.length + 1 ≤ i) :
    ∃ ρ' σ'', evSs ns C [some (.ref lc), some (.ref lq), some (.ref a), some (.ref b), some (.ref p), o5, o6, some (.int y), o8] σ' [.ite (.cmp .eq (.bin .mod (.bin .fdiv (.var 7) (.lit (V.int 2048))) (.lit (V.int 9))) (.lit (V.int 0))) [.expr (.me (.var 3) .update [(.call 19 [(.var 4)])]), .assign 4 (.list []), .expr (.me (.var 2) .append [(.list [])])] []] = .ok .next ρ' σ'' ∧ RI σ lc lq i ρ' σ'' := by
  have hlim : lim = 16777216 := rfl
  have q : Ev ns C [some (.ref lc), some (.ref lq), some (.ref a), some (.ref b), some (.ref p), o5, o6, some (.int y), o8] (.cmp .eq (.bin .mod (.bin .fdiv (.var 7) (.lit (V.int 2048))) (.lit (V.int 9))) (.lit (V.int 0))) σ' (.bool (decide ((y.fdiv 2048).fmod 9 = 0))) σ' := e_cmp rfl rfl (eqI _ _)
  by_cases hq : (y.fdiv 2048).fmod 9 = 0
  · obtain ⟨σ1, e1, h1⟩ := flush_ok (ns := ns) (lc := lc) (lq := lq) (o5 := o5) (o6 := o6) (o7 := some (.int y)) (o8 := o8) K h s hi
    have h2 := h1.newp (ws' := [])
    have h3 := h2.turn
    refine ⟨_, _, s_ifT (q.trans (by rw [decide_eq_true hq])) (after_next (s_expr e1 (s_assign (e_list es_nil (Nat.zero_le _)) rfl (s_expr (e_me rfl (kL h2.outer rfl) (es_one (e_list es_nil (Nat.zero_le _))) (appL ((Gr.app _ _).at h2.outer) ?_)) ss_nil))) ss_nil), a, b, _, _, _, _, _, _, _, _, _, _, _, rfl, h3, s.turn, by rw [List.length_append]; exact hil⟩
    rw [List.length_append, List.length_map]; show _ + 1 + 1 ≤ lim; (first | lia | omega)
  · exact ⟨_, _, s_ifF (q.trans (by rw [decide_eq_false hq])) ss_nil, a, b, p, c, is, dn, cur, left, ws, _, _, _, _, rfl, h, s, by (first | lia | omega)⟩
noncomputable def rT : List S := [.ite (.cmp .eq (.idx (.var 8) (.lit (V.int 0))) (.lit (V.str [119, 114, 105, 116, 101]))) [.expr (.me (.var 4) .append [(.tup [(.idx (.var 8) (.lit (V.int 1))), (.idx (.var 8) (.lit (V.int 2)))])])] [],
          .ite (.cmp .eq (.idx (.var 8) (.lit (V.int 0))) (.lit (V.str [98, 97, 99, 107]))) [.assign 4 (.slice (.var 4) .nil (.idx (.var 8) (.lit (V.int 1))))] [],
          .ite (.cmp .eq (.bin .mod (.bin .fdiv (.var 7) (.lit (V.int 2048))) (.lit (V.int 9))) (.lit (V.int 0))) [.expr (.me (.var 3) .update [(.call 19 [(.var 4)])]), .assign 4 (.list []), .expr (.me (.var 2) .append [(.list [])])] []]
noncomputable def rB : List S := .assign 7 (.call 12 [(.bin .add (.var 6) (.bin .mul (.lit (V.int 131)) (.var 5)))]) :: .assign 8 (.call 21 [(.var 3), (.var 4), (.var 1), (.var 7), (.var 6)]) :: .expr (.me (.idx (.var 2) (.neg (.lit (V.int 1)))) .append [(.var 8)]) :: rT
theorem rows_ok (K : Rk C) {lc lq : Nat} {cs : List Int} {xs : List V} (hc : σ[lc]? = some (.list (cs.map V.int))) (hq : σ[lq]? = some (.list xs)) (hl : cs.length < 63) (hx : xs ≠ []) (hxl : xs.length ≤ 200) (hxn : allN xs) :
    ∃ (a b p c : Nat) (is : List Nat) (dn : List (List Deed)) (cur : List Deed) (left : Kv) (ws : Ws) (σ' : H), evF ns C f23_rows_by [.ref lc, .ref lq] σ = .ok (.tup [.ref a, .ref b]) σ' ∧ HI σ σ' a b p c is dn cur left ws ∧ SI (dn ++ [cur]) [] left [] cs.length ∧ is.length ≤ cs.length := by
  have hlim : lim = 16777216 := rfl
  let σ1 := σ ++ [O.list []]
  let σ2 := σ1 ++ [O.list [.ref σ.length]]
  let σ3 := σ2 ++ [O.dict []]
  let σ4 := σ3 ++ [O.list []]
  have g4 : Gr σ σ4 := ((Gr.app σ _).tr (Gr.app σ1 _)).tr ((Gr.app σ2 _).tr (Gr.app σ3 _))
  have l1 : σ1.length = σ.length + 1 := by show (σ ++ [_]).length = _; rw [List.length_append]; rfl
  have l2 : σ2.length = σ.length + 2 := by show (σ1 ++ [_]).length = _; rw [List.length_append, l1]; rfl
  have l3 : σ3.length = σ.length + 3 := by show (σ2 ++ [_]).length = _; rw [List.length_append, l2]; rfl
  have l4 : σ4.length = σ.length + 4 := by show (σ3 ++ [_]).length = _; rw [List.length_append, l3]; rfl
  have H0 : HI σ σ4 σ1.length σ2.length σ3.length σ.length [] [] [] [] [] := by
    refine ⟨g4, ?_, fun m hm => ?_, (Gr.app σ3 _).at ((Gr.app σ2 _).at (at_new σ1 _)), rfl, ⟨[], (Gr.app σ3 _).at ((Gr.app σ2 _).at ((Gr.app σ1 _).at (at_new σ _))), rfl⟩, (Gr.app σ3 _).at (at_new σ2 _), at_new σ3 _⟩
    · rw [l1, l2, l3]
      simp only [List.nodup_cons, List.mem_cons, List.not_mem_nil, or_false, not_or, not_false_eq_true, List.nodup_nil, and_true]
      (first | lia | omega)
    · rw [l1, l2, l3] at hm
      rw [l4]
      simp only [List.mem_cons, List.not_mem_nil, or_false] at hm
      (first | lia | omega)
  have S0 : SI [] [] [] [] 0 := ⟨rfl, rfl, .nil, .nil, (fun _ q => nomatch q), Nat.le_refl _, Nat.le_refl _, rfl, (fun _ q => nomatch q), fun _ q => nomatch q⟩
  obtain ⟨ρ', σ', L, a, b, p, c, is, dn, cur, left, ws, o5, o6, o7, o8, rfl, h, s, hil⟩ := for_all (tgt := tgtP 5 6) (body := fun ρ σ => evSs ns C ρ σ rB) (it := fun i => .enum lc i)
    (RI σ lc lq) (cs.map V.int).length (fun ρ σ' p => by obtain ⟨a, b, p, c, is, dn, cur, left, ws, o5, o6, o7, o8, rfl, h, s, hil⟩ := p; exact stop_enum (h.g.at hc))
    (fun i ρ σ' hi p => by
      obtain ⟨a, b, p, c, is, dn, cur, left, ws, o5, o6, o7, o8, rfl, h, s, hil⟩ := p
      have hi' : i < cs.length := by rw [List.length_map] at hi; exact hi
      have s1 := s.ll
      have s2 := s.wl
      have s3 := s.n
      have hci : (cs.map V.int)[i]? = some (.int cs[i]) := by rw [List.getElem?_map, List.getElem?_eq_getElem hi']; rfl
      obtain ⟨y, hy⟩ := K.mixed (cs[i] + 131 * (i : Int)) σ'
      obtain ⟨d, v, σ1, e1, g1, dr, ft, df⟩ := K.deed h.left h.puts (h.g.at hq) s.vd s.kb s.wb (by (first | lia | omega)) hx hxl hxn y cs[i]
      have h1 := h.grow g1
      have dd : Dd σ1 (a :: b :: p :: c :: is) d v := ⟨dr, df.imp fun l hl hm => absurd (h.lo l hm).2 (Nat.not_lt.mpr hl)⟩
      obtain ⟨vs, ev, vl, h2⟩ := h1.deed dd
      have P1 : ∀ {Res : RS}, evSs ns C [some (.ref lc), some (.ref lq), some (.ref a), some (.ref b), some (.ref p), some (.int i), some (.int cs[i]), some (.int y), some v] (σ1.set c (.list (vs ++ [v]))) rT = Res → evSs ns C [some (.ref lc), some (.ref lq), some (.ref a), some (.ref b), some (.ref p), some (.int i), some (.int cs[i]), o7, o8] σ' rB = Res := fun hr =>
        s_assign (e_call rfl hy) rfl (s_assign (e_call rfl e1) rfl (s_expr (e_me (e_idx rfl rfl (idxLast h1.outer)) (kL ev rfl) rfl (appL ev (by (first | lia | omega)))) hr))
      cases d with
      | read n t =>
        obtain rfl : v = _ := dr
        obtain ⟨ρ', σ'', et, ri⟩ := tail_ok (ns := ns) (lc := lc) (lq := lq) (o5 := some (.int i)) (o6 := some (.int cs[i])) (o8 := some (.tup [.str sRead, .str n, val t])) (y := y) K h2 (s.deed (by (first | lia | omega)) ft (if_pos ft) s.wb (Nat.le_succ _)) (by (first | lia | omega)) (by (first | lia | omega))
        exact ⟨_, _, _, _, next_enum (h.g.at hc) hci, rfl, P1 (s_ifF rfl (s_ifF rfl et)), ri⟩
      | under hh ps =>
        obtain ⟨lu, rfl, hlu⟩ := dr
        obtain ⟨ρ', σ'', et, ri⟩ := tail_ok (ns := ns) (lc := lc) (lq := lq) (o5 := some (.int i)) (o6 := some (.int cs[i])) (o8 := some (.tup [.str sUnder, .str hh, .ref lu])) (y := y) K h2 (s.deed (by (first | lia | omega)) ft (if_pos ft) s.wb (Nat.le_succ _)) (by (first | lia | omega)) (by (first | lia | omega))
        exact ⟨_, _, _, _, next_enum (h.g.at hc) hci, rfl, P1 (s_ifF rfl (s_ifF rfl et)), ri⟩
      | write n t =>
        obtain rfl : v = _ := dr
        have hw : Wb (ws ++ [(n, t)]) := fun q hm => (List.mem_append.mp hm).elim (s.wb q) fun e => by rw [List.mem_singleton.mp e]; exact ft
        have h3 := h2.put (ws' := ws ++ [(n, t)])
        obtain ⟨ρ', σ'', et, ri⟩ := tail_ok (ns := ns) (lc := lc) (lq := lq) (o5 := some (.int i)) (o6 := some (.int cs[i])) (o8 := some (.tup [.str sWrite, .str n, val t])) (y := y) K h3 (s.deed (by (first | lia | omega)) ft rfl hw (by rw [List.length_append]; exact Nat.le_refl _)) (by (first | lia | omega)) (by (first | lia | omega))
        have ea : wV (ws ++ [(n, t)]) = wV ws ++ [.tup [.str n, val t]] := List.map_append
        rw [ea] at et
        exact ⟨_, _, _, _, next_enum (h.g.at hc) hci, rfl, P1 (s_ifT rfl (after_next (s_expr (e_me rfl (kL h2.puts rfl) (es_one (e_tup rfl two_lim)) (appL h2.puts (by rw [wV, List.length_map]; (first | lia | omega)))) ss_nil) (s_ifF rfl et))), ri⟩
      | back k =>
        obtain rfl : v = _ := dr
        have hw : Wb (ws.take k) := fun q hm => s.wb q (List.mem_of_mem_take hm)
        have h3 := h2.newp (ws' := ws.take k)
        obtain ⟨ρ', σ'', et, ri⟩ := tail_ok (ns := ns) (lc := lc) (lq := lq) (o5 := some (.int i)) (o6 := some (.int cs[i])) (o8 := some (.tup [.str sBack, .int k])) (y := y) K h3 (s.deed (by (first | lia | omega)) ft rfl hw (by rw [List.length_take]; (first | lia | omega))) (by (first | lia | omega)) (by (first | lia | omega))
        have ea : cut (wV ws) .none (some (k : Int)) = wV (ws.take k) := by rw [cut_take]; unfold wV; rw [List.map_take]
        rw [← ea] at et
        exact ⟨_, _, _, _, next_enum (h.g.at hc) hci, rfl, P1 (s_ifF rfl (s_ifT rfl (after_next (s_assign (e_slice rfl rfl rfl (slL h2.puts (lo := .none) (hi := some (k : Int)) rfl rfl (by rw [wV, List.length_map]; (first | lia | omega)))) rfl ss_nil) et))), ri⟩)
    (cs.map V.int).length 0 [some (.ref lc), some (.ref lq), some (.ref σ1.length), some (.ref σ2.length), some (.ref σ3.length), .none, .none, .none, .none] σ4 (Nat.zero_add _) ⟨_, _, _, _, _, _, _, _, _, _, _, _, _, rfl, H0, S0, Nat.le_refl _⟩
  rw [List.length_map] at s hil
  obtain ⟨σ5, e5, h5⟩ := flush_ok (ns := ns) (lc := lc) (lq := lq) (o5 := o5) (o6 := o6) (o7 := o7) (o8 := o8) K h s (by (first | lia | omega))
  refine ⟨a, b, p, c, is, dn, cur, _, _, σ5, f_ret (fn := f23_rows_by) (vs := [.ref lc, .ref lq]) rfl (s_assign (e_list (es_one (e_list es_nil (Nat.zero_le _))) (by show 1 ≤ lim; (first | lia | omega))) rfl (s_assign (v := .ref σ2.length) (σ₁ := σ3) rfl rfl (s_assign (e_list es_nil (Nat.zero_le _)) rfl (s_forP K.hn (src_enum rfl (g4.at hc)) (after_next L (s_expr e5 (s_ret (e_tup rfl two_lim)))))))), h5, s.turn, hil⟩
end
end Mine.L03

set_option maxRecDepth 100000
set_option linter.all false
namespace Mine.L03
open PySem Mine Mine.P

theorem cut_map {α β : Type} (f : α → β) (xs : List α) (lo hi : Option Int) : cut (xs.map f) lo hi = (cut xs lo hi).map f := by
  unfold cut
  rw [List.length_map]
  dsimp only
  rw [List.map_take, List.map_drop]
/-- another deed of the same kind and name -/
noncomputable def Alt (d d' : Deed) : Prop := match d, d' with
  | .read n _, .read n' _ => n = n'
  | .under h _, .under h' ps => h = h' ∧ ps.length ≤ 300
  | _, _ => False
section
variable {ns : List Int} {C : Calls} {ρ : Env} {σ σ' σ₁ : H}
noncomputable def LQ (ns : List Int) (C : Calls) (ρ : Env) (e : E) (σ : H) (N : Nat) : Prop := ∃ l qs σ', Ev ns C ρ e σ (.ref l) σ' ∧ Gr σ σ' ∧ σ'[l]? = some (.list (pV qs)) ∧ qs.length ≤ N
noncomputable def LF (ns : List Int) (C : Calls) (ρ : Env) (e : E) (σ : H) (N : Nat) : Prop := ∃ l qs σ', Ev ns C ρ e σ (.ref l) σ' ∧ Gr σ σ' ∧ σ'[l]? = some (.list (pV qs)) ∧ qs.length ≤ N ∧ σ.length ≤ l
theorem LF.q {e : E} {N : Nat} (h : LF ns C ρ e σ N) : LQ ns C ρ e σ N := let ⟨l, qs, σ', a, b, c, d, _⟩ := h; ⟨l, qs, σ', a, b, c, d⟩
theorem LQ.add {a b : E} {M N : Nat} (h : LQ ns C ρ a σ M) (h' : ∀ σ', Gr σ σ' → LQ ns C ρ b σ' N) (hl : M + N ≤ lim) : LF ns C ρ (.bin .add a b) σ (M + N) := by
  obtain ⟨l, qs, σ1, e1, g1, a1, n1⟩ := h
  obtain ⟨l', qs', σ2, e2, g2, a2, n2⟩ := h' σ1 g1
  refine ⟨_, qs ++ qs', _, e_bin e1 e2 (addL (g2.at a1) a2 (by rw [pV_len, pV_len]; (first | lia | omega))), (g1.tr g2).tr (Gr.app _ _), ?_, by rw [List.length_append]; (first | lia | omega), (g1.tr g2).length_le⟩
  rw [at_new]; unfold pV; rw [List.map_append]
theorem LQ.sl {l : Nat} {ps : Ps} {a b : E} {x y : V} {lo hi : Option Int} {N : Nat} {e : E} (he : Ev ns C ρ e σ (.ref l) σ) (hl : σ[l]? = some (.list (pV ps))) (ha : Ev ns C ρ a σ x σ) (hb : Ev ns C ρ b σ y σ) (hx : optInt x = some lo) (hy : optInt y = some hi) (hn : ps.length ≤ N) (hN : N ≤ lim) : LQ ns C ρ (.slice e a b) σ N := by
  refine ⟨_, cut ps lo hi, _, e_slice he ha hb (slL hl hx hy (by rw [pV_len]; (first | lia | omega))), Gr.app _ _, ?_, Nat.le_trans (cut_len _ _ _) hn⟩
  rw [at_new]; unfold pV; rw [cut_map]
theorem LQ.one {t : E} {n : List Nat} {i : Int} (h : Ev ns C ρ t σ (.tup [.str n, .int i]) σ) : LQ ns C ρ (.list [t]) σ 1 :=
  ⟨_, [(n, i)], _, e_list (es_one h) (show 1 ≤ lim by decide), Gr.app _ _, at_new _ _, Nat.le_refl _⟩
theorem eqNil {a b : Nat} {xs : List V} (ha : σ[a]? = some (.list xs)) (hb : σ[b]? = some (.list [])) : cmpV .eq (.ref a) (.ref b) σ = .ok (.bool (decide (xs = []))) σ := by
  show (match veq eqD σ (.ref a) (.ref b) with | some r => R.ok (V.bool (r != false)) σ | .none => R.stuck) = _
  have r1 : row σ (.ref a) = some (false, xs) := by show (listAt σ a).map _ = _; rw [listAt_of ha]; rfl
  have r2 : row σ (.ref b) = some (false, []) := by show (listAt σ b).map _ = _; rw [listAt_of hb]; rfl
  have e : veq eqD σ (.ref a) (.ref b) = some (decide (xs = [])) := by
    show (match row σ (.ref a) with | some p => (match row σ (.ref b) with | some q => if p.1 = q.1 then (if p.2.length = q.2.length then veqs (veq 5 σ) p.2 q.2 else if p.1 then .none else some false) else .none | .none => .none) | .none => .none) = _
    rw [r1, r2]
    cases xs with
    | nil => rfl
    | cons x r => rfl
  rw [e]
  cases decide (xs = []) <;> rfl
theorem revL {l : Nat} {xs : List V} (hl : σ[l]? = some (.list xs)) (h : xs.length ≤ lim) : revV (.ref l) σ = .ok (.ref σ.length) (σ ++ [.list xs.reverse]) := by
  show onL l (fun xs => newL xs.reverse) σ = _
  rw [onL_ok hl, newL_ok (by rw [List.length_reverse]; exact h)]
theorem e_rev {a : E} {x v : V} {σ₂ : H} (hn : C.hn = true) (h1 : Ev ns C ρ a σ x σ₁) (h3 : revV x σ₁ = .ok v σ₂) : Ev ns C ρ (.listRev a) σ v σ₂ := bnd2 h1 (by rw [hn]; exact h3)

theorem spoiled_ok (hn : C.hn = true) {d : Deed} {v : V} (h : DR σ d v) (hk : (∃ n t, d = .read n t) ∨ ∃ h ps, d = .under h ps) (hs : Small d) (way : Int) :
    ∃ d' v' σ', evF ns C f22_spoiled [v, .int way] σ = .ok v' σ' ∧ Gr σ σ' ∧ DR σ' d' v' ∧ Alt d d' ∧ DF (σ.length ≤ ·) v' := by
  have hlim : lim = 16777216 := rfl
  rcases hk with ⟨n, t, rfl⟩ | ⟨hh, ps, rfl⟩
  · obtain rfl : v = _ := h
    let σ1 := σ ++ [O.list [.int 5, .none]]
    have c : ∀ q : Bool, Ev ns C [some (.tup [.str sRead, .str n, val t]), some (.int way), .none, .none, .none] (.cmp .eq (.bin .mod (.var 1) (.lit (V.int 2))) (.lit (V.int 0))) σ1 (.bool (decide (way.fmod 2 = 0))) σ1 := fun _ => e_cmp rfl rfl (eqI _ _)
    have c1 : Ev ns C [some (.tup [.str sRead, .str n, val t]), some (.int way), .none, .none, .none] (.cmp .isnt (.idx (.var 0) (.lit (V.int 2))) (.lit V.none)) σ1 (.bool (!isNoneV (val t))) σ1 := rfl
    have cb := and2 c1 (c true)
    have key : ∀ b : Bool, Ev ns C [some (.tup [.str sRead, .str n, val t]), some (.int way), .none, .none, .none] (.and [(.cmp .isnt (.idx (.var 0) (.lit (V.int 2))) (.lit V.none)), (.cmp .eq (.bin .mod (.var 1) (.lit (V.int 2))) (.lit (V.int 0)))]) σ1 (.bool b) σ1 → ∃ t', Ev ns C [some (.tup [.str sRead, .str n, val t]), some (.int way), .none, .none, .none] (.idx (.list [(.lit (V.int 5)), (.lit V.none)]) (.bi .int (.and [(.cmp .isnt (.idx (.var 0) (.lit (V.int 2))) (.lit V.none)), (.cmp .eq (.bin .mod (.var 1) (.lit (V.int 2))) (.lit (V.int 0)))]))) σ (val t') σ1 := fun b hb => by
      cases b with
      | true => exact ⟨.none, e_idx (e_list rfl two_lim) (e_bi hn hb rfl) (idxL (at_new σ _) (by decide) rfl)⟩
      | false => exact ⟨some 5, e_idx (e_list rfl two_lim) (e_bi hn hb rfl) (idxL (at_new σ _) (by decide) rfl)⟩
    obtain ⟨t', ht'⟩ := key _ cb
    exact ⟨.read n t', _, σ1, f_ret (fn := f22_spoiled) (vs := [.tup [.str sRead, .str n, val t], .int way]) rfl (s_ifT rfl (after_end (s_ret (e_tup (es_three rfl rfl ht') (by show 3 ≤ lim; (first | lia | omega)))))), Gr.app _ _, rfl, rfl, DF.val⟩
  · obtain ⟨l, rfl, hl⟩ := h
    obtain ⟨hs, hnm⟩ : ps.length ≤ 100 ∧ ∀ q ∈ ps, q.1.length ≤ 32 := hs
    let D : V := .tup [.str sUnder, .str hh, .ref l]
    let σ1 := σ ++ [O.list (pV ps)]
    let σ2 := σ1 ++ [O.list []]
    have g2 : Gr σ σ2 := (Gr.app σ _).tr (Gr.app σ1 _)
    have hp2 : σ2[σ.length]? = some (.list (pV ps)) := (Gr.app σ1 _).at (at_new σ _)
    have e2 : Ev ns C [some D, some (.int way), .none, .none, .none] (.bi .list (.idx (.var 0) (.lit (V.int 2)))) σ (.ref σ.length) σ1 := e_bi hn rfl (listL hl (by rw [pV_len]; (first | lia | omega)))
    let ρ1 : Env := [some D, some (.int way), some (.ref σ.length), .none, .none]
    have cN : Ev ns C ρ1 (.cmp .eq (.var 2) (.list [])) σ1 (.bool (decide (pV ps = []))) σ2 := e_cmp rfl (e_list es_nil (Nat.zero_le _)) (eqNil hp2 (at_new σ1 _))
    let Out : RS → Prop := fun X => ∃ d' v' ρ'' σ'', X = .ok (.ret v') ρ'' σ'' ∧ Gr σ σ'' ∧ DR σ'' d' v' ∧ Alt (.under hh ps) d' ∧ DF (σ.length ≤ ·) v'
    have of : ∀ {X Y : RS}, X = Y → Out Y → Out X := fun e h => e ▸ h
    have aft : ∀ {X : RS} {r : List S}, Out X → Out (after ns C r X) := fun ⟨d', v', ρ'', σ'', e, k⟩ => ⟨d', v', ρ'', σ'', after_end e, k⟩
    have fin : ∀ {ρ' : Env} {e : E} {σ' : H} {r : List S} {N : Nat}, ρ'[0]? = some (some D) → Gr σ σ' → LF ns C ρ' e σ' N → N ≤ 300 → Out (evSs ns C ρ' σ' (.ret (.tup [(.lit (V.str [117, 110, 100, 101, 114])), (.idx (.var 0) (.lit (V.int 1))), e]) :: r)) := fun {ρ'} {e} {σ'} {r} {N} h0 g hf hN => by
      obtain ⟨l', qs, σ3, e3, g3, a3, n3, f3⟩ := hf
      have ev0 : Ev ns C ρ' (.idx (.var 0) (.lit (V.int 1))) σ' (.str hh) σ' := e_idx (x := D) (by show (match ρ'[0]? with | some (some v) => M.ret v | _ => stuck) σ' = _; rw [h0]; rfl) rfl rfl
      exact ⟨.under hh qs, _, _, σ3, s_ret (e_tup (es_three rfl ev0 e3) (by show 3 ≤ lim; (first | lia | omega))), g.tr g3, ⟨l', rfl, a3⟩, ⟨rfl, by (first | lia | omega)⟩, DF.ref (Nat.le_trans g.length_le f3)⟩
    suffices ho : Out (evSs ns C [some D, some (.int way), .none, .none, .none] σ f22_spoiled.body) by
      obtain ⟨d', v', ρ'', σ'', e, r⟩ := ho
      exact ⟨d', v', σ'', f_ret (fn := f22_spoiled) (vs := [D, .int way]) rfl e, r⟩
    have q : ∀ (o o' : Option V) (k : Int), Ev ns C [some D, some (.int way), some (.ref σ.length), o, o'] (.cmp .eq (.bin .mod (.var 1) (.lit (V.int 7))) (.lit (V.int k))) σ2 (.bool (decide (way.fmod 7 = k))) σ2 := fun _ _ _ => e_cmp rfl rfl (eqI _ _)
    have L0 : LF ns C ρ1 (.bin .add (.var 2) (.list [(.tup [(.lit (V.str [122, 122])), (.lit (V.int 7))])])) σ2 (ps.length + 1) := LQ.add ⟨_, ps, σ2, rfl, Gr.rfl, hp2, Nat.le_refl _⟩ (fun σ' _ => LQ.one rfl) (by (first | lia | omega))
    by_cases hps : pV ps = []
    · exact of (s_ifF rfl (s_assign e2 rfl (s_ifT (orT (cN.trans (by rw [decide_eq_true hps]))) rfl))) (aft (fin rfl g2 L0 (by (first | lia | omega))))
    · have cF := cN.trans (by rw [decide_eq_false hps])
      by_cases h0 : way.fmod 7 = 0
      · exact of (s_ifF rfl (s_assign e2 rfl (s_ifT (orF cF (or1 ((q _ _ 0).trans (by rw [decide_eq_true h0])))) rfl))) (aft (fin rfl g2 L0 (by (first | lia | omega))))
      · have hpl : 0 < ps.length := by
          rw [← pV_len]; exact List.length_pos_iff.mpr hps
        obtain ⟨m1, m2⟩ := fmod_lt (way.fdiv 7) (y := (pV ps).length) (by rw [pV_len]; (first | lia | omega))
        rw [pV_len] at m1 m2
        have hat : ((way.fdiv 7).fmod ps.length).toNat < ps.length := by (first | lia | omega)
        let at_ := (way.fdiv 7).fmod ps.length
        let pr := ps[at_.toNat]
        have hpr : pr.1.length ≤ 32 := hnm _ (List.getElem_mem hat)
        let ρ2 : Env := [some D, some (.int way), some (.ref σ.length), some (.int at_), some (.tup [.str pr.1, .int pr.2])]
        have e3 : Ev ns C [some D, some (.int way), some (.ref σ.length), .none, .none] (.bin .mod (.bin .fdiv (.var 1) (.lit (V.int 7))) (.bi .len (.var 2))) σ2 (.int at_) σ2 := e_bin rfl (e_bi hn rfl (lenL hp2)) ((modV (by rw [pV_len]; (first | lia | omega))).trans (by rw [pV_len]))
        have e4 : Ev ns C [some D, some (.int way), some (.ref σ.length), some (.int at_), .none] (.idx (.var 2) (.var 3)) σ2 (.tup [.str pr.1, .int pr.2]) σ2 := e_idx rfl rfl (idxL hp2 m1 (pV_at hat))
        refine of (s_ifF rfl (s_assign e2 rfl (s_ifF (orF cF (or1 ((q _ _ 0).trans (by rw [decide_eq_false h0])))) (s_assign e3 rfl (s_assign e4 rfl rfl))))) ?_
        have two : ∀ {σ' : H}, Gr σ2 σ' → Ev ns C ρ2 (.var 2) σ' (.ref σ.length) σ' ∧ σ'[σ.length]? = some (.list (pV ps)) := fun g => ⟨rfl, g.at hp2⟩
        have front : LQ ns C ρ2 (.slice (.var 2) .nil (.var 3)) σ2 100 := LQ.sl rfl hp2 rfl rfl (lo := .none) (hi := some at_) rfl rfl hs (by (first | lia | omega))
        have back : ∀ σ', Gr σ2 σ' → LQ ns C ρ2 (.slice (.var 2) (.bin .add (.var 3) (.lit (V.int 1))) .nil) σ' 100 := fun σ' g => LQ.sl rfl (g.at hp2) rfl rfl (lo := some (at_ + 1)) (hi := .none) rfl rfl hs (by (first | lia | omega))
        by_cases h1 : way.fmod 7 = 1
        · exact of (s_ifT ((q _ _ 1).trans (by rw [decide_eq_true h1])) rfl) (aft (fin rfl g2 (LQ.add front back (by (first | lia | omega))) (by (first | lia | omega))))
        refine of (s_ifF ((q _ _ 1).trans (by rw [decide_eq_false h1])) rfl) ?_
        by_cases h2 : way.fmod 7 = 2
        · exact of (s_ifT ((q _ _ 2).trans (by rw [decide_eq_true h2])) rfl) (aft (fin rfl g2 (LQ.add (LQ.add front (fun σ' _ => LQ.one rfl) (by (first | lia | omega))).q (fun σ' g => LQ.sl rfl (g.at hp2) rfl rfl (lo := some at_) (hi := .none) rfl rfl hs (by (first | lia | omega))) (by (first | lia | omega))) (by (first | lia | omega))))
        refine of (s_ifF ((q _ _ 2).trans (by rw [decide_eq_false h2])) rfl) ?_
        by_cases h3 : way.fmod 7 = 3
        · refine of (s_ifT ((q _ _ 3).trans (by rw [decide_eq_true h3])) rfl) (aft (fin rfl g2 (LQ.add (LQ.add front (fun σ' _ => LQ.one (n := pr.1) (i := pr.2 + 1 - 2 * (if decide (0 < pr.2) then 1 else 0)) ?_) (by (first | lia | omega))).q back (by (first | lia | omega))) (by (first | lia | omega))))
          exact e_tup (es_two rfl (e_bin rfl (e_bin rfl (e_bi hn rfl rfl) rfl) rfl)) two_lim
        refine of (s_ifF ((q _ _ 3).trans (by rw [decide_eq_false h3])) rfl) ?_
        by_cases h4 : way.fmod 7 = 4
        · refine of (s_ifT ((q _ _ 4).trans (by rw [decide_eq_true h4])) rfl) (aft (fin rfl g2 (LQ.add (LQ.add front (fun σ' _ => LQ.one (n := cut ([113] ++ pr.1) .none (some 12)) (i := pr.2) ?_) (by (first | lia | omega))).q back (by (first | lia | omega))) (by (first | lia | omega))))
          exact e_tup (es_two (e_slice (e_bin rfl rfl (addS (by show 1 + _ ≤ lim; (first | lia | omega)))) rfl rfl (slS (lo := .none) (hi := some 12) rfl rfl (by rw [List.length_append]; show 1 + _ ≤ lim; (first | lia | omega)))) rfl) two_lim
        refine of (s_ifF ((q _ _ 4).trans (by rw [decide_eq_false h4])) rfl) ?_
        by_cases h5 : way.fmod 7 = 5
        · exact of (s_ifT ((q _ _ 5).trans (by rw [decide_eq_true h5])) rfl) (aft (fin rfl g2 (LQ.add (LQ.sl rfl hp2 rfl rfl (lo := some 1) (hi := .none) rfl rfl hs (by (first | lia | omega))) (fun σ' g => LQ.sl rfl (g.at hp2) rfl rfl (lo := .none) (hi := some 1) rfl rfl hs (by (first | lia | omega))) (by (first | lia | omega))) (by (first | lia | omega))))
        refine of (s_ifF ((q _ _ 5).trans (by rw [decide_eq_false h5])) rfl) ?_
        refine fin (N := 100) rfl g2 ⟨_, ps.reverse, _, e_rev hn rfl (revL hp2 (by rw [pV_len]; (first | lia | omega))), Gr.app _ _, ?_, by rw [List.length_reverse]; exact hs, Nat.le_refl _⟩ (by (first | lia | omega))
        rw [at_new]; unfold pV; rw [List.map_reverse]
end
end Mine.L03

set_option maxRecDepth 100000
set_option linter.all false
namespace Mine.L03
open PySem Mine Mine.P

/-- a deed as a list of its items; rows of such -/
noncomputable def LD (σ : H) (d : Deed) (v : V) : Prop := ∃ l xs, v = .ref l ∧ σ[l]? = some (.list xs) ∧ DR σ d (.tup xs)
noncomputable def LRow (σ : H) (row : List Deed) (v : V) : Prop := ∃ l ws, v = .ref l ∧ σ[l]? = some (.list ws) ∧ All2 (LD σ) row ws
theorem LD.gr {σ σ' : H} (g : Gr σ σ') {d : Deed} {v : V} (h : LD σ d v) : LD σ' d v := let ⟨l, xs, e, a, b⟩ := h; ⟨l, xs, e, g.at a, b.gr g⟩
theorem LRow.gr {σ σ' : H} (g : Gr σ σ') {row : List Deed} {v : V} (h : LRow σ row v) : LRow σ' row v := let ⟨l, ws, e, a, b⟩ := h; ⟨l, ws, e, g.at a, b.imp fun _ _ x => x.gr g⟩
theorem DR.tup {σ : H} {d : Deed} {v : V} (h : DR σ d v) : ∃ xs, v = .tup xs ∧ xs.length ≤ 3 := by
  cases d with
  | read n t => exact ⟨_, h, Nat.le_refl _⟩
  | write n t => exact ⟨_, h, Nat.le_refl _⟩
  | back k => exact ⟨_, h, Nat.le_succ _⟩
  | under hh ps => obtain ⟨l, e, _⟩ := h; exact ⟨_, e, Nat.le_refl _⟩

/-! equality of what stands for the same -/
section
variable {σ : H}
theorem veq_atom (n : Nat) {a : V} {x : At} (h : atom a = some x) : veq (n + 1) σ a a = some true := by
  unfold veq; rw [h]; dsimp only; rw [decide_eq_true rfl]
theorem veqs_true {f : V → V → Option Bool} : ∀ {xs ys : List V}, All2 (fun x y => f x y = some true) xs ys → veqs f xs ys = some true
  | [], _, h => by rw [show _ = [] from h]; rfl
  | x :: xs, _, ⟨y, r, e, h1, h⟩ => by
    rw [e]; unfold veqs; rw [h1, veqs_true h]; rfl
theorem veq_list {n l m : Nat} {xs ys : List V} (hl : σ[l]? = some (.list xs)) (hm : σ[m]? = some (.list ys)) (h : All2 (fun x y => veq n σ x y = some true) xs ys) : veq (n + 1) σ (.ref l) (.ref m) = some true := by
  have r1 : row σ (.ref l) = some (false, xs) := by show (listAt σ l).map _ = _; rw [listAt_of hl]; rfl
  have r2 : row σ (.ref m) = some (false, ys) := by show (listAt σ m).map _ = _; rw [listAt_of hm]; rfl
  show (match row σ (.ref l) with | some p => (match row σ (.ref m) with | some q => if p.1 = q.1 then (if p.2.length = q.2.length then veqs (veq n σ) p.2 q.2 else if p.1 then .none else some false) else .none | .none => .none) | .none => .none) = _
  rw [r1, r2]
  show (if false = false then (if xs.length = ys.length then veqs (veq n σ) xs ys else _) else _) = _
  rw [if_pos rfl, if_pos h.len]
  exact veqs_true h
theorem veq_tup {n : Nat} {xs ys : List V} (h : All2 (fun x y => veq n σ x y = some true) xs ys) : veq (n + 1) σ (.tup xs) (.tup ys) = some true := by
  show (if true = true then (if xs.length = ys.length then veqs (veq n σ) xs ys else if true = true then .none else some false) else .none) = _
  rw [if_pos rfl, if_pos h.len]
  exact veqs_true h
theorem val_atom (t : Option Int) : ∃ x, atom (val t) = some x := by cases t <;> exact ⟨_, rfl⟩
theorem pV_same (n : Nat) : ∀ ps : Ps, All2 (fun x y => veq (n + 2) σ x y = some true) (pV ps) (pV ps)
  | [] => rfl
  | p :: ps => ⟨_, _, rfl, veq_tup ⟨_, _, rfl, veq_atom n rfl, _, _, rfl, veq_atom n rfl, rfl⟩, pV_same n ps⟩
/-- the items of two tuples that stand for one deed -/
theorem items_same (n : Nat) {d : Deed} {xs ys : List V} (h : DR σ d (.tup xs)) (h' : DR σ d (.tup ys)) : All2 (fun x y => veq (n + 3) σ x y = some true) xs ys := by
  cases d with
  | read m t =>
    obtain ⟨z, hz⟩ := val_atom t
    injection (h : V.tup xs = _) with e; injection (h' : V.tup ys = _) with e'
    rw [e, e']
    exact ⟨_, _, rfl, veq_atom _ rfl, _, _, rfl, veq_atom _ rfl, _, _, rfl, veq_atom _ hz, rfl⟩
  | write m t =>
    obtain ⟨z, hz⟩ := val_atom t
    injection (h : V.tup xs = _) with e; injection (h' : V.tup ys = _) with e'
    rw [e, e']
    exact ⟨_, _, rfl, veq_atom _ rfl, _, _, rfl, veq_atom _ rfl, _, _, rfl, veq_atom _ hz, rfl⟩
  | back k =>
    injection (h : V.tup xs = _) with e; injection (h' : V.tup ys = _) with e'
    rw [e, e']
    exact ⟨_, _, rfl, veq_atom _ rfl, _, _, rfl, veq_atom _ rfl, rfl⟩
  | under hh ps =>
    obtain ⟨l, e, hl⟩ := h
    obtain ⟨l', e', hl'⟩ := h'
    injection e with e; injection e' with e'
    rw [e, e']
    exact ⟨_, _, rfl, veq_atom _ rfl, _, _, rfl, veq_atom _ rfl, _, _, rfl, veq_list hl hl' (pV_same n ps), rfl⟩
theorem All2.both {α β γ : Type} {R : α → β → Prop} {R' : α → γ → Prop} {Q : β → γ → Prop} (hq : ∀ a b c, R a b → R' a c → Q b c) : ∀ {as : List α} {bs : List β} {cs : List γ}, All2 R as bs → All2 R' as cs → All2 Q bs cs
  | [], _, _, h, h' => by rw [show _ = [] from h, show _ = [] from h']; rfl
  | a :: as, _, _, ⟨b, r, e, h1, h⟩, ⟨c, r', e', h1', h'⟩ => by rw [e, e']; exact ⟨c, r', rfl, hq a b c h1 h1', h.both hq h'⟩
theorem rows_same {rows : List (List Deed)} {l m : Nat} {xs ys : List V} (hl : σ[l]? = some (.list xs)) (hm : σ[m]? = some (.list ys)) (h : All2 (LRow σ) rows xs) (h' : All2 (LRow σ) rows ys) : veq 6 σ (.ref l) (.ref m) = some true :=
  veq_list hl hm (h.both (fun row b c hb hc => by
    obtain ⟨l1, w1, rfl, a1, r1⟩ := hb
    obtain ⟨l2, w2, rfl, a2, r2⟩ := hc
    exact veq_list a1 a2 (r1.both (fun d x y hx hy => by
      obtain ⟨l3, x3, rfl, a3, d3⟩ := hx
      obtain ⟨l4, x4, rfl, a4, d4⟩ := hy
      exact veq_list a3 a4 (items_same 0 d3 d4)) r2)) h')
end
section
variable {ns : List Int} {C : Calls} {ρ : Env} {σ σ' σ₁ : H}
theorem listT {xs : List V} (h : xs.length ≤ lim) : biV ns .list (.tup xs) σ = .ok (.ref σ.length) (σ ++ [.list xs]) := by
  show (pick (some xs)).bnd newL σ = _
  exact newL_ok h
theorem conv_row (hn : C.hn = true) {u w : Option V} {row : List Deed} {v : V} (h : RR σ row v) (hz : row.length ≤ 100) : ∃ v' σ', Ev ns C [u, w, some v] (.comp (.of (.var 2)) (.bi .list (.var 3))) σ v' σ' ∧ Gr σ σ' ∧ LRow σ' row v' := by
  have hlim : lim = 16777216 := rfl
  obtain ⟨l, vs, rfl, hl, h2⟩ := h
  have hlen := h2.len
  obtain ⟨acc, σ', hg, g, ha⟩ := gather_all (f := fElt ns C [u, w, some (.ref l)] (.bi .list (.var 3))) (it := fun i => .list l i) (fun i acc σ' => Gr σ σ' ∧ All2 (LD σ') (row.take i) acc) vs.length (fun acc σ' p => stop_list (p.1.at hl))
    (fun i acc σ' hi p => by
      obtain ⟨g, ha⟩ := p
      have hi' : i < row.length := by (first | lia | omega)
      obtain ⟨x, hx1, hx2⟩ := h2.at (List.getElem?_eq_getElem hi')
      obtain ⟨xs, rfl, hx3⟩ := hx2.tup
      have hal := ha.len
      rw [List.length_take] at hal
      refine ⟨_, next_list (g.at hl) hx1, .inl ⟨_, _, fElt_ok (e_bi hn rfl (listT (by (first | lia | omega)))), by (first | lia | omega), g.tr (Gr.app _ _), ?_⟩⟩
      rw [take_at row hi']
      exact (ha.imp fun _ _ x => x.gr (Gr.app _ _)).snoc ⟨_, xs, rfl, at_new _ _, hx2.gr (g.tr (Gr.app _ _))⟩)
    vs.length 0 [] σ (Nat.zero_add _) ⟨Gr.rfl, rfl⟩
  rw [← hlen, List.take_length] at ha
  exact ⟨_, _, e_comp hn (src_of rfl hl) hg, g.tr (Gr.app _ _), _, acc, rfl, at_new _ _, ha.imp fun _ _ x => x.gr (Gr.app _ _)⟩
theorem conv_rows (hn : C.hn = true) {u w : V} {e : E} {rows : List (List Deed)} {l : Nat} (h : RowsR σ rows l) (he : Ev ns C [some u, some w] e σ (.ref l) σ) (hz : tot rows ≤ 100) (hr : rows.length ≤ 100) : ∃ l' ws σ', Ev ns C [some u, some w] (.comp (.of e) (.comp (.of (.var 2)) (.bi .list (.var 3)))) σ (.ref l') σ' ∧ Gr σ σ' ∧ σ'[l']? = some (.list ws) ∧ All2 (LRow σ') rows ws := by
  have hlim : lim = 16777216 := rfl
  obtain ⟨rs, hl, h2⟩ := h
  have hlen := h2.len
  obtain ⟨acc, σ', hg, g, ha⟩ := gather_all (f := fElt ns C [some u, some w] (.comp (.of (.var 2)) (.bi .list (.var 3)))) (it := fun i => .list l i) (fun i acc σ' => Gr σ σ' ∧ All2 (LRow σ') (rows.take i) acc) rs.length (fun acc σ' p => stop_list (p.1.at hl))
    (fun i acc σ' hi p => by
      obtain ⟨g, ha⟩ := p
      have hi' : i < rows.length := by (first | lia | omega)
      obtain ⟨x, hx1, hx2⟩ := h2.at (List.getElem?_eq_getElem hi')
      have hal := ha.len
      rw [List.length_take] at hal
      have tt := tot_take hi'
      have tl := tot_le rows (i + 1)
      obtain ⟨v', σ'', e1, g1, r1⟩ := conv_row (ns := ns) (C := C) (u := some u) (w := some w) hn (hx2.gr g) (by (first | lia | omega))
      refine ⟨_, next_list (g.at hl) hx1, .inl ⟨_, _, fElt_ok e1, by (first | lia | omega), g.tr g1, ?_⟩⟩
      rw [take_at rows hi']
      exact (ha.imp fun _ _ x => x.gr g1).snoc r1)
    rs.length 0 [] σ (Nat.zero_add _) ⟨Gr.rfl, rfl⟩
  rw [← hlen, List.take_length] at ha
  exact ⟨_, acc, _, e_comp hn (src_of he hl) hg, g.tr (Gr.app _ _), at_new _ _, ha.imp fun _ _ x => x.gr (Gr.app _ _)⟩
theorem rows_alike_ok (hn : C.hn = true) {rows : List (List Deed)} {l m : Nat} (h : RowsR σ rows l) (h' : RowsR σ rows m) (hz : tot rows ≤ 100) (hr : rows.length ≤ 100) : ∃ σ', evF ns C f24_alike [.ref l, .ref m] σ = .ok (.bool true) σ' ∧ Gr σ σ' := by
  obtain ⟨l1, w1, σ1, e1, g1, a1, r1⟩ := conv_rows (ns := ns) (C := C) (u := .ref l) (w := .ref m) (e := .var 0) hn h rfl hz hr
  obtain ⟨l2, w2, σ2, e2, g2, a2, r2⟩ := conv_rows (ns := ns) (C := C) (u := .ref l) (w := .ref m) (e := .var 1) hn (h'.gr g1) rfl hz hr
  have ev := rows_same (g2.at a1) a2 (r1.imp fun _ _ x => x.gr g2) r2
  refine ⟨σ2, f_ret (fn := f24_alike) (vs := [.ref l, .ref m]) rfl (s_ret (e_cmp e1 e2 ?_)), g1.tr g2⟩
  show (match veq 6 σ2 (.ref l1) (.ref l2) with | some r => R.ok (V.bool (r != false)) σ2 | .none => R.stuck) = _
  rw [ev]; rfl
end
end Mine.L03

set_option maxRecDepth 100000
set_option linter.all false
namespace Mine.L03
open PySem Mine Mine.P

section
variable {ns : List Int} {C : Calls} {ρ ρ' ρ₁ : Env} {σ σ' σ₁ : H}
theorem s_try {b : List S} {hs : List Hd} {r : List S} {f : Fl} {Res : RS} (h : evSs ns C ρ σ b = .ok f ρ₁ σ₁) (h2 : after ns C r (.ok f ρ₁ σ₁) = Res) : evSs ns C ρ σ (.try b hs :: r) = Res := by
  rw [ss_cons]; unfold evS; rw [h]; exact h2
theorem s_tryX {b : List S} {hs : List Hd} {r : List S} {k : Nat} {Res : RS} (hn : C.hn = true) (h : evSs ns C ρ σ b = .exc k ρ₁ σ₁) (h2 : after ns C r (evHs ns C.calm k ρ₁ σ₁ hs) = Res) : evSs ns C ρ σ (.try b hs :: r) = Res := by
  rw [ss_cons]; unfold evS; rw [h]; dsimp only; rw [if_pos hn]; exact h2
theorem hs_none {k c : Nat} {b : List S} {r : List Hd} {f : Fl} (hs : C.sub k c = true) (h : evSs ns C ρ σ b = .ok f ρ' σ') : evHs ns C k ρ σ (.mk c .none b :: r) = .ok f ρ' σ' := by
  unfold evHs; dsimp only; rw [if_pos hs, h]
theorem hs_some {k c j : Nat} {b : List S} {r : List Hd} {f : Fl} (hs : C.sub k c = true) (hj : Nat.blt j ρ.length = true) (h : evSs ns C (ρ.set j (some (.exc k))) σ b = .ok f ρ' σ') : evHs ns C k ρ σ (.mk c (some j) b :: r) = .ok f (ρ'.map fun _ => .none) σ' := by
  unfold evHs; dsimp only; rw [if_pos hs, if_pos (show j < ρ.length from Nat.le_of_ble_eq_true hj), h]
theorem countL {l : Nat} {xs : List V} {n : Nat} (hl : σ[l]? = some (.list xs)) (h : countT xs = some n) : meV (.ref l) .count [.bool true] σ = .ok (.int n) σ := by
  unfold meV; dsimp only; rw [hl]
  show pick ((countT xs).map fun (n : Nat) => V.int n) σ = _
  rw [h]; rfl
noncomputable def subS (a b : Nat) : Bool := a == b || b == 0
theorem refused_ok (hn : C.hn = true) (hsub : C.sub = subS) {l : Nat} (h9 : C.call 9 [.ref l] σ = .exc 9 σ') (g : Gr σ σ') : ∃ σ'', evF ns C f26_refused_by_any [.ref l] σ = .ok (.bool true) σ'' ∧ Gr σ σ'' := by
  have hlim : lim = 16777216 := rfl
  have is : ∀ {ρ : Env} {σ : H} (k : Nat), ρ[1]? = some (some (.exc 9)) → Ev ns C.calm ρ (.isi (.var 1) (.cls k)) σ (.bool (subS 9 k)) σ := fun {ρ} {σ} k h0 => by
    refine e_isi (x := .exc 9) (σ₁ := σ) (by show (match ρ[1]? with | some (some v) => M.ret v | _ => stuck) σ = _; rw [h0]; rfl) ?_
    show R.ok (V.bool (C.sub 9 k)) σ = _
    rw [hsub]
  let σ1 := σ' ++ [O.list [.bool false, .bool false, .bool false, .bool false]]
  let σ2 := σ1 ++ [O.list [.bool false, .bool false, .bool false, .bool false]]
  let σ3 := σ2 ++ [O.list [.bool false, .bool false, .bool false, .bool false, .bool false, .bool false, .bool false, .bool false]]
  have b1 : Ev ns C.calm [some (.ref l), some (.exc 9), .none] (.list [(.isi (.var 1) (.cls 1)), (.isi (.var 1) (.cls 2)), (.isi (.var 1) (.cls 3)), (.isi (.var 1) (.cls 4))]) σ' (.ref σ'.length) σ1 := e_list (es_cons (is 1 rfl) (es_three (is 2 rfl) (is 3 rfl) (is 4 rfl))) (show 4 ≤ lim by (first | lia | omega))
  have b2 : Ev ns C.calm [some (.ref l), some (.exc 9), some (.ref σ'.length)] (.bin .add (.var 2) (.list [(.isi (.var 1) (.cls 5)), (.isi (.var 1) (.cls 6)), (.isi (.var 1) (.cls 7)), (.isi (.var 1) (.cls 8))])) σ1 (.ref σ2.length) σ3 :=
    e_bin rfl (e_list (es_cons (is 5 rfl) (es_three (is 6 rfl) (is 7 rfl) (is 8 rfl))) (show 4 ≤ lim by (first | lia | omega))) (addL ((Gr.app σ1 _).at (at_new σ' _)) (at_new σ1 _) (show 4 + 4 ≤ lim by (first | lia | omega)))
  have b3 : Ev ns C.calm [some (.ref l), some (.exc 9), some (.ref σ2.length)] (.and [(.isi (.var 1) .valueError), (.cmp .eq (.me (.var 2) .count [(.lit (V.bool true))]) (.lit (V.int 0)))]) σ3 (.bool true) σ3 :=
    andT rfl (and1 (e_cmp (e_me rfl (kL (at_new σ2 _) rfl) rfl (countL (at_new σ2 _) rfl)) rfl rfl))
  exact ⟨σ3, f_ret (fn := f26_refused_by_any) (vs := [.ref l]) rfl (s_tryX hn (s_exprX (bnd2 (a := [.ref l]) (σ' := σ) rfl h9)) (after_end (hs_some (j := 1) (by show C.sub 9 0 = true; rw [hsub]; rfl) rfl (s_assign b1 rfl (s_assign b2 rfl (s_ret b3)))))), ((g.tr (Gr.app _ _)).tr (Gr.app _ _)).tr (Gr.app _ _)⟩
end
end Mine.L03

set_option maxRecDepth 100000
set_option linter.all false
namespace Mine.L03
open PySem Mine Mine.P

noncomputable def RU : Deed → Prop
  | .read .. => True
  | .under .. => True
  | _ => False
/-- a spot: where a reading stands -/
noncomputable def Sp (rows : List (List Deed)) (v : V) : Prop := ∃ (j k : Nat) (row : List Deed) (d : Deed), v = .tup [.int j, .int k] ∧ rows[j]? = some row ∧ row[k]? = some d ∧ RU d
section
variable {ns : List Int} {C : Calls} {ρ : Env} {σ σ' σ₁ : H}
theorem copy_row (hn : C.hn = true) (h25 : ∀ {d v σ}, DR σ d v → Small2 d → ∃ v' σ', C.call 25 [v] σ = .ok v' σ' ∧ Gr σ σ' ∧ DR σ' d v') {row : List Deed} {v : V} (hv : ∀ σ, Ev ns C ρ (.var 14) σ v σ) (hw : ∀ w σ, Ev ns C (ρ ++ [some w]) (.var 15) σ w σ) (h : RR σ row v) (hz : row.length ≤ 100) (hs : ∀ d ∈ row, Small2 d) :
    ∃ v' σ', Ev ns C ρ (.comp (.of (.var 14)) (.call 25 [(.var 15)])) σ v' σ' ∧ Gr σ σ' ∧ RR σ' row v' := by
  have hlim : lim = 16777216 := rfl
  obtain ⟨l, vs, rfl, hl, h2⟩ := h
  have hlen := h2.len
  obtain ⟨acc, σ', hg, g, ha⟩ := gather_all (f := fElt ns C ρ (.call 25 [(.var 15)])) (it := fun i => .list l i) (fun i acc σ' => Gr σ σ' ∧ All2 (DR σ') (row.take i) acc) vs.length (fun acc σ' p => stop_list (p.1.at hl))
    (fun i acc σ' hi p => by
      obtain ⟨g, ha⟩ := p
      have hi' : i < row.length := by (first | lia | omega)
      obtain ⟨x, hx1, hx2⟩ := h2.at (List.getElem?_eq_getElem hi')
      obtain ⟨v', σ'', e1, g1, d1⟩ := h25 (hx2.gr g) (hs _ (List.getElem_mem hi'))
      have hal := ha.len
      rw [List.length_take] at hal
      refine ⟨_, next_list (g.at hl) hx1, .inl ⟨_, _, fElt_ok (e_call (es_one (hw _ _)) e1), by (first | lia | omega), g.tr g1, ?_⟩⟩
      rw [take_at row hi']
      exact (ha.imp fun _ _ x => x.gr g1).snoc d1)
    vs.length 0 [] σ (Nat.zero_add _) ⟨Gr.rfl, rfl⟩
  rw [← hlen, List.take_length] at ha
  exact ⟨_, _, e_comp hn (src_of (hv σ) hl) hg, g.tr (Gr.app _ _), _, acc, rfl, at_new _ _, ha.imp fun _ _ x => x.gr (Gr.app _ _)⟩
theorem copy_rows (hn : C.hn = true) (h25 : ∀ {d v σ}, DR σ d v → Small2 d → ∃ v' σ', C.call 25 [v] σ = .ok v' σ' ∧ Gr σ σ' ∧ DR σ' d v') {rows : List (List Deed)} {l : Nat} {e : E} (he : Ev ns C ρ e σ (.ref l) σ) (hv : ∀ v σ, Ev ns C (ρ ++ [some v]) (.var 14) σ v σ) (hw : ∀ v w σ, Ev ns C (ρ ++ [some v] ++ [some w]) (.var 15) σ w σ) (h : RowsR σ rows l) (hz : tot rows ≤ 100) (hr : rows.length ≤ 100) (hs : ∀ r ∈ rows, ∀ d ∈ r, Small2 d) :
    ∃ l' σ', Ev ns C ρ (.comp (.of e) (.comp (.of (.var 14)) (.call 25 [(.var 15)]))) σ (.ref l') σ' ∧ Gr σ σ' ∧ RowsR σ' rows l' := by
  have hlim : lim = 16777216 := rfl
  obtain ⟨rs, hl, h2⟩ := h
  have hlen := h2.len
  obtain ⟨acc, σ', hg, g, ha⟩ := gather_all (f := fElt ns C ρ (.comp (.of (.var 14)) (.call 25 [(.var 15)]))) (it := fun i => .list l i) (fun i acc σ' => Gr σ σ' ∧ All2 (RR σ') (rows.take i) acc) rs.length (fun acc σ' p => stop_list (p.1.at hl))
    (fun i acc σ' hi p => by
      obtain ⟨g, ha⟩ := p
      have hi' : i < rows.length := by (first | lia | omega)
      obtain ⟨x, hx1, hx2⟩ := h2.at (List.getElem?_eq_getElem hi')
      have tt := tot_take hi'
      have tl := tot_le rows (i + 1)
      obtain ⟨v', σ'', e1, g1, r1⟩ := copy_row (ns := ns) (C := C) (ρ := ρ ++ [some x]) hn h25 (hv x) (hw x) (hx2.gr g) (by (first | lia | omega)) (hs _ (List.getElem_mem hi'))
      have hal := ha.len
      rw [List.length_take] at hal
      refine ⟨_, next_list (g.at hl) hx1, .inl ⟨_, _, fElt_ok e1, by (first | lia | omega), g.tr g1, ?_⟩⟩
      rw [take_at rows hi']
      exact (ha.imp fun _ _ x => x.gr g1).snoc r1)
    rs.length 0 [] σ (Nat.zero_add _) ⟨Gr.rfl, rfl⟩
  rw [← hlen, List.take_length] at ha
  exact ⟨_, _, e_comp hn (src_of he hl) hg, g.tr (Gr.app _ _), acc, at_new _ _, ha.imp fun _ _ x => x.gr (Gr.app _ _)⟩
/-- the kind of a deed, looked at -/
theorem kind_in {d : Deed} {v : V} (h : DR σ d v) : ∃ (k : List Nat) (r : List V) (b : Bool), v = .tup (.str k :: r) ∧ cmpV .isin (.str k) (.tup [.str [114, 101, 97, 100], .str [117, 110, 100, 101, 114]]) σ' = .ok (.bool b) σ' ∧ (b = true → RU d) := by
  cases d with
  | read n t => exact ⟨_, _, true, h, rfl, fun _ => trivial⟩
  | write n t => exact ⟨_, _, false, h, rfl, fun q => nomatch q⟩
  | back k => exact ⟨_, _, false, h, rfl, fun q => nomatch q⟩
  | under hh ps => obtain ⟨l, e, _⟩ := h; exact ⟨_, _, true, e, rfl, fun _ => trivial⟩
noncomputable def spotE : E := .compIf (.range (.bi .len (.var 6))) (.tup [(.var 5), (.var 14)]) (.cmp .isin (.idx (.idx (.var 6) (.var 14)) (.lit (V.int 0))) (.tup [(.lit (V.str [114, 101, 97, 100])), (.lit (V.str [117, 110, 100, 101, 114]))]))
theorem spots_row (hn : C.hn = true) {rows : List (List Deed)} {j : Nat} {row : List Deed} {rv : V} (hj : rows[j]? = some row) (hr : RR σ row rv) (hz : row.length ≤ 100) (h5 : ∀ v σ, Ev ns C (ρ ++ [some v]) (.var 5) σ (.int j) σ) (h6 : ∀ σ, Ev ns C ρ (.var 6) σ rv σ) (h6' : ∀ v σ, Ev ns C (ρ ++ [some v]) (.var 6) σ rv σ) (h14 : ∀ v σ, Ev ns C (ρ ++ [some v]) (.var 14) σ v σ) :
    ∃ xs, Ev ns C ρ spotE σ (.ref σ.length) (σ ++ [.list xs]) ∧ xs.length ≤ row.length ∧ ∀ v ∈ xs, Sp rows v := by
  have hlim : lim = 16777216 := rfl
  obtain ⟨l, vs, rfl, hl, h2⟩ := hr
  have hlen := h2.len
  obtain ⟨acc, σ', hg, hal, hsp, rfl⟩ := gather_all (f := fIf ns C ρ (.tup [(.var 5), (.var 14)]) (.cmp .isin (.idx (.idx (.var 6) (.var 14)) (.lit (V.int 0))) (.tup [(.lit (V.str [114, 101, 97, 100])), (.lit (V.str [117, 110, 100, 101, 114]))]))) (it := fun i => .range i vs.length) (fun i acc σ' => acc.length ≤ i ∧ (∀ v ∈ acc, Sp rows v) ∧ σ' = σ) vs.length (fun acc σ' p => stop_range)
    (fun i acc σ' hi p => by
      obtain ⟨hal, hsp, rfl⟩ := p
      have hi' : i < row.length := by (first | lia | omega)
      obtain ⟨x, hx1, hx2⟩ := h2.at (List.getElem?_eq_getElem hi')
      obtain ⟨k, r, b, rfl, hb, hru⟩ := kind_in (σ' := σ') hx2
      have c : Ev ns C (ρ ++ [some (.int i)]) (.cmp .isin (.idx (.idx (.var 6) (.var 14)) (.lit (V.int 0))) (.tup [(.lit (V.str [114, 101, 97, 100])), (.lit (V.str [117, 110, 100, 101, 114]))])) σ' (.bool b) σ' :=
        e_cmp (e_idx (e_idx (h6' _ _) (h14 _ _) (idxL hl (Int.natCast_nonneg i) hx1)) rfl rfl) (e_tup rfl two_lim) hb
      refine ⟨_, next_range hi, ?_⟩
      cases b with
      | true =>
        refine .inl ⟨_, _, fIf_t c (e_tup (es_two (h5 _ _) (h14 _ _)) two_lim), by (first | lia | omega), by rw [List.length_append]; show _ + 1 ≤ _; (first | lia | omega), fun v hv => ?_, rfl⟩
        rcases List.mem_append.mp hv with q | q
        · exact hsp v q
        · rw [List.mem_singleton.mp q]
          exact ⟨j, i, row, row[i], rfl, hj, List.getElem?_eq_getElem hi', hru rfl⟩
      | false => exact .inr ⟨_, fIf_f c, by (first | lia | omega), hsp, rfl⟩)
    vs.length 0 [] σ (Nat.zero_add _) ⟨Nat.le_refl _, (fun _ q => nomatch q), rfl⟩
  have hs := src_range (ns := ns) (C := C) (ρ := ρ) (e := .bi .len (.var 6)) (k := vs.length) (e_bi hn (h6 σ') (lenL hl)) (by (first | lia | omega)) (by (first | lia | omega))
  rw [Int.toNat_natCast] at hs
  exact ⟨acc, e_compIf hn hs hg, by (first | lia | omega), hsp⟩
end
end Mine.L03

set_option maxRecDepth 100000
set_option linter.all false
namespace Mine.L03
open PySem Mine Mine.P

section
variable {ns : List Int} {C : Calls} {ρ : Env} {σ σ' σ₁ : H}
theorem veq_at (n : Nat) {a b : V} {x y : At} (h : atom a = some x) (h' : atom b = some y) : veq (n + 1) σ a b = some (decide (x = y)) := by
  unfold veq; rw [h]; dsimp only; rw [h']
theorem veqs_cons {f : V → V → Option Bool} {x y : V} {xs ys : List V} {p q : Bool} (h1 : f x y = some p) (h2 : veqs f xs ys = some q) : veqs f (x :: xs) (y :: ys) = some (p && q) := by
  unfold veqs; rw [h1, h2]
theorem veq_tups {n : Nat} {xs ys : List V} {q : Bool} (hl : xs.length = ys.length) (h : veqs (veq n σ) xs ys = some q) : veq (n + 1) σ (.tup xs) (.tup ys) = some q := by
  show (if true = true then (if xs.length = ys.length then veqs (veq n σ) xs ys else if true = true then .none else some false) else .none) = _
  rw [if_pos rfl, if_pos hl]; exact h
theorem dec_at (i j : Int) : decide (At.int i = At.int j) = decide (i = j) := decide_eq_decide.mpr ⟨fun q => by injection q, fun q => by rw [q]⟩
theorem dec_as (i j : List Nat) : decide (At.str i = At.str j) = decide (i = j) := decide_eq_decide.mpr ⟨fun q => by injection q, fun q => by rw [q]⟩
theorem veqs_pV (n : Nat) : ∀ (ps qs : Ps), ps.length = qs.length → veqs (veq (n + 2) σ) (pV ps) (pV qs) = some (decide (ps = qs))
  | [], [], _ => rfl
  | [], _ :: _, e => nomatch e
  | _ :: _, [], e => nomatch e
  | p :: ps, q :: qs, e => by
    have h1 : veq (n + 2) σ (.tup [.str p.1, .int p.2]) (.tup [.str q.1, .int q.2]) = some (decide (p.1 = q.1) && (decide (p.2 = q.2) && true)) := veq_tups rfl (veqs_cons ((veq_at n rfl rfl).trans (congrArg some (dec_as _ _))) (veqs_cons ((veq_at n rfl rfl).trans (congrArg some (dec_at _ _))) rfl))
    refine (veqs_cons h1 (veqs_pV n ps qs (Nat.succ.inj e))).trans (congrArg some ?_)
    rw [Bool.and_true, ← Bool.decide_and, ← Bool.decide_and]
    exact decide_eq_decide.mpr ⟨fun ⟨⟨a, b⟩, c⟩ => by rw [c, Prod.ext a b], fun q => by injection q with a b; exact ⟨⟨by rw [a], by rw [a]⟩, b⟩⟩
theorem veq_lists {n l m : Nat} {ps qs : Ps} (hl : σ[l]? = some (.list (pV ps))) (hm : σ[m]? = some (.list (pV qs))) : veq (n + 3) σ (.ref l) (.ref m) = some (decide (ps = qs)) := by
  have r1 : row σ (.ref l) = some (false, pV ps) := by show (listAt σ l).map _ = _; rw [listAt_of hl]; rfl
  have r2 : row σ (.ref m) = some (false, pV qs) := by show (listAt σ m).map _ = _; rw [listAt_of hm]; rfl
  show (match row σ (.ref l) with | some p => (match row σ (.ref m) with | some q => if p.1 = q.1 then (if p.2.length = q.2.length then veqs (veq (n + 2) σ) p.2 q.2 else if p.1 then .none else some false) else .none | .none => .none) | .none => .none) = _
  rw [r1, r2]
  show (if false = false then (if (pV ps).length = (pV qs).length then veqs (veq (n + 2) σ) (pV ps) (pV qs) else if false = true then .none else some false) else .none) = _
  rw [if_pos rfl]
  by_cases h : (pV ps).length = (pV qs).length
  · rw [if_pos h]
    rw [pV_len, pV_len] at h
    exact veqs_pV n ps qs h
  · rw [if_neg h, if_neg Bool.false_ne_true]
    rw [decide_eq_false fun q => h (by rw [q])]
theorem val_dec (t s : Option Int) (n : Nat) : veq (n + 1) σ (val t) (val s) = some (decide (t = s)) := by
  cases t with
  | none => cases s <;> rfl
  | some i =>
    cases s with
    | none => rfl
    | some j =>
      refine (veq_at n rfl rfl).trans (congrArg some ((dec_at i j).trans ?_))
      exact decide_eq_decide.mpr ⟨fun q => by rw [q], fun q => by injection q⟩
/-- is the spoiled deed another one? -/
theorem deed_eq {d d' : Deed} {v v' : V} (h : DR σ d v) (h' : DR σ d' v') (ha : Alt d d') : ∃ b, cmpV .eq v' v σ = .ok (.bool b) σ ∧ (b = true ↔ d' = d) := by
  have go : ∀ {b : Bool} {x y : V}, veq eqD σ x y = some b → cmpV .eq x y σ = .ok (.bool b) σ := fun {b} {x} {y} e => by
    show (match veq eqD σ x y with | some r => R.ok (V.bool (r != false)) σ | .none => R.stuck) = _
    rw [e]; cases b <;> rfl
  cases d with
  | read n t =>
    cases d' with
    | read n' t' =>
      obtain rfl : n = n' := ha
      obtain rfl : v = _ := h
      obtain rfl : v' = _ := h'
      have e : veq 6 σ (.tup [.str sRead, .str n, val t']) (.tup [.str sRead, .str n, val t]) = some (true && (true && (decide (t' = t) && true))) := veq_tups (xs := [.str sRead, .str n, val t']) (ys := [.str sRead, .str n, val t]) rfl (veqs_cons (veq_atom 4 rfl) (veqs_cons (veq_atom 4 rfl) (veqs_cons (val_dec t' t 4) rfl)))
      refine ⟨decide (t' = t), go (e.trans (by rw [Bool.true_and, Bool.true_and, Bool.and_true])), ?_⟩
      rw [decide_eq_true_eq]
      exact ⟨fun q => by rw [q], fun q => by injection q⟩
    | _ => exact ha.elim
  | under hh ps =>
    cases d' with
    | under hh' ps' =>
      obtain ⟨rfl, _⟩ := ha
      obtain ⟨l, rfl, hl⟩ := h
      obtain ⟨l', rfl, hl'⟩ := h'
      have e : veq 6 σ (.tup [.str sUnder, .str hh, .ref l']) (.tup [.str sUnder, .str hh, .ref l]) = some (true && (true && (decide (ps' = ps) && true))) := veq_tups (xs := [.str sUnder, .str hh, .ref l']) (ys := [.str sUnder, .str hh, .ref l]) rfl (veqs_cons (veq_atom 4 rfl) (veqs_cons (veq_atom 4 rfl) (veqs_cons (veq_lists (n := 2) hl' hl) rfl)))
      refine ⟨decide (ps' = ps), go (e.trans (by rw [Bool.true_and, Bool.true_and, Bool.and_true])), ?_⟩
      rw [decide_eq_true_eq]
      exact ⟨fun q => by rw [q], fun q => by injection q⟩
    | _ => exact ha.elim
  | write n t => cases d' <;> exact ha.elim
  | back k => cases d' <;> exact ha.elim
end
end Mine.L03

set_option maxRecDepth 100000
set_option linter.all false
namespace Mine.L03
open PySem Mine Mine.P

theorem All2.set {α β : Type} {R : α → β → Prop} {a : α} {b : β} (hr : R a b) : ∀ {as : List α} {bs : List β} (i : Nat), All2 R as bs → All2 R (as.set i a) (bs.set i b)
  | [], _, _, h => by rw [show _ = [] from h]; rfl
  | x :: as, _, 0, ⟨y, r, e, _, h⟩ => by rw [e]; exact ⟨b, r, rfl, hr, h⟩
  | x :: as, _, i + 1, ⟨y, r, e, h1, h⟩ => by rw [e]; exact ⟨y, r.set i b, rfl, h1, h.set hr i⟩
theorem All2.upd {α β : Type} {R R' : α → β → Prop} {a' : α} {b' : β} (hr : R' a' b') : ∀ {as : List α} {bs : List β} (j : Nat), bs.Nodup → bs[j]? = some b' → All2 R as bs → (∀ a b, b ∈ bs → b ≠ b' → R a b → R' a b) → All2 R' (as.set j a') bs
  | [], _, _, _, e, h, _ => by rw [show _ = [] from h] at e; cases e
  | x :: as, _, 0, hn, e, ⟨y, r, eb, _, h⟩, hi => by
    subst eb
    have e : y = b' := Option.some.inj e
    rw [e] at hn hi ⊢
    obtain ⟨h1, h2⟩ := List.nodup_cons.mp hn
    exact ⟨b', r, rfl, hr, h.mem fun a b hb => hi a b (List.mem_cons_of_mem _ hb) fun q => h1 (q ▸ hb)⟩
  | x :: as, _, j + 1, hn, e, ⟨y, r, eb, h0, h⟩, hi => by
    subst eb
    obtain ⟨h1, h2⟩ := List.nodup_cons.mp hn
    exact ⟨y, r, rfl, hi x y List.mem_cons_self (fun q => h1 (q ▸ List.mem_of_getElem? e)) h0, h.upd hr j h2 e fun a b hb => hi a b (List.mem_cons_of_mem _ hb)⟩
/-- the rows that were made: their list at `a`, they themselves at `js` -/
structure RM (σ : H) (M : List Nat) (a : Nat) (rows : List (List Deed)) (js : List Nat) : Prop where
  outer : σ[a]? = some (.list (js.map V.ref))
  rows : All2 (Rw σ M) rows js
  nd : js.Nodup
  sub : ∀ j ∈ js, j ∈ M
  aj : a ∉ js
  lt : ∀ m ∈ M, m < σ.length
theorem HI.rm {σ σ' : H} {a b p c : Nat} {is : List Nat} {dn : List (List Deed)} {cur : List Deed} {left : Kv} {ws : Ws} (h : HI σ σ' a b p c is dn cur left ws) : RM σ' (a :: b :: p :: c :: is) a (dn ++ [cur]) (is ++ [c]) := by
  obtain ⟨n1, n2, n3, n4, n5, n6, n7⟩ := nd4 h.nd
  have d4 := (List.nodup_cons.mp (List.nodup_cons.mp (List.nodup_cons.mp h.nd).2).2).2
  obtain ⟨d5, d6⟩ := List.nodup_cons.mp d4
  refine ⟨by rw [h.outer, List.map_append]; rfl, h.rows.snoc h.cur, List.nodup_append.mpr ⟨d6, List.pairwise_singleton _ _, fun x hx y hy e => d5 (by rw [List.mem_singleton.mp hy] at e; exact e ▸ hx)⟩, fun j hj => ?_, fun q => ?_, fun m hm => (h.lo m hm).2⟩
  · rcases List.mem_append.mp hj with q | q
    · exact .tail _ (.tail _ (.tail _ (.tail _ q)))
    · rw [List.mem_singleton.mp q]; exact .tail _ (.tail _ (.tail _ (.head _)))
  · rcases List.mem_append.mp q with q | q
    · exact (n7 a q).1 rfl
    · exact n3 (List.mem_singleton.mp q)
section
variable {σ σ' : H} {M : List Nat} {a : Nat} {rows : List (List Deed)} {js : List Nat}
theorem RM.gr (h : RM σ M a rows js) (g : Gr σ σ') : RM σ' M a rows js := ⟨g.at h.outer, h.rows.imp fun _ _ x => x.gr g fun _ _ q => q, h.nd, h.sub, h.aj, fun m hm => Nat.lt_of_lt_of_le (h.lt m hm) g.length_le⟩
theorem All2.map {α β γ : Type} {R : α → β → Prop} {R' : α → γ → Prop} (f : β → γ) (hf : ∀ a b, R a b → R' a (f b)) : ∀ {as : List α} {bs : List β}, All2 R as bs → All2 R' as (bs.map f)
  | [], _, h => by rw [show _ = [] from h]; rfl
  | x :: as, _, ⟨y, r, e, h1, h⟩ => by rw [e]; exact ⟨f y, r.map f, rfl, hf _ _ h1, h.map f hf⟩
theorem RM.rowsR (h : RM σ M a rows js) : RowsR σ rows a := ⟨_, h.outer, h.rows.map V.ref fun row l x => let ⟨vs, h1, h2⟩ := x; ⟨l, vs, rfl, h1, h2.imp fun _ _ y => y.1⟩⟩
/-- one deed is put in another's stead -/
theorem RM.store (h : RM σ M a rows js) {j k : Nat} {row : List Deed} {d d' : Deed} {v' : V} (hj : rows[j]? = some row) (hk : row[k]? = some d) (hd : Dd σ M d' v') :
    ∃ r vs v, js[j]? = some r ∧ r ∈ M ∧ σ[r]? = some (.list vs) ∧ vs[k]? = some v ∧ vs.length = row.length ∧ DR σ d v ∧ RM (σ.set r (.list (vs.set k v'))) M a (rows.set j (row.set k d')) js := by
  obtain ⟨r, hr, vs, e1, e2⟩ := h.rows.at hj
  obtain ⟨v, e3, e4⟩ := e2.at hk
  have hrm := List.mem_of_getElem? hr
  have hM := h.sub r hrm
  have fr := set_at (σ := σ) (m := r) (.list (vs.set k v'))
  have ha : a ≠ r := fun q => h.aj (q ▸ hrm)
  refine ⟨r, vs, v, hr, hM, e1, e3, e2.len.symm, e4.1, fr _ _ ha h.outer, ?_, h.nd, h.sub, h.aj, fun m hm => by rw [List.length_set]; exact h.lt m hm⟩
  exact h.rows.upd (R' := Rw (σ.set r (.list (vs.set k v'))) M) ⟨_, set_self (h.lt r hM) _, ((e2.set hd k).imp fun _ _ x => x.fr hM fr fun _ _ q => q)⟩ j h.nd hr fun a b _ hb x => x.fr hM fr (fun _ _ q => q) hb
end
end Mine.L03

set_option maxRecDepth 100000
set_option linter.all false
namespace Mine.L03
open PySem Mine Mine.P

theorem Small.two {d : Deed} (h : Small d) : Small2 d := by
  cases d with
  | under hh ps => exact Nat.le_trans (h : _ ∧ _).1 (by decide)
  | _ => trivial
theorem take_set {α : Type} (l : List α) (k : Nat) (a : α) : (l.set k a).take k = l.take k := by rw [List.take_set_of_le (Nat.le_refl _)]
theorem done_spoil {v : Kv} {row : List Deed} {k : Nat} {d d' : Deed} {w : Ws} (hd : doneD v [] row = some w) (hk : row[k]? = some d) (hru : RU d) (ha : Alt d d') (hne : d' ≠ d) : doneD v [] (row.set k d') = .none := by
  have hkl := (List.getElem?_eq_some_iff.mp hk).1
  have hkd : row[k] = d := (List.getElem?_eq_some_iff.mp hk).2
  have e := List.take_append_drop k row
  rw [← e, doneD_app] at hd
  obtain ⟨w1, h1, h2⟩ := Option.bind_eq_some_iff.mp hd
  have hl' : k < (row.set k d').length := by rw [List.length_set]; exact hkl
  refine doneD_fail (i := k) (w := w1) hl' (by rw [take_set]; exact h1) ?_
  rw [List.getElem_set_self]
  rw [List.drop_eq_getElem_cons hkl, hkd] at h2
  obtain ⟨w2, h3, _⟩ := Option.bind_eq_some_iff.mp (show (stepD v w1 d).bind (fun w' => doneD v w' (row.drop (k + 1))) = some w from h2)
  cases d with
  | read n t =>
    cases d' with
    | read n' t' =>
      obtain rfl : n = n' := ha
      have q : seenO (put v w1) n = t := by
        have h3 : (if seenO (put v w1) n = t then some w1 else .none) = some w2 := h3
        split at h3
        · assumption
        · cases h3
      exact if_neg fun q' => hne (by rw [← q, ← q'])
    | _ => exact ha.elim
  | under hh ps =>
    cases d' with
    | under hh' ps' =>
      obtain ⟨rfl, _⟩ := ha
      have q : told (put v w1) hh = ps := by
        have h3 : (if told (put v w1) hh = ps then some w1 else .none) = some w2 := h3
        split at h3
        · assumption
        · cases h3
      exact if_neg fun q' => hne (by rw [← q, ← q'])
    | _ => exact ha.elim
  | write n t => exact hru.elim
  | back n => exact hru.elim
theorem walk_spoil {rows : List (List Deed)} {left : Kv} {j k : Nat} {row : List Deed} {d d' : Deed} (hw : walkD [] rows = some left) (hj : rows[j]? = some row) (hk : row[k]? = some d) (hru : RU d) (ha : Alt d d') (hne : d' ≠ d) : walkD [] (rows.set j (row.set k d')) = .none := by
  have hjl := (List.getElem?_eq_some_iff.mp hj).1
  have hjd : rows[j] = row := (List.getElem?_eq_some_iff.mp hj).2
  rw [← List.take_append_drop j rows, walkD_app] at hw
  obtain ⟨v, h1, h2⟩ := Option.bind_eq_some_iff.mp hw
  rw [List.drop_eq_getElem_cons hjl, hjd] at h2
  obtain ⟨w, h3, _⟩ := Option.bind_eq_some_iff.mp (show (doneD v [] row).bind (fun w => walkD (put v w) (rows.drop (j + 1))) = some left from h2)
  refine walkD_fail (i := j) (v := v) (by rw [List.length_set]; exact hjl) (by rw [take_set]; exact h1) ?_
  rw [List.getElem_set_self]
  exact done_spoil h3 hk hru ha hne
theorem set_same {α : Type} {l : List α} {k : Nat} {a : α} (h : l[k]? = some a) : l.set k a = l := by
  obtain ⟨hk, rfl⟩ := List.getElem?_eq_some_iff.mp h
  exact List.set_getElem_self hk
theorem tot_set {rows : List (List Deed)} {j : Nat} {row row' : List Deed} (hj : rows[j]? = some row) (hl : row'.length = row.length) : tot (rows.set j row') = tot rows := by
  obtain ⟨hjl, rfl⟩ := List.getElem?_eq_some_iff.mp hj
  unfold tot
  rw [List.map_set, hl, ← List.getElem_map List.length (h := by rw [List.length_map]; exact hjl), List.set_getElem_self]
end Mine.L03

set_option maxRecDepth 100000
set_option linter.all false
namespace Mine.L03
open PySem Mine Mine.P

structure Lk (ns : List Int) (C : Calls) : Prop where
  hn : C.hn = true
  sub : C.sub = subS
  cell : ∀ (k : Nat) σ, ∃ x : Int, C.call 11 [.scr, .int k] σ = .ok (.int x) σ
  pool : ∀ a b σ, ∃ l xs σ', C.call 15 [.int a, .int b] σ = .ok (.ref l) σ' ∧ Gr σ σ' ∧ σ'[l]? = some (.list xs) ∧ xs ≠ [] ∧ xs.length ≤ 200 ∧ allN xs
  rows : ∀ {lc lq : Nat} {cs : List Int} {xs : List V} {σ : H}, σ[lc]? = some (.list (cs.map V.int)) → σ[lq]? = some (.list xs) → cs.length < 63 → xs ≠ [] → xs.length ≤ 200 → allN xs →
    ∃ (a b p c : Nat) (is : List Nat) (dn : List (List Deed)) (cur : List Deed) (left : Kv) (ws : Ws) (σ' : H), C.call 23 [.ref lc, .ref lq] σ = .ok (.tup [.ref a, .ref b]) σ' ∧ HI σ σ' a b p c is dn cur left ws ∧ SI (dn ++ [cur]) [] left [] cs.length ∧ is.length ≤ cs.length
  walked : ∀ {l : Nat} {rows : List (List Deed)} {σ : H}, RowsR σ rows l → tot rows < 64 →
    (∃ v l' σ', walkD [] rows = some v ∧ C.call 9 [.ref l] σ = .ok (.ref l') σ' ∧ Gr σ σ' ∧ σ'[l']? = some (.list (pV (told v [])))) ∨ (∃ σ', walkD [] rows = .none ∧ C.call 9 [.ref l] σ = .exc 9 σ' ∧ Gr σ σ')
  pairs : ∀ {a b : Nat} {ps : Ps} {σ : H}, σ[a]? = some (.list (pV ps)) → σ[b]? = some (.list (pV ps)) → ps.length ≤ 100 → C.call 18 [.ref a, .ref b] σ = .ok (.bool true) σ
  under : ∀ {d j : Nat} {kvs qs : Kv} {σ : H}, σ[d]? = some (.dict kvs) → σ[j]? = some (.dict qs) → kvs.length + qs.length < 64 → Vd (dputs kvs qs) → Kb (dputs kvs qs) → ∀ h, ∃ l' σ', C.call 20 [.ref d, .ref j, .str h] σ = .ok (.ref l') σ' ∧ Gr σ σ' ∧ σ'[l']? = some (.list (pV (told (dputs kvs qs) h))) ∧ σ.length ≤ l'
  spoiled : ∀ {d : Deed} {v : V} {σ : H}, DR σ d v → ((∃ n t, d = .read n t) ∨ ∃ h ps, d = .under h ps) → Small d → ∀ way : Int, ∃ d' v' σ', C.call 22 [v, .int way] σ = .ok v' σ' ∧ Gr σ σ' ∧ DR σ' d' v' ∧ Alt d d' ∧ DF (σ.length ≤ ·) v'
  alike : ∀ {rows : List (List Deed)} {l m : Nat} {σ : H}, RowsR σ rows l → RowsR σ rows m → tot rows ≤ 100 → rows.length ≤ 100 → ∃ σ', C.call 24 [.ref l, .ref m] σ = .ok (.bool true) σ' ∧ Gr σ σ'
  copied : ∀ {d : Deed} {v : V} {σ : H}, DR σ d v → Small2 d → ∃ v' σ', C.call 25 [v] σ = .ok v' σ' ∧ Gr σ σ' ∧ DR σ' d v'
  refused : ∀ {l : Nat} {rows : List (List Deed)} {σ : H}, RowsR σ rows l → tot rows < 64 → walkD [] rows = .none → ∃ σ', C.call 26 [.ref l] σ = .ok (.bool true) σ' ∧ Gr σ σ'
section
variable {ns : List Int} {C : Calls} {ρ : Env} {σ σ' σ₁ : H}
/-- no rows, no pairs -/
theorem empties (K : Lk ns C) (σ : H) : ∃ σ', Ev ns C ρ (.not (.call 18 [(.call 9 [(.list [])]), (.list [])])) σ (.bool false) σ' ∧ Gr σ σ' := by
  rcases K.walked (σ := σ ++ [.list []]) (l := σ.length) (rows := []) ⟨[], at_new σ _, rfl⟩ (by decide) with ⟨v, l', σ1, e1, e2, g1, h1⟩ | ⟨_, e, _⟩
  · cases e1
    have h1 : σ1[l']? = some (.list (pV [])) := h1
    refine ⟨_, e_not (e_call (es_two (e_call (es_one (e_list es_nil (Nat.zero_le _))) e2) (e_list es_nil (Nat.zero_le _))) (K.pairs (ps := []) ((Gr.app σ1 _).at h1) (at_new σ1 _) (by decide))) rfl, ((Gr.app σ _).tr g1).tr (Gr.app _ _)⟩
  · cases e
theorem law_end (K : Lk ns C) {a b : Nat} {rows : List (List Deed)} {left : Kv} {good : Bool} {o1 o4 o5 o6 o8 o9 : Option V} (hr : RowsR σ rows a) (hz : tot rows < 64) (hrl : rows.length ≤ 100) (hs : ∀ r ∈ rows, ∀ d ∈ r, Small2 d) (hb : σ[b]? = some (.dict left)) (hv : Vd left) (hk : Kb left) (hl : left.length < 64)
    (hg : walkD [] rows = if good then some left else .none) :
    ∃ ρ' σ', evSs ns C [some .scr, o1, some (.tup [.ref a, .ref b]), some (.ref a), o4, o5, o6, some (.bool good), o8, o9, .none, .none, .none, .none] σ (f27_law.body.drop 7) = .ok (.ret (.bool true)) ρ' σ' := by
  obtain ⟨lh, σ1, e1, g1, h1⟩ := copy_rows (ns := ns) (C := C) (ρ := [some .scr, o1, some (.tup [.ref a, .ref b]), some (.ref a), o4, o5, o6, some (.bool good), o8, o9, .none, .none, .none, .none]) (e := .var 3) K.hn K.copied rfl (fun _ _ => rfl) (fun _ _ _ => rfl) hr (by (first | lia | omega)) hrl hs
  obtain ⟨σ2, e2, g2⟩ := empties (ρ := [some .scr, o1, some (.tup [.ref a, .ref b]), some (.ref a), o4, o5, o6, some (.bool good), o8, o9, some (.ref lh), .none, .none, .none]) K σ1
  have h2 := h1.gr g2
  have hr2 := (hr.gr g1).gr g2
  have hb2 := g2.at (g1.at hb)
  have tl : (told left []).length ≤ 100 := Nat.le_trans (told_len _ _) (by (first | lia | omega))
  rcases K.walked h2 hz with ⟨v, lf, σ3, w1, w2, g3, h3⟩ | ⟨σ3, w1, w2, g3⟩
  · cases good with
    | false => rw [w1] at hg; cases hg
    | true =>
      rw [w1] at hg
      obtain rfl : v = left := Option.some.inj hg
      obtain ⟨σ4, e4, g4⟩ := K.alike (h2.gr g3) (hr2.gr g3) (by (first | lia | omega)) hrl
      obtain ⟨σ5, e5, g5⟩ := empties (ρ := [some .scr, o1, some (.tup [.ref a, .ref b]), some (.ref a), o4, o5, o6, some (.bool true), o8, o9, some (.ref lh), some (.ref lf), some (.bool false), .none]) K σ4
      have g35 := (g3.tr g4).tr g5
      obtain ⟨ld, σ6, e6, g6, h6, _⟩ := K.under (kvs := v) (qs := []) (σ := σ5 ++ [.dict []]) ((Gr.app σ5 _).at (g35.at hb2)) (at_new σ5 (.dict [])) (by show _ + 0 < 64; (first | lia | omega)) hv hk []
      have h6 : σ6[ld]? = some (.list (pV (told v []))) := h6
      have g56 := (Gr.app σ5 [O.dict []]).tr g6
      have hf6 := ((g4.tr g5).tr g56).at h3
      rcases K.walked (h2.gr (g35.tr g56)) hz with ⟨v7, l7, σ7, x1, x2, g7, h7⟩ | ⟨σ7, x1, _, _⟩
      · rw [w1] at x1
        obtain rfl : v = v7 := Option.some.inj x1
        exact ⟨_, _, s_assign e1 rfl <| s_ifF e2 <| s_assign rfl rfl <| s_assign rfl rfl <| s_try (s_assign (e_call rfl w2) rfl ss_nil) <| s_ifF (orF (e_not (e_call rfl e4) rfl) (or1 e5)) <| s_ifF rfl <| s_assign (e_call (es_three rfl rfl rfl) e6) rfl <| s_ret <| andT rfl <| andT (e_call rfl (K.pairs hf6 h6 tl)) <| and1 <| e_call (es_two (e_call rfl x2) rfl) (K.pairs h7 (g7.at h6) tl)⟩
      · rw [w1] at x1; cases x1
  · cases good with
    | true => rw [w1] at hg; cases hg
    | false =>
      obtain ⟨σ4, e4, g4⟩ := K.alike (h2.gr g3) (hr2.gr g3) (by (first | lia | omega)) hrl
      obtain ⟨σ5, e5, g5⟩ := empties (ρ := [some .scr, o1, some (.tup [.ref a, .ref b]), some (.ref a), o4, o5, o6, some (.bool false), o8, o9, some (.ref lh), some .none, some (.bool true), .none]) K σ4
      obtain ⟨σ6, e6, g6⟩ := K.refused (h2.gr ((g3.tr g4).tr g5)) hz w1
      exact ⟨_, _, s_assign e1 rfl <| s_ifF e2 <| s_assign rfl rfl <| s_assign rfl rfl <| s_tryX K.hn (s_assignX (bnd2 (a := [.ref lh]) (σ' := σ2) rfl w2)) <| after_next (hs_none (by show C.sub 9 9 = true; rw [K.sub]; rfl) (s_assign rfl rfl ss_nil)) <| s_ifF (orF (e_not (e_call rfl e4) rfl) (or1 e5)) <| s_ifT rfl <| after_end <| s_ret <| andT rfl <| and1 <| e_call rfl e6⟩
end
end Mine.L03

set_option maxRecDepth 100000
set_option linter.all false
namespace Mine.L03
open PySem Mine Mine.P

section
variable {ns : List Int} {C : Calls} {ρ : Env} {σ σ' σ₁ : H}
theorem neNil {a b : Nat} {xs : List V} (ha : σ[a]? = some (.list xs)) (hb : σ[b]? = some (.list [])) : cmpV .ne (.ref a) (.ref b) σ = .ok (.bool (!decide (xs = []))) σ := by
  have e := eqNil ha hb
  have e : (match veq eqD σ (.ref a) (.ref b) with | some r => R.ok (V.bool (r != false)) σ | .none => R.stuck) = .ok (.bool (decide (xs = []))) σ := e
  show (match veq eqD σ (.ref a) (.ref b) with | some r => R.ok (V.bool (r != true)) σ | .none => R.stuck) = _
  cases hv : veq eqD σ (.ref a) (.ref b) with
  | none => rw [hv] at e; cases e
  | some r =>
    rw [hv] at e
    injection e with e _
    injection e with e
    rw [← e]
    cases r <;> rfl
theorem slScr {lo hi : Int} (h : (cut ns (some lo) (some hi)).length ≤ lim) : sliceV ns .scr (.int lo) (.int hi) σ = .ok (.ref σ.length) (σ ++ [.list ((cut ns (some lo) (some hi)).map V.int)]) := newL_ok (by rw [List.length_map]; exact h)
theorem setL {l : Nat} {xs : List V} {k : Nat} {v : V} (hl : σ[l]? = some (.list xs)) (hk : k < xs.length) (h : xs.length ≤ lim) : setV (.ref l) (.int k) v σ = .ok .none (σ.set l (.list (xs.set k v))) := by
  show onL l (fun xs => if 0 ≤ (k : Int) ∧ (k : Int).toNat < xs.length then putL l (xs.set (k : Int).toNat v) else stuck) σ = _
  rw [onL_ok hl, if_pos ⟨Int.natCast_nonneg k, by rw [Int.toNat_natCast]; exact hk⟩, Int.toNat_natCast]
  unfold putL
  rw [if_pos (by rw [List.length_set]; exact h)]
noncomputable def lEnv (lq : Nat) (m : V) (a : Nat) (ls : V) (o5 o6 : Option V) : Env := [some .scr, some (.ref lq), some m, some (.ref a), some ls, o5, o6, .none, .none, .none, .none, .none, .none, .none]
theorem spots_ok (K : Lk ns C) {M : List Nat} {a lq : Nat} {m : V} {rows : List (List Deed)} {js : List Nat} (h : RM σ M a rows js) (hz : tot rows < 64) : ∃ ls xs o5 o6 σ', forLoop (tgtP 5 6) (fun ρ σ => evSs ns C ρ σ [.assign 4 (.bin .add (.var 4) spotE)]) js.length (.enum a 0) (lEnv lq m a (.ref σ.length) .none .none) (σ ++ [.list []]) = .ok .next (lEnv lq m a (.ref ls) o5 o6) σ' ∧ Gr σ σ' ∧ σ'[ls]? = some (.list xs) ∧ xs.length ≤ 64 ∧ ∀ v ∈ xs, Sp rows v := by
  have hlim : lim = 16777216 := rfl
  have hlen := h.rows.len
  obtain ⟨ρ', σ', L, ls, xs, o5, o6, rfl, g, hl, hxl, hsp⟩ := for_all (tgt := tgtP 5 6) (body := fun ρ σ => evSs ns C ρ σ [.assign 4 (.bin .add (.var 4) spotE)]) (it := fun i => .enum a i)
    (fun i ρ σ' => ∃ (ls : Nat) (xs : List V) (o5 o6 : Option V), ρ = lEnv lq m a (.ref ls) o5 o6 ∧ Gr σ σ' ∧ σ'[ls]? = some (.list xs) ∧ xs.length ≤ tot (rows.take i) ∧ ∀ v ∈ xs, Sp rows v) (js.map V.ref).length
    (fun ρ σ' p => by obtain ⟨_, _, _, _, _, g, _⟩ := p; exact stop_enum (g.at h.outer))
    (fun i ρ σ' hi p => by
      obtain ⟨ls, xs, o5, o6, rfl, g, hl, hxl, hsp⟩ := p
      have hi' : i < rows.length := by rw [List.length_map] at hi; (first | lia | omega)
      obtain ⟨r, hr, vs, e1, e2⟩ := h.rows.at (List.getElem?_eq_getElem hi')
      have tt := tot_take hi'
      have tl := tot_le rows (i + 1)
      have hrr : RR σ' rows[i] (.ref r) := ⟨r, vs, rfl, g.at e1, e2.imp fun _ _ x => x.1.gr g⟩
      obtain ⟨ys, e3, hyl, hys⟩ := spots_row (ns := ns) (C := C) (ρ := lEnv lq m a (.ref ls) (some (.int i)) (some (.ref r))) (j := i) K.hn (List.getElem?_eq_getElem hi') hrr (by (first | lia | omega)) (fun _ _ => rfl) (fun _ => rfl) (fun _ _ => rfl) (fun _ _ => rfl)
      refine ⟨_, _, _, _, next_enum (g.at h.outer) (by rw [List.getElem?_map, hr]; rfl), rfl, s_assign (e_bin rfl e3 (addL ((Gr.app σ' _).at hl) (at_new σ' _) (by (first | lia | omega)))) rfl ss_nil, _, xs ++ ys, _, _, rfl, (g.tr (Gr.app _ _)).tr (Gr.app _ _), at_new _ _, by rw [List.length_append]; (first | lia | omega), fun v hv => (List.mem_append.mp hv).elim (hsp v) (hys v)⟩)
    (js.map V.ref).length 0 (lEnv lq m a (.ref σ.length) .none .none) (σ ++ [.list []]) (Nat.zero_add _) ⟨_, [], _, _, rfl, Gr.app _ _, at_new _ _, Nat.zero_le _, fun _ q => nomatch q⟩
  rw [List.length_map] at L hxl
  have := tot_le rows js.length
  exact ⟨ls, xs, o5, o6, σ', L, g, hl, by (first | lia | omega), hsp⟩
theorem law_ok (K : Lk ns C) (hns : ns.length ≤ 63) : ∃ σ', evF ns C f27_law [.scr] [] = .ok (.bool true) σ' := by
  have hlim : lim = 16777216 := rfl
  obtain ⟨x0, c0⟩ := K.cell 0 []
  obtain ⟨x1, c1⟩ := K.cell 1 []
  obtain ⟨lq, ps, σ1, e1, g1, hq, hp0, hpl, hpn⟩ := K.pool x0 x1 []
  have hcl : (cut ns (some 2) (some 82)).length < 63 := by
    show ((ns.drop (clampN 2 ns.length)).take (clampN 82 ns.length - clampN 2 ns.length)).length < 63
    unfold clampN
    rw [if_pos (by decide), if_pos (by decide), List.length_take, List.length_drop]
    show min (min 82 ns.length - min 2 ns.length) (ns.length - min 2 ns.length) < 63
    (first | lia | omega)
  obtain ⟨a, b, p, c, is, dn, cur, left, ws, σ2, e2, hi, si, hil⟩ := K.rows (σ := σ1 ++ [.list ((cut ns (some 2) (some 82)).map V.int)]) (at_new σ1 _) ((Gr.app σ1 _).at hq) hcl hp0 hpl hpn
  have rm := hi.rm
  generalize hrows : dn ++ [cur] = rows at rm si
  have ht : tot rows < 64 := by have := si.n; show tot rows < 64; have h0 : ([] : List Deed).length = 0 := rfl; (first | lia | omega)
  have hll : left.length < 64 := by have := si.ll; (first | lia | omega)
  obtain ⟨ls, xs, o5, o6, σ3, L, g3, hls, hxl, hsp⟩ := spots_ok (ns := ns) (C := C) (lq := lq) (m := .tup [.ref a, .ref b]) K rm ht
  have hrl : rows.length ≤ 100 := by have := rm.rows.len; rw [List.length_append] at this; have h1 : [c].length = 1 := rfl; (first | lia | omega)
  have sm2 : ∀ r ∈ rows, ∀ d ∈ r, Small2 d := fun r hr d hd => (si.sm r hr d hd).two
  let σ4 := σ3 ++ [O.list []]
  have g24 : Gr σ2 σ4 := g3.tr (Gr.app σ3 _)
  let ρ7 : Env := [some .scr, some (.ref lq), some (.tup [.ref a, .ref b]), some (.ref a), some (.ref ls), o5, o6, some (.bool true), .none, .none, .none, .none, .none, .none]
  have pre : ∀ {Res : RS}, evSs ns C ρ7 σ3 (f27_law.body.drop 6) = Res → evSs ns C [some .scr, .none, .none, .none, .none, .none, .none, .none, .none, .none, .none, .none, .none, .none] [] f27_law.body = Res := fun hr =>
    s_assign (e_call (es_two (e_call rfl c0) (e_call rfl c1)) e1) rfl <| s_assign (e_call (es_two (e_slice rfl rfl rfl (slScr (by (first | lia | omega)))) rfl) e2) rfl <| s_assign rfl rfl <| s_assign (e_list es_nil (Nat.zero_le _)) rfl <| s_forP K.hn (src_enum rfl ((Gr.app σ2 _).at rm.outer)) <| after_next (ρ' := lEnv lq (.tup [.ref a, .ref b]) a (.ref ls) o5 o6) (σ' := σ3) (by rw [List.length_map]; exact L) <| s_assign rfl rfl hr
  have fin : ∀ {o8 o9 : Option V} {σ' : H} {rows' : List (List Deed)} {good : Bool}, RowsR σ' rows' a → tot rows' < 64 → rows'.length ≤ 100 → (∀ r ∈ rows', ∀ d ∈ r, Small2 d) → σ'[b]? = some (.dict left) → (walkD [] rows' = if good then some left else .none) → ∃ ρ' σ'', evSs ns C [some .scr, some (.ref lq), some (.tup [.ref a, .ref b]), some (.ref a), some (.ref ls), o5, o6, some (.bool good), o8, o9, .none, .none, .none, .none] σ' (f27_law.body.drop 7) = .ok (.ret (.bool true)) ρ' σ'' := fun hr hz hl hs hb hg => law_end K hr hz hl hs hb si.vd si.kb hll hg
  have F0 := fin (o8 := .none) (o9 := .none) (good := true) (rm.gr g24).rowsR ht hrl sm2 (g24.at hi.left) si.wk
  obtain ⟨ρ', σ', eF⟩ := F0
  have cN : Ev ns C ρ7 (.cmp .ne (.var 4) (.list [])) σ3 (.bool (!decide (xs = []))) σ4 := e_cmp rfl (e_list es_nil (Nat.zero_le _)) (neNil ((Gr.app σ3 _).at hls) (at_new σ3 _))
  by_cases hx : xs = []
  · exact ⟨_, f_ret (fn := f27_law) (vs := [.scr]) rfl (pre (s_ifF (andF (cN.trans (by rw [decide_eq_true hx]; rfl))) eF))⟩
  · have cT := cN.trans (by rw [decide_eq_false hx]; rfl : _ = R.ok (V.bool true) σ4)
    obtain ⟨y0, k0⟩ := K.cell 0 σ4
    obtain ⟨y1, k1⟩ := K.cell 1 σ4
    have c2 : Ev ns C ρ7 (.cmp .eq (.bin .mod (.bin .fdiv (.call 11 [(.var 0), (.lit (V.int 0))]) (.lit (V.int 7))) (.lit (V.int 3))) (.lit (V.int 1))) σ4 (.bool (decide ((y0.fdiv 7).fmod 3 = 1))) σ4 := e_cmp (e_bin (e_bin (e_call rfl k0) rfl rfl) rfl rfl) rfl (eqI _ _)
    by_cases h3 : (y0.fdiv 7).fmod 3 = 1
    · have hpos : 0 < xs.length := List.length_pos_iff.mpr hx
      obtain ⟨m1, m2⟩ := fmod_lt (y1.fdiv 7) (y := xs.length) (by (first | lia | omega))
      have hix : ((y1.fdiv 7).fmod xs.length).toNat < xs.length := by (first | lia | omega)
      obtain ⟨j, k, row, d, hsv, hj, hk, hru⟩ := hsp _ (List.getElem_mem hix)
      have rm4 := rm.gr g24
      have hls4 : σ4[ls]? = some (.list xs) := (Gr.app σ3 _).at hls
      obtain ⟨r, hr, vs, ev, all2⟩ := rm4.rows.at hj
      obtain ⟨v, hv, dd⟩ := all2.at hk
      have hdm := List.mem_of_getElem? hk
      have hrm := List.mem_of_getElem? hj
      have hkind : (∃ n t, d = .read n t) ∨ ∃ h ps, d = .under h ps := by
        cases d with
        | read n t => exact .inl ⟨n, t, rfl⟩
        | under h ps => exact .inr ⟨h, ps, rfl⟩
        | write n t => exact hru.elim
        | back n => exact hru.elim
      obtain ⟨d', v', σ5, e22, g5, dr', alt, df⟩ := K.spoiled dd.1 hkind (si.sm row hrm d hdm) y1
      have rm5 := rm4.gr g5
      have dd' : Dd σ5 _ d' v' := ⟨dr', df.imp fun l hl hm => absurd (rm4.lt l hm) (Nat.not_lt.mpr hl)⟩
      obtain ⟨r', vs', v0, hr', hM, ev', hv', hvl, drv, rm6⟩ := rm5.store hj hk dd'
      have hkl := (List.getElem?_eq_some_iff.mp hk).1
      have fr := set_at (σ := σ5) (m := r') (.list (vs'.set k v'))
      have do6 := ((dd.gr g5 (fun _ _ q => q)).fr hM fr fun _ _ q => q).1
      have dn6 := (dd'.fr hM fr fun _ _ q => q).1
      obtain ⟨bb, eb, hbb⟩ := deed_eq do6 dn6 alt
      have hjr : ((is ++ [c]).map V.ref)[j]? = some (.ref r') := by rw [List.getElem?_map, hr']; rfl
      have hjr0 : ((is ++ [c]).map V.ref)[j]? = some (.ref r) := by rw [List.getElem?_map, hr]; rfl
      have tl := tot_take (List.getElem?_eq_some_iff.mp hj).1
      have tle := tot_le rows (j + 1)
      have hrl2 : row.length < 64 := by rw [(List.getElem?_eq_some_iff.mp hj).2] at tl; (first | lia | omega)
      have h6 : (σ5.set r' (.list (vs'.set k v')))[r']? = some (.list (vs'.set k v')) := set_self (rm5.lt r' hM) _
      have hne : b ≠ r' := fun q => by
        have := (nd4 hi.nd).2.2.2.2.1
        have h7 := (nd4 hi.nd).2.2.2.2.2.2
        rcases List.mem_append.mp (List.mem_of_getElem? hr') with m | m
        · exact (h7 r' m).2.1 q.symm
        · exact this (q.trans (List.mem_singleton.mp m))
      have E8 : Ev ns C ρ7 (.idx (.var 4) (.bin .mod (.bin .fdiv (.call 11 [(.var 0), (.lit (V.int 1))]) (.lit (V.int 7))) (.bi .len (.var 4)))) σ4 (.tup [.int j, .int k]) σ4 :=
        e_idx rfl (e_bin (e_bin (e_call rfl k1) rfl rfl) (e_bi K.hn rfl (lenL hls4)) (modV (by (first | lia | omega)))) (idxL hls4 m1 (by rw [List.getElem?_eq_getElem hix, hsv]))
      have s2' : ∀ x ∈ rows.set j (row.set k d'), ∀ e ∈ x, Small2 e := fun x hx e he => by
        rcases List.mem_or_eq_of_mem_set hx with q | rfl
        · exact sm2 x q e he
        · rcases List.mem_or_eq_of_mem_set he with q | rfl
          · exact sm2 row hrm e q
          · cases d with
            | read n t => cases e <;> first | trivial | exact alt.elim
            | under h ps => cases e <;> first | exact alt.2 | exact alt.elim
            | write n t => exact hru.elim
            | back n => exact hru.elim
      obtain ⟨ρ9, σ9, e9⟩ := fin (o8 := some (.tup [.int j, .int k])) (o9 := some v) (good := bb) rm6.rowsR (by rw [tot_set hj (List.length_set ..)]; exact ht) (by rw [List.length_set]; exact hrl) s2' (fr _ _ hne (g5.at (g24.at hi.left))) (by
        cases bb with
        | true =>
          rw [hbb.mp rfl, set_same hk, set_same hj]
          exact si.wk
        | false => exact walk_spoil si.wk hj hk hru alt fun q => absurd (hbb.mpr q) Bool.false_ne_true)
      refine ⟨_, f_ret (fn := f27_law) (vs := [.scr]) rfl (pre (s_ifT (andT cT (and1 (c2.trans (by rw [decide_eq_true h3])))) (after_next (s_assign E8 rfl <| s_assign (e_idx (e_idx rfl rfl (idxL rm4.outer (Int.natCast_nonneg j) hjr0)) rfl (idxL ev (Int.natCast_nonneg k) hv)) rfl <| s_set (e_call (es_two rfl (e_call rfl k1)) e22) (e_idx rfl rfl (idxL rm5.outer (Int.natCast_nonneg j) hjr)) rfl (setL ev' (by (first | lia | omega)) (by (first | lia | omega))) <| s_assign (e_cmp (e_idx (e_idx rfl rfl (idxL rm6.outer (Int.natCast_nonneg j) hjr)) rfl (idxL h6 (Int.natCast_nonneg k) (by rw [Int.toNat_natCast]; exact List.getElem?_set_self (by (first | lia | omega))))) rfl eb) rfl ss_nil) e9)))⟩
    · exact ⟨_, f_ret (fn := f27_law) (vs := [.scr]) rfl (pre (s_ifF (andT cT (and1 (c2.trans (by rw [decide_eq_false h3])))) eF))⟩
end
end Mine.L03

set_option maxRecDepth 100000
set_option linter.all false
namespace Mine.L03
open PySem Mine Mine.P

noncomputable def T0 : Tab := ⟨fs, [], subS⟩
noncomputable abbrev Cs (ns : List Int) (n : Nat) : Calls := callsOf ns T0 n
section
variable {ns : List Int}
theorem hn_ (n : Nat) : (Cs ns n).hn = true := by cases n <;> rfl
theorem wk_ (n : Nat) : Wk (Cs ns (n + 3)) where
  hn := hn_ _
  alike := fun s t σ => alike_ok (ns := ns) (C := Cs ns (n + 2)) (fun i σ => whole_ok (ns := ns) (C := Cs ns (n + 1)) i) s t
  seen := fun hd hl hz m => seen_ok (ns := ns) (C := Cs ns (n + 2)) (fun hl hz m => place_ok (ns := ns) (C := Cs ns (n + 1)) (hn_ _) hl hz m) hd hl hz m
  pairs := fun hd hl hz hv h => pairs_of_ok (ns := ns) (C := Cs ns (n + 2)) (hn_ _) (fun x y σ => under_ok (ns := ns) (C := Cs ns (n + 1)) x y) (fun hd hl hz m => seen_ok (ns := ns) (C := Cs ns (n + 1)) (fun hl hz m => place_ok (ns := ns) (C := Cs ns n) (hn_ _) hl hz m) hd hl hz m) hd hl hz hv h
  row := fun ha hb => same_row_ok (ns := ns) (C := Cs ns (n + 2)) (hn_ _) (fun s t σ => alike_ok (ns := ns) (C := Cs ns (n + 1)) (fun i σ => whole_ok (ns := ns) (C := Cs ns n) i) s t) ha hb
theorem wk2_ (n : Nat) : Wk2 (Cs ns (n + 4)) where
  hn := hn_ _
  done := fun hd hr hv hz => done_ok (wk_ n) hd hr hv hz
  values := fun hl hz => values_ok (ns := ns) (C := Cs ns (n + 3)) (hn_ _) hl hz
theorem dk_ (n : Nat) : Dk (Cs ns (n + 1)) where
  hn := hn_ _
  last := fun hl hz => last_ok (ns := ns) (C := Cs ns n) (hn_ _) hl hz
  under := fun hd hj hz hv hk h => told_under_ok (ns := ns) (C := Cs ns n) (hn_ _) hd hj hz hv hk h
  value := fun x σ => value_ok (ns := ns) (C := Cs ns n) x
theorem rk_ (n : Nat) : Rk (Cs ns (n + 2)) where
  hn := hn_ _
  mixed := fun x σ => ⟨_, mixed_ok (ns := ns) (C := Cs ns (n + 1)) x⟩
  last := fun hl hz => last_ok (ns := ns) (C := Cs ns (n + 1)) (hn_ _) hl hz
  deed := fun hd hp hq hv hk hw hz hx hxl hxn more cell => deed_ok (dk_ n) hd hp hq hv hk hw hz hx hxl hxn more cell
theorem walked_ (n : Nat) {l : Nat} {rows : List (List Deed)} {σ : H} (hr : RowsR σ rows l) (hz : tot rows < 64) : (∃ v l' σ', walkD [] rows = some v ∧ (Cs ns (n + 5)).call 9 [.ref l] σ = .ok (.ref l') σ' ∧ Gr σ σ' ∧ σ'[l']? = some (.list (pV (told v [])))) ∨ (∃ σ', walkD [] rows = .none ∧ (Cs ns (n + 5)).call 9 [.ref l] σ = .exc 9 σ' ∧ Gr σ σ') :=
  walked_ok (ns := ns) (wk2_ (ns := ns) n) hr hz
theorem lk_ (n : Nat) : Lk ns (Cs ns (n + 6)) where
  hn := hn_ _
  sub := rfl
  cell := fun k σ => ⟨_, cell_ok (ns := ns) (C := Cs ns (n + 5)) (hn_ _) k⟩
  pool := fun a b σ => pool_ok (ns := ns) (C := Cs ns (n + 5)) (hn_ _) (fun c σ => name_ok (ns := ns) (C := Cs ns (n + 4)) (hn_ _) (fun x σ => ⟨_, mixed_ok (ns := ns) (C := Cs ns (n + 3)) x⟩) c) (fun x c σ h1 h2 => twin_ok (ns := ns) (C := Cs ns (n + 4)) (hn_ _) h1 h2 c) a b
  rows := fun hc hq hl hx hxl hxn => rows_ok (rk_ (n + 3)) hc hq hl hx hxl hxn
  walked := fun hr hz => walked_ (n + 1) hr hz
  pairs := fun ha hb hz => pairs_ok (ns := ns) (C := Cs ns (n + 5)) (hn_ _) (fun s t σ => same_ok (ns := ns) (C := Cs ns (n + 4)) (fun i σ => whole_ok (ns := ns) (C := Cs ns (n + 3)) i) s t) ha hb hz
  under := fun hd hj hz hv hk h => told_under_ok (ns := ns) (C := Cs ns (n + 5)) (hn_ _) hd hj hz hv hk h
  spoiled := fun h hk hs way => spoiled_ok (ns := ns) (C := Cs ns (n + 5)) (hn_ _) h hk hs way
  alike := fun h h' hz hr => rows_alike_ok (ns := ns) (C := Cs ns (n + 5)) (hn_ _) h h' hz hr
  copied := fun h hs => copied_ok (ns := ns) (C := Cs ns (n + 5)) (hn_ _) h hs
  refused := fun hr hz hw => by
    rcases walked_ (ns := ns) n hr hz with ⟨v, _, _, e, _⟩ | ⟨σ', _, e, g⟩
    · rw [hw] at e; cases e
    · exact refused_ok (ns := ns) (C := Cs ns (n + 5)) (hn_ _) rfl e g
theorem pure (ns : List Int) (h : ns.length ≤ 63) : ∃ σ, (callsOf ns T0 12).call 27 [.scr] [] = .ok (.bool true) σ := law_ok (lk_ (ns := ns) 5) h
end
end Mine.L03

set_option maxRecDepth 100000
set_option linter.all false
set_option genSizeOf false
set_option genSizeOfSpec false
set_option genInjectivity false
namespace Mine
open PySem

/-! A check that says whether a small tree stands for a tree of the text, and why. -/
structure Ok (P : Prop) where
  b : Bool
  h : b = true → P
section
variable {P Q R : Prop} {α : Type}
noncomputable def Ok.no : Ok P := ⟨false, fun h => nomatch h⟩
noncomputable def Ok.map (a : Ok P) (f : P → Q) : Ok Q := ⟨a.b, fun h => f (a.h h)⟩
theorem and2 {a b : Bool} (h : (a && b) = true) : a = true ∧ b = true := (Bool.and_eq_true _ _).mp h
noncomputable def Ok.and (a : Ok P) (b : Ok Q) (f : P → Q → R) : Ok R := ⟨a.b && b.b, fun h => f (a.h (and2 h).1) (b.h (and2 h).2)⟩
noncomputable def Ok.iff (p : Prop) [Decidable p] (f : p → Ok P) : Ok P := if h : p then f h else .no
noncomputable def Ok.dec (p : Prop) [Decidable p] (f : p → P) : Ok P := ⟨decide p, fun h => f (of_decide_eq_true h)⟩
noncomputable def Ok.on (o : Option α) (f : α → Ok P) : Ok P := match o with
  | some a => f a
  | .none => .no
end

noncomputable def sameV (v w : V) : Ok (v = w) := match v with
  | .none => match w with | .none => ⟨true, fun _ => rfl⟩ | _ => .no
  | .bool b => match w with | .bool c => .dec (b = c) (congrArg V.bool) | _ => .no
  | .int i => match w with | .int j => .dec (i = j) (congrArg V.int) | _ => .no
  | .str x => match w with | .str y => .dec (x = y) (congrArg V.str) | _ => .no
  | _ => .no
noncomputable def litIs (k : Const) (v : V) : Ok (litOf k = some v) := match litOf k with
  | some w => (sameV w v).map (congrArg some)
  | .none => .no
noncomputable def conIs (x : Str) (v : V) : (l : List (Str × V)) → Ok ((x, v) ∈ l)
  | [] => .no
  | (y, w) :: r => if h : x = y then (sameV v w).map fun q => by rw [h, q]; exact List.mem_cons_self else (conIs x v r).map fun q => List.mem_cons_of_mem _ q
noncomputable abbrev NC (e : Expr) : Type := { q : Str × Pos × List Expr × Pos // e = .Call (.Name q.1 q.2.1) q.2.2.1 [] q.2.2.2 }
noncomputable def nc (e : Expr) : Option (NC e) := match e with
  | .Call (.Name x q) xs [] p => some ⟨(x, q, xs, p), rfl⟩
  | _ => .none
noncomputable abbrev AC (e : Expr) : Type := { q : Expr × Str × Pos × List Expr × Pos // e = .Call (.Attribute q.1 q.2.1 q.2.2.1) q.2.2.2.1 [] q.2.2.2.2 }
noncomputable def ac (e : Expr) : Option (AC e) := match e with
  | .Call (.Attribute o m a) xs [] p => some ⟨(o, m, a, xs, p), rfl⟩
  | _ => .none
noncomputable def nm (e : Expr) : Option { q : Str × Pos // e = .Name q.1 q.2 } := match e with
  | .Name x p => some ⟨(x, p), rfl⟩
  | _ => .none
noncomputable def one1 {α : Type} (l : List α) : Option { x : α // l = [x] } := match l with | [x] => some ⟨x, rfl⟩ | _ => .none
noncomputable def two2 {α : Type} (l : List α) : Option { x : α × α // l = [x.1, x.2] } := match l with | [x, y] => some ⟨(x, y), rfl⟩ | _ => .none
noncomputable def un (e : Expr) : Option { q : UnaryOp × Expr × Pos // e = .UnaryOp q.1 q.2.1 q.2.2 } := match e with
  | .UnaryOp o x p => some ⟨(o, x, p), rfl⟩
  | _ => .none
noncomputable def bo (e : Expr) : Option { q : BoolOp × List Expr × Pos // e = .BoolOp q.1 q.2.1 q.2.2 } := match e with
  | .BoolOp o x p => some ⟨(o, x, p), rfl⟩
  | _ => .none
noncomputable def cm (e : Expr) : Option { q : Expr × List CmpOp × List Expr × Pos // e = .Compare q.1 q.2.1 q.2.2.1 q.2.2.2 } := match e with
  | .Compare l o x p => some ⟨(l, o, x, p), rfl⟩
  | _ => .none
noncomputable def dt (e : Expr) : Option { q : List (Option Expr) × List Expr × Pos // e = .Dict q.1 q.2.1 q.2.2 } := match e with
  | .Dict k x p => some ⟨(k, x, p), rfl⟩
  | _ => .none
noncomputable def lc (e : Expr) : Option { q : Expr × Str × Pos × Expr × List Expr × Scope × Pos // e = .ListComp q.1 [⟨.Name q.2.1 q.2.2.1, q.2.2.2.1, q.2.2.2.2.1, 0⟩] q.2.2.2.2.2.1 q.2.2.2.2.2.2 } := match e with
  | .ListComp el [⟨.Name x px, it, ifs, 0⟩] sc p => some ⟨(el, x, px, it, ifs, sc, p), rfl⟩
  | _ => .none

mutual
noncomputable def kE (G : GT) : (t : E) → (cx : Cx) → (e : Expr) → Ok (T G t cx e)
  | .lit v, _, e => match e with
    | .Constant k i p => (litIs k v).map fun h => ⟨k, i, p, rfl, h⟩
    | _ => .no
  | .var k, cx, e => .on (nm e) fun q => .dec (cx.slot q.1.1 = some k ∧ (q.1.1 == ("__debug__" : Str)) = false) fun h => ⟨_, _, q.2, h⟩
  | .con v, cx, e => .on (nm e) fun q => .iff (cx.glob q.1.1 = true) fun h => (conIs q.1.1 v G.con).map fun g => ⟨_, _, q.2, h, g⟩
  | .bin op a b, cx, e => match e with
    | .BinOp l o r p => .iff (o = opOf op) fun h => (kE G a cx l).and (kE G b cx r) fun h1 h2 => ⟨l, r, p, congrArg (fun o => Expr.BinOp l o r p) h, h1, h2⟩
    | _ => .no
  | .not a, cx, e => .on (un e) fun q => .iff (q.1.1 = .Not) fun h => (kE G a cx q.1.2.1).map fun g => ⟨_, _, h ▸ q.2, g⟩
  | .neg a, cx, e => .on (un e) fun q => .iff (q.1.1 = .USub) fun h => (kE G a cx q.1.2.1).map fun g => ⟨_, _, h ▸ q.2, g⟩
  | .and es, cx, e => .on (bo e) fun q => .iff (q.1.1 = .And) fun h => (kEs G es cx q.1.2.1).map fun g => ⟨_, _, h ▸ q.2, g⟩
  | .or es, cx, e => .on (bo e) fun q => .iff (q.1.1 = .Or) fun h => (kEs G es cx q.1.2.1).map fun g => ⟨_, _, h ▸ q.2, g⟩
  | .cmp op a b, cx, e => .on (cm e) fun q => .iff (q.1.2.1 = [cmOf op]) fun h => .on (one1 q.1.2.2.1) fun r => (kE G a cx q.1.1).and (kE G b cx r.1) fun h1 h2 => ⟨_, _, _, r.2 ▸ h ▸ q.2, h1, h2⟩
  | .call f es, cx, e => .on (nc e) fun q => .iff (cx.glob q.1.1 = true ∧ G.fns[f]? = some q.1.1) fun h => (kEs G es cx q.1.2.2.1).map fun g => ⟨_, _, _, _, q.2, h.1, h.2, g⟩
  | .bi b a, cx, e => .on (nc e) fun q => .iff (q.1.1 = biName b ∧ cx.glob (biName b) = true) fun h => .on (one1 q.1.2.2.1) fun r => (kE G a cx r.1).map fun g => ⟨_, _, _, r.2 ▸ h.1 ▸ q.2, h.2, g⟩
  | .listRev a, cx, e => .on (nc e) fun q => .iff (q.1.1 = "list" ∧ cx.glob "list" = true ∧ cx.glob "reversed" = true) fun h => .on (one1 q.1.2.2.1) fun r => .on (nc r.1) fun q' => .iff (q'.1.1 = "reversed") fun h' => .on (one1 q'.1.2.2.1) fun r' => (kE G a cx r'.1).map fun g => ⟨_, _, _, _, _, r'.2 ▸ h' ▸ q'.2 ▸ r.2 ▸ h.1 ▸ q.2, h.2.1, h.2.2, g⟩
  | .isi a t, cx, e => .on (nc e) fun q => .iff (q.1.1 = "isinstance" ∧ cx.glob "isinstance" = true) fun h => .on (two2 q.1.2.2.1) fun r => .on (nm r.1.2) fun y => .iff (cx.glob y.1.1 = true ∧ tyName G t = some y.1.1) fun h' => (kE G a cx r.1.1).map fun g => ⟨_, _, _, _, _, y.2 ▸ r.2 ▸ h.1 ▸ q.2, h.2, h'.1, h'.2, g⟩
  | .me a m es, cx, e => .on (ac e) fun q => .iff (q.1.2.1 = meName m ∧ plainBase q.1.1 = true ∧ q.1.2.2.1.endLine = q.1.2.2.2.2.line ∧ q.1.2.2.2.1.length < 29) fun h => (kE G a cx q.1.1).and (kEs G es cx q.1.2.2.2.1) fun h1 h2 => ⟨_, _, _, _, h.1 ▸ q.2, h.2.1, h.2.2.1, h.2.2.2, h1, h2⟩
  | .idx a i, cx, e => match e with
    | .Subscript v j p => (kE G a cx v).and (kE G i cx j) fun h1 h2 => ⟨v, j, p, rfl, h1, h2⟩
    | _ => .no
  | .slice a lo hi, cx, e => match e with
    | .Subscript v (.Slice l h none q) p => (kE G a cx v).and (Ok.and (match l with | .none => Ok.dec (isNil lo = true) fun h => .inl ⟨rfl, h⟩ | some x => (kE G lo cx x).map fun h => .inr ⟨x, rfl, h⟩ : Ok ((l = none ∧ isNil lo = true) ∨ ∃ x, l = some x ∧ T G lo cx x)) (match h with | .none => Ok.dec (isNil hi = true) fun h => .inl ⟨rfl, h⟩ | some x => (kE G hi cx x).map fun h => .inr ⟨x, rfl, h⟩ : Ok ((h = none ∧ isNil hi = true) ∨ ∃ x, h = some x ∧ T G hi cx x)) And.intro) fun h1 h2 => ⟨v, l, h, q, p, rfl, h1, h2⟩
    | _ => .no
  | .nil, _, _ => .no
  | .list es, cx, e => match e with
    | .List xs p => (kEs G es cx xs).map fun g => ⟨xs, p, rfl, g⟩
    | _ => .no
  | .tup es, cx, e => match e with
    | .Tuple xs k p => (kEs G es cx xs).map fun g => ⟨xs, k, p, rfl, g⟩
    | _ => .no
  | .dict0, _, e => .on (dt e) fun q => match h : q.1 with
    | ([], [], p) => ⟨true, fun _ => ⟨p, by have := q.2; rw [h] at this; exact this⟩⟩
    | _ => .no
  | .comp src elt, cx, e => .on (lc e) fun q => .iff (q.1.2.2.2.2.1 = [] ∧ plainSrc src = true) fun h => match hc : cx.inComp q.1.2.1 q.1.2.2.2.2.2.1 with
    | some cx' => (kSrc G src cx q.1.2.2.2.1).and (kE G elt cx' q.1.1) fun h1 h2 => ⟨_, _, _, _, _, _, cx', h.1 ▸ q.2, hc, h.2, h1, h2⟩
    | .none => .no
  | .compIf src elt c, cx, e => .on (lc e) fun q => .on (one1 q.1.2.2.2.2.1) fun r => .iff (plainSrc src = true) fun h => match hc : cx.inComp q.1.2.1 q.1.2.2.2.2.2.1 with
    | some cx' => (kSrc G src cx q.1.2.2.2.1).and ((kE G elt cx' q.1.1).and (kE G c cx' r.1) And.intro) fun h1 h2 => ⟨_, _, _, _, _, _, _, cx', r.2 ▸ q.2, hc, h, h1, h2⟩
    | .none => .no
noncomputable def kEs (G : GT) : (ts : List E) → (cx : Cx) → (xs : List Expr) → Ok (Ts G ts cx xs)
  | [], _, xs => .dec (xs = []) id
  | t :: ts, cx, xs => match xs with
    | x :: r => (kE G t cx x).and (kEs G ts cx r) fun h1 h2 => ⟨x, r, rfl, h1, h2⟩
    | [] => .no
noncomputable def kSrc (G : GT) : (t : Src) → (cx : Cx) → (e : Expr) → Ok (TSrc G t cx e)
  | .of t, cx, e => (kE G t cx e).map id
  | .range t, cx, e => .on (nc e) fun q => .iff (q.1.1 = "range" ∧ cx.glob "range" = true) fun h => .on (one1 q.1.2.2.1) fun r => (kE G t cx r.1).map fun g => ⟨_, _, _, r.2 ▸ h.1 ▸ q.2, h.2, g⟩
  | .enum t, cx, e => .on (nc e) fun q => .iff (q.1.1 = "enumerate" ∧ cx.glob "enumerate" = true) fun h => .on (one1 q.1.2.2.1) fun r => (kE G t cx r.1).map fun g => ⟨_, _, _, r.2 ▸ h.1 ▸ q.2, h.2, g⟩
  | .zip a b, cx, e => .on (nc e) fun q => .iff (q.1.1 = "zip" ∧ cx.glob "zip" = true) fun h => .on (two2 q.1.2.2.1) fun r => (kE G a cx r.1.1).and (kE G b cx r.1.2) fun h1 h2 => ⟨_, _, _, _, r.2 ▸ h.1 ▸ q.2, h.2, h1, h2⟩
end
noncomputable def asg (s : Stmt) : Option { q : Expr × Expr × Pos // s = .Assign [q.1] q.2.1 q.2.2 } := match s with
  | .Assign [t] v p => some ⟨(t, v, p), rfl⟩
  | _ => .none
noncomputable def frs (s : Stmt) : Option { q : Expr × Expr × List Stmt × Pos // s = .For q.1 q.2.1 q.2.2.1 [] q.2.2.2 } := match s with
  | .For t it b [] p => some ⟨(t, it, b, p), rfl⟩
  | _ => .none
mutual
noncomputable def kS (G : GT) : (t : S) → (cx : Cx) → (s : Stmt) → Ok (TS G t cx s)
  | .assign k t, cx, st => .on (asg st) fun q => .on (nm q.1.1) fun x => .iff (cx.slot x.1.1 = some k) fun h => (kE G t cx q.1.2.1).map fun g => ⟨_, _, _, _, x.2 ▸ q.2, h, g⟩
  | .setitem a i t, cx, st => match st with
    | .Assign [.Subscript u j sp] v p => .iff (isComp t = false) fun h => (kE G a cx u).and ((kE G i cx j).and (kE G t cx v) And.intro) fun h1 h2 => ⟨u, j, sp, v, p, rfl, h1, h2.1, h2.2, h⟩
    | _ => .no
  | .expr t, cx, st => match st with
    | .Expr v p => .iff (exprOk t = true) fun h => (kE G t cx v).map fun g => ⟨v, p, rfl, h, g⟩
    | _ => .no
  | .ret t, cx, st => match st with
    | .Return (some v) p => (kE G t cx v).map fun g => ⟨v, p, rfl, g⟩
    | _ => .no
  | .ite c a b, cx, st => match st with
    | .If e x y p => (kE G c cx e).and ((kSs G a cx x).and (kSs G b cx y) And.intro) fun h1 h2 => ⟨e, x, y, p, rfl, h1, h2⟩
    | _ => .no
  | .forN k src b, cx, st => .on (frs st) fun q => .on (nm q.1.1) fun x => .iff (cx.slot x.1.1 = some k ∧ plainSrc src = true) fun h => (kSrc G src cx q.1.2.1).and (kSs G b cx q.1.2.2.1) fun h1 h2 => ⟨_, _, _, _, _, x.2 ▸ q.2, h.1, h.2, h1, h2⟩
  | .forP k k' src b, cx, st => match st with
    | .For (.Tuple [.Name x px, .Name y py] tk tp) it body [] p => .iff (cx.slot x = some k ∧ cx.slot y = some k') fun h => (kSrc G src cx it).and (kSs G b cx body) fun h1 h2 => ⟨x, px, y, py, tk, tp, it, body, p, rfl, h.1, h.2, h1, h2⟩
    | _ => .no
  | .raise c, cx, st => match st with
    | .Raise (some (.Call (.Name x np) [.Constant (.str m) i ap] [] cp)) none p => .dec (cx.glob x = true ∧ G.cls[c]? = some x ∧ (codes m).length ≤ 4096) fun h => ⟨x, np, m, i, ap, cp, p, rfl, h⟩
    | _ => .no
  | .dead, _, _ => ⟨true, fun _ => trivial⟩
  | .try b hs, cx, st => match st with
    | .Try body (e :: ehs) [] [] p => (kSs G b cx body).and (kHs G hs cx (e :: ehs)) fun h1 h2 => ⟨body, e :: ehs, p, rfl, h1, h2, fun q => nomatch q⟩
    | _ => .no
noncomputable def kSs (G : GT) : (ts : List S) → (cx : Cx) → (xs : List Stmt) → Ok (TSs G ts cx xs)
  | [], _, xs => match xs with
    | [] => ⟨true, fun _ => rfl⟩
    | _ => .no
  | t :: ts, cx, xs => match xs with
    | x :: r => (kS G t cx x).and (kSs G ts cx r) fun h1 h2 => ⟨x, r, rfl, h1, h2⟩
    | [] => .no
noncomputable def kHs (G : GT) : (ts : List Hd) → (cx : Cx) → (xs : List ExceptHandler) → Ok (THs G ts cx xs)
  | [], _, xs => match xs with
    | [] => ⟨true, fun _ => rfl⟩
    | _ => .no
  | t :: ts, cx, xs => match xs with
    | x :: r => (kH G t cx x).and (kHs G ts cx r) fun h1 h2 => ⟨x, r, rfl, h1, h2⟩
    | [] => .no
noncomputable def kH (G : GT) : (t : Hd) → (cx : Cx) → (x : ExceptHandler) → Ok (TH G t cx x)
  | .mk c k b, cx, h => match h with
    | .ExceptHandler (some (.Name x p)) nm (s :: body) pos => .iff (cx.glob x = true ∧ G.cls[c]? = some x) fun h => (kSs G b cx (s :: body)).and (match k with
        | .none => match nm with
          | .none => ⟨true, fun _ => .inl ⟨rfl, rfl⟩⟩
          | _ => .no
        | some j => match nm with
          | some y => .dec (cx.slots.lookup y = some j ∧ cx.kinds.lookup y = some .local) fun h => .inr ⟨j, y, rfl, rfl, h⟩
          | .none => .no : Ok ((k = none ∧ nm = none) ∨ ∃ j y, k = some j ∧ nm = some y ∧ cx.slots.lookup y = some j ∧ cx.kinds.lookup y = some .local)) fun h1 h2 => ⟨x, p, nm, s :: body, pos, rfl, h.1, h.2, (fun q => nomatch q), h1, h2⟩
    | _ => .no
end
noncomputable def kFn (G : GT) (fn : Fn) (a : Arguments) (body : List Stmt) (sc : Scope) : Ok (TFn G fn a body sc) :=
  .iff (((slotsOf sc.names 0).map (·.1)).take a.args.length = a.args.map (·.arg) ∧ (sc.names.map (·.1)).Nodup ∧ sc.kind = .function ∧ sc.isGenerator = false ∧ sc.isCoroutine = false ∧ fn.nargs = a.args.length ∧ fn.n = (slotsOf sc.names 0).length) fun h =>
    (kSs G fn.body ⟨sc.names, slotsOf sc.names 0, (slotsOf sc.names 0).length⟩ body).map fun g => ⟨h.1, h.2.1, h.2.2.1, h.2.2.2.1, h.2.2.2.2.1, g, h.2.2.2.2.2⟩
end Mine

set_option maxRecDepth 100000
set_option genSizeOf false
set_option genSizeOfSpec false
set_option genInjectivity false
namespace Mine
open PySem

/-! What the text's world is: fixed things of one run. -/
structure W where
  prog : Program
  w : World
  /-- the heap as the call found it -/
  h₀ : Heap
  /-- the script's list -/
  scr : Addr
  ns : List Int
  /-- where the classes lie -/
  ca : Nat → Addr
  /-- where the text's other classes lie -/
  co : Nat → Addr
  /-- where the defs lie -/
  fa : Nat → Addr
  /-- the text's objects -/
  K : PySem.W.Frag
  /-- tuples that the machine keeps for itself -/
  bad : Addr → Prop

/-- an exception: its class, and no attributes of its own -/
noncomputable def IsX (cls : Value) (o : Obj) : Prop := o.cls = cls ∧ o.dict = none
variable (X : W)

mutual
/-- a value of the small language stands for a value of the machine -/
inductive VR (h : Heap) (μ : List Addr) : V → Value → Prop
  | none : VR h μ .none .none
  | bool (b : Bool) : VR h μ (.bool b) (.bool b)
  | int (i : Int) (t : Tok) : VR h μ (.int i) (.int i t)
  | str (x : Str) (t : Tok) : x.length ≤ lim → VR h μ (.str (codes x)) (.str x t)
  | ref {i : Nat} {a : Addr} : μ[i]? = some a → VR h μ (.ref i) (.ref a)
  | tup {vs : List V} {a : Addr} {l : List Value} {n : Nat} : h.get? a = some { cls := .type "tuple", data := .seq l.toArray n } → ¬ X.bad a → l.length ≤ lim → VRs h μ vs l → VR h μ (.tup vs) (.ref a)
  | inst {c d : Nat} {a δ : Addr} {sl : Array (Option Value)} : h.get? a = some ⟨.ref (X.co c), some δ, .plain, sl⟩ → μ[d]? = some δ → VR h μ (.inst c d) (.ref a)
  | exc {c : Nat} {a : Addr} {o : Obj} {fs : Array Value} : h.get? a = some o → IsX (.ref (X.ca c)) o → o.data = .fields fs → VR h μ (.exc c) (.ref a)
  | scr : VR h μ .scr (.ref X.scr)
inductive VRs (h : Heap) (μ : List Addr) : List V → List Value → Prop
  | nil : VRs h μ [] []
  | cons {v : V} {vs : List V} {u : Value} {us : List Value} : VR h μ v u → VRs h μ vs us → VRs h μ (v :: vs) (u :: us)
end

/-- the entries of a dict -/
structure ERs (h : Heap) (μ : List Addr) (kvs : List (List Nat × V)) (l : List (Str × Value)) : Prop where
  keys : kvs.map (·.1) = l.map fun p => codes p.1
  lim : ∀ p ∈ l, p.1.length ≤ lim
  vals : VRs X h μ (kvs.map (·.2)) (l.map (·.2))

/-- an object of the small heap stands at an address -/
inductive OR (h : Heap) (μ : List Addr) (a : Addr) : O → Prop
  | list {xs : List V} {l : List Value} {n : Nat} : h.get? a = some { cls := .type "list", data := .seq l.toArray n } → l.length ≤ lim → VRs X h μ xs l → OR h μ a (.list xs)
  | dict {kvs : List (List Nat × V)} {l : List (Str × Value)} : h.DictOf (strKind X.prog X.w) a l → l.length ≤ lim → ERs X h μ kvs l → OR h μ a (.dict kvs)

structure HR (μ : List Addr) (σ : H) (h : Heap) : Prop where
  len : μ.length = σ.length
  nodup : μ.Nodup
  fresh : ∀ a ∈ μ, X.h₀.objs.size ≤ a
  obj : ∀ (i : Nat) (o : O) (a : Addr), σ[i]? = some o → μ[i]? = some a → OR X h μ a o

/-- what a value leans on -/
noncomputable def Solid (a : Addr) (o : Obj) : Prop := (o.cls = .type "tuple" ∨ ∃ c, o.cls = .ref c) ∧ (∀ es n, o.data ≠ .dict es n) ∧ (∀ u, o.data ≠ .cell u) ∧ (o.cls = .type "tuple" → ¬ X.bad a)
theorem Solid.offList {X : W} {a : Addr} {o : Obj} (h : Solid X a o) (hc : o.cls = .type "list" ∨ o.cls = .type "dict") : False := by
  rcases h.1 with h | ⟨c, h⟩ <;> rcases hc with q | q <;> rw [h] at q <;> simp at q

/-- what stays of a heap but for some places: a frame's or block's table may be noted upon -/
noncomputable def Keep (μ : List Addr) (h h' : Heap) : Prop :=
  ∀ b o, b ∉ μ → h.get? b = some o → ∃ sl, h'.get? b = some { o with slots := sl } ∧ ((∀ es n, o.data ≠ .dict es n) → sl = o.slots)
structure Base (h : Heap) : Prop where
  keep : ∀ b o, X.h₀.get? b = some o → h.get? b = some o
  size : X.h₀.objs.size ≤ h.objs.size
  low : sysModules < X.h₀.objs.size

/-- the frames of the stack -/
noncomputable def FF (h : Heap) (μ : List Addr) : List PySem.Env → Prop
  | [] => True
  | env :: r => (env.scope.kind ≠ .module ∧ ∃ L o es n, env.frame = some L ∧ X.h₀.get? L = none ∧ L ∉ μ ∧ h.get? L = some o ∧ o.data = .dict es n) ∧ FF h μ r

structure Step (s : Shared) (μ : List Addr) (s' : Shared) (μ' : List Addr) (σ' : H) : Prop where
  hr : HR X μ' σ' s'.heap
  keep : Keep μ s.heap s'.heap
  base : Base X s'.heap
  size : s.heap.objs.size ≤ s'.heap.objs.size
  ext : ∃ ν, μ' = μ ++ ν ∧ ∀ a ∈ ν, s.heap.objs.size ≤ a
  gens : s'.gens = s.gens
  os : s'.os = s.os

section
variable {X}
theorem HR.cls {μ : List Addr} {σ : H} {h : Heap} (R : HR X μ σ h) {a : Addr} (ha : a ∈ μ) : ∃ o, h.get? a = some o ∧ (o.cls = .type "list" ∨ o.cls = .type "dict") := by
  obtain ⟨i, hi, e⟩ := List.getElem_of_mem ha
  have h1 : μ[i]? = some a := by rw [List.getElem?_eq_getElem hi, e]
  have hi' : i < σ.length := R.len ▸ hi
  have h2 : σ[i]? = some σ[i] := List.getElem?_eq_getElem hi'
  cases hO : σ[i] with
  | list xs =>
    rw [hO] at h2
    cases R.obj i _ a h2 h1 with
    | list e _ _ => exact ⟨_, e, .inl rfl⟩
  | dict kvs =>
    rw [hO] at h2
    cases R.obj i _ a h2 h1 with
    | dict e _ _ => obtain ⟨o, _, _, e, c, _⟩ := e; exact ⟨o, e, .inr c.1⟩

theorem HR.lt {μ : List Addr} {σ : H} {h : Heap} (R : HR X μ σ h) {a : Addr} (ha : a ∈ μ) : a < h.objs.size := let ⟨_, e, _⟩ := R.cls ha; Heap.lt_size e

/-- an object that is the same, or a record of the same class -/
noncomputable def LikeO (o o' : Obj) : Prop := o' = o ∨ ∃ fs fs', o.data = .fields fs ∧ o'.data = .fields fs' ∧ o'.cls = o.cls ∧ o'.dict = o.dict
theorem LikeO.trans {a b c : Obj} (x : LikeO a b) (y : LikeO b c) : LikeO a c := by
  rcases x with rfl | ⟨f, f', h1, h2, h3⟩
  · exact y
  · rcases y with rfl | ⟨g, g', k1, k2, k3⟩
    · exact .inr ⟨f, f', h1, h2, h3⟩
    · exact .inr ⟨f, g', h1, k2, k3.1.trans h3.1, k3.2.trans h3.2⟩

mutual
theorem VR.like {h h' : Heap} {μ μ' : List Addr} (hk : ∀ a o, h.get? a = some o → Solid X a o → ∃ o', h'.get? a = some o' ∧ LikeO o o') (hμ : ∀ (i : Nat) (a : Addr), μ[i]? = some a → μ'[i]? = some a) :
    ∀ {v : V} {u : Value}, VR X h μ v u → VR X h' μ' v u
  | _, _, .none => .none
  | _, _, .bool b => .bool b
  | _, _, .int i t => .int i t
  | _, _, .str x t z => .str x t z
  | _, _, .ref e => .ref (hμ _ _ e)
  | _, _, .tup e b z r => .tup (by
      obtain ⟨o', e', l⟩ := hk _ _ e ⟨.inl rfl, (by intro _ _ q; cases q), (by intro _ q; cases q), fun _ => b⟩
      rcases l with rfl | ⟨_, _, q, _⟩
      · exact e'
      · cases q) b z (VRs.like hk hμ r)
  | _, _, .inst e m => by
      obtain ⟨o', e', l⟩ := hk _ _ e ⟨.inr ⟨_, rfl⟩, (by intro _ _ q; cases q), (by intro _ q; cases q), (by intro q; cases q)⟩
      rcases l with rfl | ⟨_, _, q, _⟩
      · exact .inst e' (hμ _ _ m)
      · cases q
  | _, _, .exc e c d => by
      obtain ⟨o', e', l⟩ := hk _ _ e ⟨.inr ⟨_, c.1⟩, (by rw [d]; intro _ _ q; cases q), (by rw [d]; intro _ q; cases q), (by rw [c.1]; intro q; cases q)⟩
      rcases l with rfl | ⟨_, fs', _, q2, q3⟩
      · exact .exc e' c d
      · exact .exc e' ⟨q3.1.trans c.1, q3.2.trans c.2⟩ q2
  | _, _, .scr => .scr
theorem VRs.like {h h' : Heap} {μ μ' : List Addr} (hk : ∀ a o, h.get? a = some o → Solid X a o → ∃ o', h'.get? a = some o' ∧ LikeO o o') (hμ : ∀ (i : Nat) (a : Addr), μ[i]? = some a → μ'[i]? = some a) :
    ∀ {v : List V} {u : List Value}, VRs X h μ v u → VRs X h' μ' v u
  | _, _, .nil => .nil
  | _, _, .cons a b => .cons (VR.like hk hμ a) (VRs.like hk hμ b)
end
theorem VR.mono {h h' : Heap} {μ μ' : List Addr} (hk : ∀ a o, h.get? a = some o → Solid X a o → h'.get? a = some o) (hμ : ∀ (i : Nat) (a : Addr), μ[i]? = some a → μ'[i]? = some a) {v : V} {u : Value} (r : VR X h μ v u) : VR X h' μ' v u :=
  r.like (fun a o e s => ⟨o, hk a o e s, .inl rfl⟩) hμ
theorem VRs.mono {h h' : Heap} {μ μ' : List Addr} (hk : ∀ a o, h.get? a = some o → Solid X a o → h'.get? a = some o) (hμ : ∀ (i : Nat) (a : Addr), μ[i]? = some a → μ'[i]? = some a) {v : List V} {u : List Value} (r : VRs X h μ v u) : VRs X h' μ' v u :=
  r.like (fun a o e s => ⟨o, hk a o e s, .inl rfl⟩) hμ
theorem ERs.like {h h' : Heap} {μ μ' : List Addr} {v : List (List Nat × V)} {u : List (Str × Value)} (r : ERs X h μ v u) (hv : ∀ {v : List V} {u : List Value}, VRs X h μ v u → VRs X h' μ' v u) : ERs X h' μ' v u := ⟨r.keys, r.lim, hv r.vals⟩
theorem OR.mono {h h' : Heap} {μ μ' : List Addr} (hk : ∀ a o, h.get? a = some o → Solid X a o → h'.get? a = some o) (hμ : ∀ (i : Nat) (a : Addr), μ[i]? = some a → μ'[i]? = some a)
    {a : Addr} {o : O} (ha : ∀ x, h.get? a = some x → h'.get? a = some x) (r : OR X h μ a o) : OR X h' μ' a o := by
  cases r with
  | list e z r => exact .list (ha _ e) z (r.mono hk hμ)
  | dict e z r => obtain ⟨o, es, ep, e, q⟩ := e; exact .dict ⟨o, es, ep, ha _ e, q⟩ z (r.like fun x => x.mono hk hμ)

theorem ext_get {μ ν : List Addr} : ∀ (i : Nat) (a : Addr), μ[i]? = some a → (μ ++ ν)[i]? = some a := fun i a e => by
  have := (List.getElem?_eq_some_iff.mp e).1
  rw [List.getElem?_append_left this]; exact e

theorem Keep.of_all {μ : List Addr} {h h' : Heap} (k : ∀ b o, b ∉ μ → h.get? b = some o → h'.get? b = some o) : Keep μ h h' := fun b o hb e => ⟨o.slots, k b o hb e, fun _ => rfl⟩
theorem Keep.refl (μ : List Addr) (h : Heap) : Keep μ h h := .of_all fun _ _ _ e => e
theorem Keep.trans {μ μ' : List Addr} {h₁ h₂ h₃ : Heap} (x : Keep μ h₁ h₂) (y : Keep μ' h₂ h₃) (hm : ∀ b o, h₁.get? b = some o → b ∉ μ → b ∉ μ') : Keep μ h₁ h₃ := fun b o hb e => by
  obtain ⟨sl, e1, q1⟩ := x b o hb e
  obtain ⟨sl', e2, q2⟩ := y b _ (hm b o e hb) e1
  exact ⟨sl', e2, fun hd => (q2 hd).trans (q1 hd)⟩
theorem Keep.at {μ : List Addr} {h h' : Heap} (x : Keep μ h h') {b : Addr} {o : Obj} (hb : b ∉ μ) (e : h.get? b = some o) (hd : ∀ es n, o.data ≠ .dict es n) : h'.get? b = some o := by
  obtain ⟨sl, e1, q⟩ := x b o hb e
  rw [q hd] at e1; exact e1
theorem Keep.ns {μ : List Addr} {h h' : Heap} (x : Keep μ h h') {b : Addr} {m : Str → Option Value} (hb : b ∉ μ) (n : h.Ns b m) : h'.Ns b m := by
  obtain ⟨o, es, ep, e, hd, r⟩ := n
  obtain ⟨sl, e1, _⟩ := x b o hb e
  exact ⟨_, es, ep, e1, hd, r⟩
theorem Keep.cell {μ : List Addr} {h h' : Heap} (x : Keep μ h h') {b : Addr} {u : Option Value} (hb : b ∉ μ) (n : h.IsCell b u) : h'.IsCell b u := by
  obtain ⟨o, e, hd⟩ := n
  exact ⟨o, x.at hb e (by rw [hd]; intro _ _ q; cases q), hd⟩

theorem Step.refl {s : Shared} {μ : List Addr} {σ : H} (R : HR X μ σ s.heap) (B : Base X s.heap) : Step X s μ s μ σ :=
  ⟨R, .refl _ _, B, Nat.le_refl _, ⟨[], by simp, fun _ h => nomatch h⟩, rfl, rfl⟩
theorem Step.toks {s s' : Shared} {μ μ' : List Addr} {σ' : H} (S : Step X s μ s' μ' σ') (t : Nat) : Step X s μ { s' with toks := t } μ' σ' := ⟨S.hr, S.keep, S.base, S.size, S.ext, S.gens, S.os⟩
theorem Step.trans {s s' s'' : Shared} {μ μ' μ'' : List Addr} {σ' σ'' : H} (S : Step X s μ s' μ' σ') (S' : Step X s' μ' s'' μ'' σ'') : Step X s μ s'' μ'' σ'' := by
  obtain ⟨ν, rfl, hν⟩ := S.ext
  obtain ⟨ν', rfl, hν'⟩ := S'.ext
  refine ⟨S'.hr, S.keep.trans S'.keep fun b o e hb hm => ?_, S'.base, Nat.le_trans S.size S'.size, ⟨ν ++ ν', by rw [List.append_assoc], fun a ha => ?_⟩, S'.gens.trans S.gens, S'.os.trans S.os⟩
  · rcases List.mem_append.mp hm with h1 | h1
    · exact hb h1
    · exact absurd (Heap.lt_size e) (Nat.not_lt.mpr (hν b h1))
  · rcases List.mem_append.mp ha with h1 | h1
    · exact hν a h1
    · exact Nat.le_trans S.size (hν' a h1)
theorem Step.pers {s s' : Shared} {μ μ' : List Addr} {σ' : H} (S : Step X s μ s' μ' σ') : ∀ b, s'.heap.get? b = none → s.heap.get? b = none := fun b hb => by
  cases e : s.heap.get? b with
  | none => rfl
  | some o =>
    by_cases hm : b ∈ μ
    · obtain ⟨ν, rfl, _⟩ := S.ext
      obtain ⟨o', e', _⟩ := S.hr.cls (List.mem_append_left _ hm)
      rw [hb] at e'; cases e'
    · obtain ⟨sl, e', _⟩ := S.keep b o hm e
      rw [hb] at e'; cases e'
theorem Step.notIn {s s' : Shared} {μ μ' : List Addr} {σ' : H} (S : Step X s μ s' μ' σ') {b : Addr} (hb : b ∉ μ) (hl : b < s.heap.objs.size) : b ∉ μ' := by
  obtain ⟨ν, rfl, hν⟩ := S.ext
  intro hm
  rcases List.mem_append.mp hm with h1 | h1
  · exact hb h1
  · exact absurd hl (Nat.not_lt.mpr (hν b h1))
theorem HR.offC {μ : List Addr} {σ : H} {h : Heap} (R : HR X μ σ h) {a : Addr} {o : Obj} (e : h.get? a = some o) (h1 : o.cls ≠ .type "list") (h2 : o.cls ≠ .type "dict") : a ∉ μ := fun hm => by
  obtain ⟨o', e', hc⟩ := R.cls hm
  rw [e] at e'; cases e'
  rcases hc with hc | hc
  · exact h1 hc
  · exact h2 hc
theorem Step.keepC {s s' : Shared} {μ μ' : List Addr} {σ σ' : H} (S : Step X s μ s' μ' σ') (R : HR X μ σ s.heap) :
    ∀ a o, s.heap.get? a = some o → Solid X a o → s'.heap.get? a = some o := fun a o e hS => S.keep.at (fun hm => by
      obtain ⟨o', e', hc⟩ := R.cls hm
      rw [e] at e'; cases e'
      exact hS.offList hc) e hS.2.1
theorem FF.fun {h : Heap} {μ : List Addr} : ∀ {l : List PySem.Env}, FF X h μ l → h.FunFrames X.h₀ l
  | [], _ => trivial
  | _ :: _, h => by
    obtain ⟨⟨a, L, o, es, n, e1, e2, _, e4, e5⟩, r⟩ := h
    exact ⟨a, ⟨L, o, e1, e2, e4, by rw [e5]; intro _ q; cases q⟩, FF.fun r⟩
theorem Step.ff {s s' : Shared} {μ μ' : List Addr} {σ' : H} (S : Step X s μ s' μ' σ') : ∀ {l : List PySem.Env}, FF X s.heap μ l → FF X s'.heap μ' l
  | [], _ => trivial
  | _ :: _, h => by
    obtain ⟨⟨a, L, o, es, n, e1, e2, e3, e4, e5⟩, r⟩ := h
    obtain ⟨sl, q, _⟩ := S.keep L o e3 e4
    exact ⟨⟨a, L, _, es, n, e1, e2, S.notIn e3 (Heap.lt_size e4), q, e5⟩, S.ff r⟩
theorem Step.get {s s' : Shared} {μ μ' : List Addr} {σ' : H} (S : Step X s μ s' μ' σ') : ∀ (i : Nat) (a : Addr), μ[i]? = some a → μ'[i]? = some a := by
  obtain ⟨ν, rfl, _⟩ := S.ext
  exact ext_get
theorem Step.vr {s s' : Shared} {μ μ' : List Addr} {σ σ' : H} (S : Step X s μ s' μ' σ') (R : HR X μ σ s.heap) {v : V} {u : Value} (r : VR X s.heap μ v u) : VR X s'.heap μ' v u := r.mono (S.keepC R) S.get
theorem Step.vrs {s s' : Shared} {μ μ' : List Addr} {σ σ' : H} (S : Step X s μ s' μ' σ') (R : HR X μ σ s.heap) {v : List V} {u : List Value} (r : VRs X s.heap μ v u) : VRs X s'.heap μ' v u := r.mono (S.keepC R) S.get

/-- a new object -/
theorem HR.push {μ : List Addr} {σ : H} {h : Heap} (R : HR X μ σ h) (o : Obj) : HR X μ σ (h.push o) :=
  ⟨R.len, R.nodup, R.fresh, fun i x a e1 e2 => (R.obj i x a e1 e2).mono (fun _ _ e _ => Heap.get?_push_of_some _ e) (fun _ _ e => e) fun _ e => Heap.get?_push_of_some _ e⟩
theorem HR.keeps {μ : List Addr} {σ : H} {h h' : Heap} (R : HR X μ σ h) (k : ∀ b o, h.get? b = some o → h'.get? b = some o) : HR X μ σ h' :=
  ⟨R.len, R.nodup, R.fresh, fun i x a e1 e2 => (R.obj i x a e1 e2).mono (fun _ _ e _ => k _ _ e) (fun _ _ e => e) fun _ e => k _ _ e⟩
theorem HR.alloc {μ : List Addr} {σ : H} {h : Heap} (R : HR X μ σ h) {a : Addr} {o : O} (ha : a ∉ μ) (hf : X.h₀.objs.size ≤ a) (r : OR X h (μ ++ [a]) a o) : HR X (μ ++ [a]) (σ ++ [o]) h where
  len := by rw [List.length_append, List.length_append, R.len]; rfl
  nodup := List.nodup_append.mpr ⟨R.nodup, by simp, fun x hx y hy e => ha (by rw [List.mem_singleton.mp hy] at e; exact e ▸ hx)⟩
  fresh := fun b hb => by
    rcases List.mem_append.mp hb with h1 | h1
    · exact R.fresh b h1
    · rw [List.mem_singleton.mp h1]; exact hf
  obj := fun i x b e1 e2 => by
    by_cases hi : i < σ.length
    · rw [List.getElem?_append_left hi] at e1
      rw [List.getElem?_append_left (R.len ▸ hi)] at e2
      exact (R.obj i x b e1 e2).mono (fun _ _ e _ => e) ext_get fun _ e => e
    · have hi' : σ.length ≤ i := Nat.le_of_not_lt hi
      rw [List.getElem?_append_right hi'] at e1
      rw [List.getElem?_append_right (R.len ▸ hi'), R.len] at e2
      cases hk : i - σ.length with
      | zero =>
        rw [hk] at e1 e2
        cases e1; cases e2; exact r
      | succ k => rw [hk] at e1; cases e1

theorem getElem?_nodup {μ : List Addr} (hn : μ.Nodup) {i j : Nat} {a : Addr} (h1 : μ[i]? = some a) (h2 : μ[j]? = some a) : i = j := by
  obtain ⟨hi, e1⟩ := List.getElem?_eq_some_iff.mp h1
  obtain ⟨hj, e2⟩ := List.getElem?_eq_some_iff.mp h2
  have hp := List.pairwise_iff_getElem.mp hn
  rcases Nat.lt_trichotomy i j with q | q | q
  · exact absurd (e1.trans e2.symm) (hp i j hi hj q)
  · exact q
  · exact absurd (e2.trans e1.symm) (hp j i hj hi q)

/-- an object changed -/
theorem HR.put {μ : List Addr} {σ : H} {h h' : Heap} (R : HR X μ σ h) {i : Nat} {a : Addr} {o : O} (hi : μ[i]? = some a) (hs : Heap.SameBut a h h') (r : OR X h' μ a o) : HR X μ (σ.set i o) h' where
  len := by rw [List.length_set, R.len]
  nodup := R.nodup
  fresh := R.fresh
  obj := fun j x b e1 e2 => by
    by_cases hj : i = j
    · subst hj
      rw [hi] at e2; cases e2
      have hl : i < σ.length := R.len ▸ (List.getElem?_eq_some_iff.mp hi).1
      rw [List.getElem?_set_self hl] at e1
      cases e1; exact r
    · rw [List.getElem?_set_ne hj] at e1
      have hb : b ≠ a := fun e => hj (getElem?_nodup R.nodup hi (e ▸ e2))
      obtain ⟨o', e', hc⟩ := R.cls (List.mem_of_getElem? hi)
      refine (R.obj j x b e1 e2).mono (fun c y e hS => ?_) (fun _ _ e => e) fun y e => (hs.2 b hb).trans e
      refine (hs.2 c fun q => ?_).trans e
      subst q
      rw [e] at e'; cases e'
      exact (hS.offList hc).elim
end
end Mine

set_option maxRecDepth 100000
namespace Mine
open PySem PyProof.Rows

theorem dict_mapFields (o : Obj) (f : Array Value → Array Value) : (o.mapFields f).dict = o.dict := by
  obtain ⟨c, d, data, sl⟩ := o
  cases data <;> rfl
theorem IsX.map {cls : Value} {o : Obj} (h : IsX cls o) (f : Array Value → Array Value) : IsX cls (o.mapFields f) := ⟨(Obj.cls_mapFields _ _).trans h.1, (dict_mapFields _ _).trans h.2⟩
/-- what an exception's way through a frame changes -/
structure Eff (g : Heap) (fr : List Addr) (h h' : Heap) : Prop where
  size : h.objs.size ≤ h'.objs.size
  old : ∀ b o x, g.get? b = some x → b ∉ fr → h.get? b = some o → h'.get? b = some o
  like : ∀ b o, b ∉ fr → h.get? b = some o → ∃ o', h'.get? b = some o' ∧ LikeO o o'
  fram : ∀ b o, b ∈ fr → h.get? b = some o → ∃ sl, h'.get? b = some { o with slots := sl }
theorem Eff.refl (g : Heap) (fr : List Addr) (h : Heap) : Eff g fr h h := ⟨Nat.le_refl _, fun _ _ _ _ _ e => e, fun _ o _ e => ⟨o, e, .inl rfl⟩, fun _ o _ e => ⟨o.slots, e⟩⟩
theorem Eff.trans {g : Heap} {fr : List Addr} {h₁ h₂ h₃ : Heap} (x : Eff g fr h₁ h₂) (y : Eff g fr h₂ h₃) : Eff g fr h₁ h₃ where
  size := Nat.le_trans x.size y.size
  old := fun b o x' hb hf e => y.old b o x' hb hf (x.old b o x' hb hf e)
  like := fun b o hf e => by
    obtain ⟨o', e1, l1⟩ := x.like b o hf e
    obtain ⟨o'', e2, l2⟩ := y.like b o' hf e1
    exact ⟨o'', e2, l1.trans l2⟩
  fram := fun b o hf e => by
    obtain ⟨sl, e1⟩ := x.fram b o hf e
    obtain ⟨sl', e2⟩ := y.fram b _ hf e1
    exact ⟨sl', e2⟩
theorem Eff.field {g : Heap} {fr : List Addr} {h : Heap} {a : Addr} {o : Obj} {vs : Array Value} (e : h.get? a = some o) (hd : o.data = .fields vs) (ha : g.get? a = none) (hf : a ∉ fr) (f : Array Value → Array Value) : Eff g fr h (h.update a (Obj.mapFields f)) where
  size := by rw [Heap.size_after_update]; exact Nat.le_refl _
  old := fun b x y hb _ eb => by rw [Heap.get?_update_other _ _ (fun (q : a = b) => by rw [← q, ha] at hb; cases hb)]; exact eb
  like := fun b x _ eb => by
    by_cases hba : a = b
    · subst hba
      rw [e] at eb; cases eb
      exact ⟨_, Heap.get?_update_self _ e (Obj.isFreed_of_fields (Obj.data_mapFields hd f)), .inr ⟨vs, _, hd, Obj.data_mapFields hd f, Obj.cls_mapFields _ _, dict_mapFields _ _⟩⟩
    · exact ⟨x, by rw [Heap.get?_update_other _ _ hba]; exact eb, .inl rfl⟩
  fram := fun b x hb eb => ⟨x.slots, by rw [Heap.get?_update_other _ _ (fun (q : a = b) => hf (by rw [q]; exact hb))]; exact eb⟩
theorem Eff.push {g : Heap} {fr : List Addr} {h : Heap} (o : Obj) : Eff g fr h (h.push o) :=
  ⟨by rw [Heap.size_push]; exact Nat.le_succ _, fun _ _ _ _ _ e => Heap.get?_push_of_some _ e, fun _ x _ e => ⟨x, Heap.get?_push_of_some _ e, .inl rfl⟩, fun _ x _ e => ⟨x.slots, Heap.get?_push_of_some _ e⟩⟩
theorem Eff.slots {g : Heap} {fr : List Addr} {h h' : Heap} (x : Heap.SlotsOnly fr h h') : Eff g fr h h' :=
  ⟨Nat.le_of_eq x.1.symm, fun b o _ _ hf e => (x.2.1 b hf).trans e, fun b o hf e => ⟨o, (x.2.1 b hf).trans e, .inl rfl⟩, fun b o _ e => x.2.2 b o e⟩

/-- an exception under way: `fl` says where it was last noted -/
structure Fly (g : Heap) (cls : Value) (e : Addr) (fl : Option Value) (h : Heap) : Prop where
  new : g.get? e = none
  obj : ∃ oe vs a0, h.get? e = some oe ∧ IsX cls oe ∧ oe.data = .fields vs ∧ vs[0]? = some a0 ∧ match fl with
    | none => vs[1]? = some Value.none
    | some v => ∃ T oT ts, vs[1]? = some (.ref T) ∧ g.get? T = none ∧ T ≠ e ∧ h.get? T = some oT ∧ oT.data = .fields ts ∧ ts[3]? = some v

theorem Fly.le {g g' : Heap} {cls : Value} {e : Addr} {fl : Option Value} {h : Heap} (x : Fly g cls e fl h) (l : ∀ b, g.get? b = none → g'.get? b = none) : Fly g' cls e fl h := by
  obtain ⟨a, oe, vs, a0, h1, h2, h3, h4, h5⟩ := x
  refine ⟨l _ a, oe, vs, a0, h1, h2, h3, h4, ?_⟩
  cases fl with
  | none => exact h5
  | some v =>
    obtain ⟨T, oT, ts, k1, k2, r⟩ := h5
    exact ⟨T, oT, ts, k1, l _ k2, r⟩

section
variable {M : Model} {A : Around} {E : Value → Shared → Prop} {s : Shared} {base : Heap} {env : PySem.Env} {outer : List PySem.Env} {L e : Addr} {g : Heap} {cls : Value} {Q : Unit → Shared → Prop}

theorem FunFrames.off {h : Heap} {l : List PySem.Env} (hl : h.FunFrames base l) {a : Addr} {o : Obj} {vs : Array Value} (ha : h.get? a = some o) (hd : o.data = .fields vs) : a ∉ l.filterMap (·.frame) := fun hm => by
  obtain ⟨_, o', ho, hnf⟩ := hl.mem hm
  rw [ha] at ho; cases ho; exact hnf vs hd

/-- a new entry of the traceback -/
theorem fly_entry {oe : Obj} {vs : Array Value} {head a0 : Value} {hadNext : Bool} (hfr : A.frames = some (env :: outer)) (hl : s.heap.FunFrames base (env :: outer)) (hf : env.frame = some L)
    (he : s.heap.get? e = some oe) (hn : g.get? e = none) (hns : g.objs.size ≤ s.heap.objs.size) (hc : IsX cls oe) (hd : oe.data = .fields vs) (hsz : 1 < vs.size) (h0 : vs[0]? = some a0)
    (h : ∀ h', Eff g ((env :: outer).filterMap (·.frame)) s.heap h' → Fly g cls e (some (rawInt L)) h' → Q () { s with heap := h' }) :
    wpAny M A (do let a ← frameOf env; let pl ← entryPlaceOf L hadNext; let b ← EntryCells.newEntry head a .none (rawInt L) .none pl; setField (.ref e) 1 b) Q E s := by
  have hene := FunFrames.off hl he hd
  refine wpAny_bind (wpAny_frameOf_fun hfr hl hf fun h₁ hs₁ => ?_)
  refine wpAny_bind (wpAny_entryPlaceOf fun pl hpl => ?_)
  unfold EntryCells.newEntry newFields
  refine wpAny_bind (wpAny_newObj_type ?_ (hpl.sizeOk5 _ _ _ _ _))
  have he₁ : h₁.get? e = some oe := (hs₁.2.1 e hene).trans he
  generalize hob : ({ cls := .type "traceback", dict := none, data := .fields ([head, .ref L, .none, rawInt L, .none] ++ (if pl.isEmpty then List.replicate 6 Value.none else pl)).toArray } : Obj) = tb
  have he₂ := Heap.get?_push_of_some (h := h₁) tb he₁
  refine wpAny_setField he₂ hd hsz (h _ ?_ ?_)
  · exact ((Eff.slots hs₁).trans (Eff.push tb)).trans (Eff.field he₂ hd hn hene _)
  · have hTe : h₁.objs.size ≠ e := Nat.ne_of_gt (Heap.lt_size he₁)
    have hd₃ := Obj.data_mapFields hd (·.setIfInBounds 1 (Value.ref h₁.objs.size))
    have hfb : tb.isFreed = false := by rw [← hob]; rfl
    refine ⟨hn, _, _, a0, Heap.get?_update_self _ he₂ (Obj.isFreed_of_fields hd₃), hc.map _, hd₃, by rw [Array.getElem?_setIfInBounds_ne (by decide)]; exact h0,
      h₁.objs.size, tb, _, by simp [hsz], Heap.get?_none_of_le (by rw [hs₁.1]; exact hns), hTe, ?_, (by rw [← hob]), ?_⟩
    · rw [Heap.get?_update_other _ _ (Ne.symm hTe)]
      exact Heap.get?_push_size h₁ hfb
    · first | (simp; done) | (rcases hpl with rfl | ⟨_, _, _, _, _, _, _, rfl⟩ <;> simp)

/-- an exception is noted by a frame -/
theorem fly_note {fl : Option Value} (hfr : A.frames = some (env :: outer)) (hl : s.heap.FunFrames base (env :: outer)) (hf : env.frame = some L) (hns : g.objs.size ≤ s.heap.objs.size) (x : Fly g cls e fl s.heap)
    (hfl : fl = none ∨ fl = some .none ∨ fl = some (rawInt L))
    (h : ∀ h', Eff g ((env :: outer).filterMap (·.frame)) s.heap h' → Fly g cls e (some (rawInt L)) h' → Q () { s with heap := h' }) : wpAny M A (noteFrame (.ref e) env) Q E s := by
  obtain ⟨hn, oe, vs, a0, he, hc, hd, h0, hx⟩ := x
  unfold noteFrame
  simp only [hf]
  rcases hfl with rfl | rfl | rfl
  · refine wpAny_bind (wpAny_field he hd hx ?_)
    rw [if_neg (by decide)]
    exact fly_entry hfr hl hf he hn hns hc hd (Array.getElem?_eq_some_iff.mp hx).1 h0 h
  · obtain ⟨T, oT, ts, h1, hT, hTe, eT, dT, h3⟩ := hx
    refine wpAny_bind (wpAny_field he hd h1 ?_)
    rw [if_pos (show (Value.ref T != Value.none) = true from by simp)]
    refine wpAny_bind (wpAny_field eT dT h3 ?_)
    rw [if_neg (show ¬ ((Value.none == rawInt L) = true) from by simp [rawInt])]
    have hTf := FunFrames.off hl eT dT
    have ef := Eff.field (g := g) (fr := (env :: outer).filterMap (·.frame)) eT dT hT hTf (·.setIfInBounds 3 Value.none)
    refine wpAny_bind (wpAny_setField eT dT (Array.getElem?_eq_some_iff.mp h3).1 ?_)
    have he' : (s.heap.update T (Obj.mapFields (·.setIfInBounds 3 Value.none))).get? e = some oe := by rw [Heap.get?_update_other _ _ hTe]; exact he
    refine fly_entry (s := { s with heap := s.heap.update T (Obj.mapFields (·.setIfInBounds 3 Value.none)) }) hfr (hl.of_keeps fun b o hb hnf => ?_) hf he' hn (Nat.le_trans hns ef.size) hc hd (Array.getElem?_eq_some_iff.mp h1).1 h0 fun h' e' f' => h h' (ef.trans e') f'
    refine ⟨o, ?_, rfl⟩
    rw [Heap.get?_update_other _ _ (fun q => by subst q; rw [eT] at hb; cases hb; exact hnf ts dT)]; exact hb
  · obtain ⟨T, oT, ts, h1, hT, hTe, eT, dT, h3⟩ := hx
    refine wpAny_bind (wpAny_field he hd h1 ?_)
    rw [if_pos (show (Value.ref T != Value.none) = true from by simp)]
    refine wpAny_bind (wpAny_field eT dT h3 ?_)
    rw [if_pos (show (rawInt L == rawInt L) = true from by simp)]
    exact wpAny_pure (h s.heap (Eff.refl ..) ⟨hn, oe, vs, a0, he, hc, hd, h0, T, oT, ts, h1, hT, hTe, eT, dT, h3⟩)

/-- where it was noted is written anew -/
theorem fly_set {v : Value} (x : Fly g cls e (some v) s.heap) (f : Option Addr) (hl : s.heap.FunFrames base (env :: outer))
    (h : ∀ h', Eff g ((env :: outer).filterMap (·.frame)) s.heap h' → Fly g cls e (some (f.elim Value.none fun a => rawInt a)) h' → Q () { s with heap := h' }) : wpAny M A (setFlight (.ref e) f) Q E s := by
  obtain ⟨hn, oe, vs, a0, he, hc, hd, h0, T, oT, ts, h1, hT, hTe, eT, dT, h3⟩ := x
  have hsz := (Array.getElem?_eq_some_iff.mp h3).1
  unfold setFlight
  refine wpAny_bind (wpAny_field he hd h1 ?_)
  rw [if_pos (show (Value.ref T != Value.none) = true from by simp)]
  refine wpAny_setField eT dT hsz (h _ (Eff.field eT dT hT (FunFrames.off hl eT dT) _) ⟨hn, oe, vs, a0, ?_, hc, hd, h0, T, _, _, h1, hT, hTe, Heap.get?_update_self _ eT (Obj.isFreed_of_fields (Obj.data_mapFields dT _)), Obj.data_mapFields dT _, by simp [hsz]⟩)
  rw [Heap.get?_update_other _ _ hTe]; exact he
end
end Mine

set_option maxRecDepth 100000
namespace Mine
open PySem PyProof.Rows

noncomputable abbrev Mo (X : W) : Model := model X.prog X.w

/-- room for d more calls -/
structure Rm (A : Around) (d : Nat) (hn : Bool) : Prop where
  depth : A.depth + 4 * d + 4 < recursionLimit
  units : A.units + 40 * d + 40 < cLine
  handled : hn = true → A.handled = none
  nb : A.handled ≠ some byPass

structure Cn (X : W) (A : Around) (d : Nat) (hn : Bool) (s : Shared) (μ : List Addr) (σ : H) : Prop where
  rm : Rm A d hn
  hr : HR X μ σ s.heap
  base : Base X s.heap
  fs : ∃ fs, A.frames = some fs ∧ FF X s.heap μ fs
  scr : ∃ vs : List Value, X.h₀.IsList X.scr vs.toArray ∧ IntsAre vs X.ns ∧ vs.length ≤ lim
  bad : ∀ a, X.bad a → a < s.heap.objs.size

/-- a frame (or a comprehension's block) holds the values of an environment -/
structure FR (X : W) (env : PySem.Env) (cx : Cx) (ρ : Env) (h : Heap) (μ : List Addr) : Prop where
  kind : env.scope.kind = .function
  globals : env.globals = mainGlobals
  builtins : env.builtins = builtinsNs
  names : env.scope.names = cx.kinds
  ns : ∃ m, h.Ns env.locals m ∧ ∀ (x : Str) (k : Nat) (v : V), cx.kinds.lookup x = some .local → cx.slots.lookup x = some k → ρ[k]? = some (some v) → ∃ u, m x = some u ∧ VR X h μ v u
  cell : ∀ (x : Str) (k : Nat), cx.kinds.lookup x = some .cell → cx.slots.lookup x = some k → ∃ c u, env.cells.lookup x = some c ∧ h.IsCell c u ∧ ∀ v, ρ[k]? = some (some v) → ∃ y, u = some y ∧ VR X h μ v y
  cells : ∀ (x : Str), cx.kinds.lookup x = some .cell → (env.cells.lookup x).isSome = true
  apart : ∀ x y c, env.cells.lookup x = some c → env.cells.lookup y = some c → x = y
  offL : env.locals ∉ μ
  offC : ∀ x c, env.cells.lookup x = some c → c ∉ μ ∧ c ≠ env.locals ∧ c < h.objs.size
  slots : ∀ (x y : Str) (k : Nat), cx.slots.lookup x = some k → cx.slots.lookup y = some k → x = y
  bound : ∀ (x : Str) (k : Nat), cx.slots.lookup x = some k → k < cx.n
  len : ρ.length = cx.n

section
variable {X : W}

theorem Cn.step {A : Around} {d : Nat} {hn : Bool} {s s' : Shared} {μ μ' : List Addr} {σ σ' : H} (c : Cn X A d hn s μ σ) (S : Step X s μ s' μ' σ') : Cn X A d hn s' μ' σ' :=
  ⟨c.rm, S.hr, S.base, (let ⟨fs, e, f⟩ := c.fs; ⟨fs, e, S.ff f⟩), c.scr, fun a h => Nat.lt_of_lt_of_le (c.bad a h) S.size⟩

theorem Cn.good {A : Around} {d : Nat} {hn : Bool} {s : Shared} {μ : List Addr} {σ : H} (c : Cn X A d hn s μ σ) {a : Addr} (h : s.heap.objs.size ≤ a) : ¬ X.bad a := fun q => absurd (c.bad a q) (Nat.not_lt.mpr h)
theorem FR.step {env : PySem.Env} {cx : Cx} {ρ : Env} {s s' : Shared} {μ μ' : List Addr} {σ σ' : H} (F : FR X env cx ρ s.heap μ) (R : HR X μ σ s.heap) (S : Step X s μ s' μ' σ') : FR X env cx ρ s'.heap μ' where
  kind := F.kind
  globals := F.globals
  builtins := F.builtins
  names := F.names
  ns := by
    obtain ⟨m, n, h⟩ := F.ns
    exact ⟨m, S.keep.ns F.offL n, fun x k v h1 h2 h3 => let ⟨u, a, b⟩ := h x k v h1 h2 h3; ⟨u, a, S.vr R b⟩⟩
  cell := fun x k h1 h2 => by
    obtain ⟨c, u, a, b, d⟩ := F.cell x k h1 h2
    exact ⟨c, u, a, S.keep.cell (F.offC x c a).1 b, fun v hv => let ⟨y, p, q⟩ := d v hv; ⟨y, p, S.vr R q⟩⟩
  cells := F.cells
  apart := F.apart
  offL := by
    obtain ⟨m, n, _⟩ := F.ns
    exact S.notIn F.offL n.lt
  offC := fun x c h => ⟨S.notIn (F.offC x c h).1 (F.offC x c h).2.2, (F.offC x c h).2.1, Nat.lt_of_lt_of_le (F.offC x c h).2.2 S.size⟩
  slots := F.slots
  bound := F.bound
  len := F.len

/-- an exception that has left the frames it came through -/
noncomputable def XR (X : W) (g : Heap) (c : Nat) (e : Value) (h : Heap) : Prop := ∃ a, e = .ref a ∧ Fly g (.ref (X.ca c)) a (some .none) h
theorem XR.le {g g' : Heap} {c : Nat} {e : Value} {h : Heap} (x : XR X g c e h) (l : ∀ b, g.get? b = none → g'.get? b = none) : XR X g' c e h := let ⟨a, h1, h2⟩ := x; ⟨a, h1, h2.le l⟩

noncomputable abbrev PT (β : Type) := (β → Shared → Prop) → (Value → Shared → Prop) → Shared → Prop

/-- a way of running does what the small language says -/
noncomputable def Sm (X : W) {α β : Type} (P : PT β) (r : R α) (rel : Heap → List Addr → α → β → Prop) (s : Shared) (μ : List Addr) : Prop :=
  r ≠ .stuck → ∀ Q E, (∀ a σ' b s' μ', r = .ok a σ' → Step X s μ s' μ' σ' → rel s'.heap μ' a b → Q b s') →
    (∀ c σ' e s' μ', r = .exc c σ' → Step X s μ s' μ' σ' → XR X s.heap c e s'.heap → E e s') → P Q E s

theorem Sm.imp {α β : Type} {P P' : PT β} {r : R α} {rel : Heap → List Addr → α → β → Prop} {s : Shared} {μ : List Addr} (h : Sm X P r rel s μ) (hp : ∀ Q E, P Q E s → P' Q E s) : Sm X P' r rel s μ :=
  fun hne Q E hQ hE => hp Q E (h hne Q E hQ hE)
theorem Sm.rel {α β : Type} {P : PT β} {r : R α} {rel rel' : Heap → List Addr → α → β → Prop} {s : Shared} {μ : List Addr} (h : Sm X P r rel s μ) (hr : ∀ a σ' b s' μ', r = .ok a σ' → Step X s μ s' μ' σ' → rel s'.heap μ' a b → rel' s'.heap μ' a b) : Sm X P r rel' s μ :=
  fun hne Q E hQ hE => h hne Q E (fun a σ' b s' μ' e S x => hQ a σ' b s' μ' e S (hr a σ' b s' μ' e S x)) hE

theorem bnd_ok {α β : Type} {m : M α} {k : α → M β} {σ σ' : H} {a : α} (e : m σ = .ok a σ') : m.bnd k σ = k a σ' := by unfold M.bnd; rw [e]
theorem bnd_exc {α β : Type} {m : M α} {k : α → M β} {σ σ' : H} {c : Nat} (e : m σ = .exc c σ') : m.bnd k σ = .exc c σ' := by unfold M.bnd; rw [e]
theorem bnd_stuck {α β : Type} {m : M α} {k : α → M β} {σ : H} (e : m σ = .stuck) : m.bnd k σ = .stuck := by unfold M.bnd; rw [e]

theorem Sm.bind {α β γ δ : Type} {P : PT β} {P2 : β → PT δ} {m : M α} {k : α → M γ} {σ : H} {rel : Heap → List Addr → α → β → Prop} {rel2 : Heap → List Addr → γ → δ → Prop} {s : Shared} {μ : List Addr}
    (h1 : Sm X P (m σ) rel s μ) (h2 : ∀ a σ₁ b s₁ μ₁, m σ = .ok a σ₁ → Step X s μ s₁ μ₁ σ₁ → rel s₁.heap μ₁ a b → Sm X (P2 b) (k a σ₁) rel2 s₁ μ₁) :
    Sm X (fun Q E s => P (fun b s₁ => P2 b Q E s₁) E s) (m.bnd k σ) rel2 s μ := by
  intro hne Q E hQ hE
  refine h1 (fun e => hne (bnd_stuck e)) _ _ (fun a σ₁ b s₁ μ₁ e1 S1 r1 => ?_) fun c σ₁ e s₁ μ₁ e1 S1 x1 => hE c σ₁ e s₁ μ₁ (bnd_exc e1) S1 x1
  have e : m.bnd k σ = k a σ₁ := bnd_ok e1
  exact h2 a σ₁ b s₁ μ₁ e1 S1 r1 (e ▸ hne) Q E (fun c σ₂ d s₂ μ₂ e2 S2 r2 => hQ c σ₂ d s₂ μ₂ (e.trans e2) (S1.trans S2) r2)
    fun c σ₂ x s₂ μ₂ e2 S2 x2 => hE c σ₂ x s₂ μ₂ (e.trans e2) (S1.trans S2) (x2.le S1.pers)

noncomputable abbrev Rl (X : W) : Heap → List Addr → V → Value → Prop := fun h μ v u => VR X h μ v u
noncomputable abbrev Rls (X : W) : Heap → List Addr → List V → List Value → Prop := fun h μ v u => VRs X h μ v u
/-- a tree -/
noncomputable abbrev Wp (X : W) (A : Around) {β : Type} (t : Sem β) : PT β := fun Q E s => wpAny (Mo X) A t Q E s

theorem Sm.ok {α β : Type} {P : PT β} {a : α} {σ : H} {rel : Heap → List Addr → α → β → Prop} {s : Shared} {μ : List Addr}
    (h : ∀ Q E, (∀ b s' μ', Step X s μ s' μ' σ → rel s'.heap μ' a b → Q b s') → P Q E s) : Sm X P (.ok a σ) rel s μ :=
  fun _ Q E hQ _ => h Q E fun b s' μ' S r => hQ a σ b s' μ' rfl S r
/-- what comes behind a way that the small language does not see -/
theorem Sm.after {α β : Type} {P P' : PT β} {r : R α} {rel : Heap → List Addr → α → β → Prop} {s s₁ : Shared} {μ μ₁ : List Addr} {σ₁ : H} (S1 : Step X s μ s₁ μ₁ σ₁) (h : Sm X P' r rel s₁ μ₁) (hp : ∀ Q E, P' Q E s₁ → P Q E s) : Sm X P r rel s μ :=
  fun hne Q E hQ hE => hp Q E (h hne Q E (fun a σ' b s' μ' e S r => hQ a σ' b s' μ' e (S1.trans S) r) fun c σ' e s' μ' q S x => hE c σ' e s' μ' q (S1.trans S) (x.le S1.pers))
theorem Sm.stuck {α β : Type} {P : PT β} {rel : Heap → List Addr → α → β → Prop} {s : Shared} {μ : List Addr} : Sm X P (.stuck : R α) rel s μ := fun h => absurd rfl h

end
end Mine

set_option maxRecDepth 100000
namespace Mine
open PySem PyProof.Rows

section
variable {X : W} {A : Around} {d : Nat} {hn : Bool} {s : Shared} {μ : List Addr} {σ : H}

/-- nothing has changed but the tokens -/
theorem Cn.same (c : Cn X A d hn s μ σ) (t : Nat) : Step X s μ { s with toks := t } μ σ := (Step.refl c.hr c.base).toks t

theorem lim_eq : lim = sizeLine := rfl

theorem Base.push {h : Heap} (B : Base X h) (o : Obj) : Base X (h.push o) := ⟨fun b x e => Heap.get?_push_of_some _ (B.keep b x e), by rw [Heap.size_push]; exact Nat.le_succ_of_le B.size, B.low⟩
/-- what a push leaves -/
theorem Step.push (c : Cn X A d hn s μ σ) (o : Obj) (t : Nat) : Step X s μ { s with heap := s.heap.push o, toks := t } μ σ :=
  ⟨c.hr.push o, .of_all fun _ _ _ e => Heap.get?_push_of_some _ e, c.base.push o, by show _ ≤ (s.heap.push o).objs.size; rw [Heap.size_push]; exact Nat.le_succ _,
    ⟨[], by simp, fun _ h => nomatch h⟩, rfl, rfl⟩
/-- what is added to a heap leaves all as it was -/
theorem Step.grow (c : Cn X A d hn s μ σ) {s' : Shared} (k : ∀ b o, s.heap.get? b = some o → s'.heap.get? b = some o) (z : s.heap.objs.size ≤ s'.heap.objs.size) (hg : s'.gens = s.gens) (ho : s'.os = s.os) : Step X s μ s' μ σ :=
  ⟨c.hr.keeps k, .of_all fun b o _ e => k b o e, ⟨fun b o e => k _ _ (c.base.keep b o e), Nat.le_trans c.base.size z, c.base.low⟩, z, ⟨[], by simp, fun _ h => nomatch h⟩, hg, ho⟩

/-- a new list (or dict) at the heap's end -/
theorem Step.alloc (c : Cn X A d hn s μ σ) {o : Obj} {x : O} (t : Nat)
    (r : OR X (s.heap.push o) (μ ++ [s.heap.objs.size]) s.heap.objs.size x) : Step X s μ { s with heap := s.heap.push o, toks := t } (μ ++ [s.heap.objs.size]) (σ ++ [x]) := by
  have hno : s.heap.objs.size ∉ μ := fun hm => Nat.lt_irrefl _ (c.hr.lt hm)
  refine ⟨(c.hr.push o).alloc hno c.base.size r, .of_all fun _ _ _ e => Heap.get?_push_of_some _ e, c.base.push o, ?_, ⟨[s.heap.objs.size], rfl, fun a ha => ?_⟩, rfl, rfl⟩
  · show _ ≤ (s.heap.push o).objs.size; rw [Heap.size_push]; exact Nat.le_succ _
  · rw [List.mem_singleton.mp ha]; exact Nat.le_refl _

/-- a list or dict changed where it lies -/
theorem Step.put (c : Cn X A d hn s μ σ) {i : Nat} {a : Addr} {o : O} {s' : Shared} (hi : μ[i]? = some a) (hs : Heap.SameBut a s.heap s'.heap) (hg : s'.gens = s.gens) (ho : s'.os = s.os)
    (r : OR X s'.heap μ a o) : Step X s μ s' μ (σ.set i o) := by
  have hm := List.mem_of_getElem? hi
  refine ⟨c.hr.put hi hs r, .of_all fun b x hb e => (hs.2 b fun q => hb (q ▸ hm)).trans e, ⟨fun b x e => (hs.2 b fun q => ?_).trans (c.base.keep b x e), hs.1 ▸ c.base.size, c.base.low⟩, Nat.le_of_eq hs.1.symm, ⟨[], by simp, fun _ h => nomatch h⟩, hg, ho⟩
  subst q
  exact absurd (Heap.lt_size e) (Nat.not_lt.mpr (c.hr.fresh _ hm))

theorem Step.vrBack {s' : Shared} {μ' : List Addr} {σ' : H} (c : Cn X A d hn s μ σ) (S : Step X s μ s' μ' σ') {v : V} {u : Value} (r : VR X s.heap μ v u) : VR X s'.heap μ' v u := S.vr c.hr r

theorem codes_append (x y : Str) : codes (x ++ y) = codes x ++ codes y := by
  show (x ++ y).cps.toList = _
  rw [Str.cps_append]; simp [codes]
theorem codes_length (x : Str) : (codes x).length = x.length := by simp [codes, Str.length]
theorem codes_inj {x y : Str} (h : codes x = codes y) : x = y := by
  obtain ⟨a⟩ := x; obtain ⟨b⟩ := y
  simp only [codes] at h
  exact congrArg Str.mk (Array.ext' h)
theorem codes_mk (l : List Nat) : codes ⟨l.toArray⟩ = l := by simp [codes]

/-- the list of a small heap that a value names -/
theorem Cn.list (c : Cn X A d hn s μ σ) {i : Nat} {a : Addr} {xs : List V} (h : σ[i]? = some (.list xs)) (hi : μ[i]? = some a) :
    ∃ l n, IsL s.heap a (List.toArray l) n ∧ VRs X s.heap μ xs l ∧ l.length ≤ lim := by
  cases c.hr.obj i _ a h hi with
  | list e z r => exact ⟨_, _, e, r, z⟩
theorem listAt_eq {i : Nat} {xs : List V} (h : listAt σ i = some xs) : σ[i]? = some (.list xs) := by
  unfold listAt at h
  split at h
  · cases h; assumption
  · cases h
theorem dictAt_eq {i : Nat} {kvs : List (List Nat × V)} (h : dictAt σ i = some kvs) : σ[i]? = some (.dict kvs) := by
  unfold dictAt at h
  split at h
  · cases h; assumption
  · cases h
theorem Cn.dict (c : Cn X A d hn s μ σ) {i : Nat} {a : Addr} {kvs : List (List Nat × V)} (h : σ[i]? = some (.dict kvs)) (hi : μ[i]? = some a) :
    ∃ l, s.heap.DictOf (strKind X.prog X.w) a l ∧ ERs X s.heap μ kvs l ∧ l.length ≤ lim := by
  cases c.hr.obj i _ a h hi with
  | dict e z r => exact ⟨_, e, r, z⟩
/-- at a list, or at a dict -/
theorem sm_onL {α β : Type} (c : Cn X A d hn s μ σ) {i : Nat} {a : Addr} (hi : μ[i]? = some a) {P : PT β} {f : List V → M α} {rel : Heap → List Addr → α → β → Prop}
    (h : ∀ xs l n, σ[i]? = some (.list xs) → s.heap.get? a = some { cls := .type "list", data := .seq (List.toArray l) n } → VRs X s.heap μ xs l → l.length ≤ lim → Sm X P (f xs σ) rel s μ) : Sm X P (onL i f σ) rel s μ := by
  unfold onL
  cases hl : listAt σ i with
  | none => exact Sm.stuck
  | some xs =>
    obtain ⟨l, n, e, r, z⟩ := c.list (listAt_eq hl) hi
    exact h xs l n (listAt_eq hl) e r z
theorem sm_onD {α β : Type} (c : Cn X A d hn s μ σ) {i : Nat} {a : Addr} (hi : μ[i]? = some a) {P : PT β} {f : List (List Nat × V) → M α} {rel : Heap → List Addr → α → β → Prop}
    (h : ∀ kvs l, σ[i]? = some (.dict kvs) → s.heap.DictOf (strKind X.prog X.w) a l → ERs X s.heap μ kvs l → l.length ≤ lim → Sm X P (f kvs σ) rel s μ) : Sm X P (onD i f σ) rel s μ := by
  unfold onD
  cases hl : dictAt σ i with
  | none => exact Sm.stuck
  | some kvs =>
    obtain ⟨l, e, r, z⟩ := c.dict (dictAt_eq hl) hi
    exact h kvs l (dictAt_eq hl) e r z
theorem sm_pick {α β : Type} {P : PT β} {rel : Heap → List Addr → α → β → Prop} {o : Option α} (h : ∀ v, o = some v → Sm X P (.ok v σ) rel s μ) : Sm X P (pick o σ) rel s μ := by
  cases o with
  | none => exact Sm.stuck
  | some v => exact h v rfl
theorem Cn.noSys (c : Cn X A d hn s μ σ) {i : Nat} {a : Addr} (hi : μ[i]? = some a) : (a == sysModules) = false := by
  exact beq_eq_false_iff_ne.mpr (Nat.ne_of_gt (Nat.lt_of_lt_of_le c.base.low (c.hr.fresh a (List.mem_of_getElem? hi))))
theorem VRs.length {h : Heap} {xs : List V} {l : List Value} (r : VRs X h μ xs l) : xs.length = l.length := by
  induction xs generalizing l with
  | nil => cases r; rfl
  | cons x xs ih => cases r with | cons _ b => simp [ih b]
theorem VRs.append {h : Heap} {xs ys : List V} {l m : List Value} (r : VRs X h μ xs l) (q : VRs X h μ ys m) : VRs X h μ (xs ++ ys) (l ++ m) := by
  induction xs generalizing l with
  | nil => cases r; exact q
  | cons x xs ih => cases r with | cons a b => exact .cons a (ih b)
theorem VRs.get {h : Heap} {xs : List V} {l : List Value} (r : VRs X h μ xs l) {i : Nat} {x : V} (e : xs[i]? = some x) : ∃ u, l[i]? = some u ∧ VR X h μ x u := by
  induction xs generalizing l i with
  | nil => cases e
  | cons y ys ih =>
    cases r with
    | cons a b =>
      cases i with
      | zero => simp at e; subst e; exact ⟨_, rfl, a⟩
      | succ j => simp at e; obtain ⟨u, e1, e2⟩ := ih b e; exact ⟨u, by simpa using e1, e2⟩
theorem VRs.take {h : Heap} {xs : List V} {l : List Value} (r : VRs X h μ xs l) (n : Nat) : VRs X h μ (xs.take n) (l.take n) := by
  induction xs generalizing l n with
  | nil => cases r; simp; exact .nil
  | cons y ys ih =>
    cases r with
    | cons a b =>
      cases n with
      | zero => exact .nil
      | succ j => exact .cons a (ih b j)
theorem VRs.drop {h : Heap} {xs : List V} {l : List Value} (r : VRs X h μ xs l) (n : Nat) : VRs X h μ (xs.drop n) (l.drop n) := by
  induction xs generalizing l n with
  | nil => cases r; simp; exact .nil
  | cons y ys ih =>
    cases r with
    | cons a b =>
      cases n with
      | zero => exact .cons a b
      | succ j => exact ih b j
theorem VRs.set {h : Heap} {xs : List V} {l : List Value} (r : VRs X h μ xs l) (n : Nat) {v : V} {u : Value} (q : VR X h μ v u) : VRs X h μ (xs.set n v) (l.set n u) := by
  induction xs generalizing l n with
  | nil => cases r; exact .nil
  | cons y ys ih =>
    cases r with
    | cons a b =>
      cases n with
      | zero => exact .cons q b
      | succ j => exact .cons a (ih b j)
theorem VRs.reverse {h : Heap} {xs : List V} {l : List Value} (r : VRs X h μ xs l) : VRs X h μ xs.reverse l.reverse := by
  induction xs generalizing l with
  | nil => cases r; exact .nil
  | cons y ys ih =>
    cases r with
    | cons a b => simp only [List.reverse_cons]; exact (ih b).append (.cons a .nil)
theorem ERs.length {h : Heap} {kvs : List (List Nat × V)} {l : List (Str × Value)} (r : ERs X h μ kvs l) : kvs.length = l.length := by
  have := congrArg List.length r.keys
  simpa using this
theorem VRs.eraseIdx {h : Heap} {xs : List V} {l : List Value} (r : VRs X h μ xs l) (n : Nat) : VRs X h μ (xs.eraseIdx n) (l.eraseIdx n) := by
  rw [List.eraseIdx_eq_take_drop_succ, List.eraseIdx_eq_take_drop_succ]
  exact (r.take n).append (r.drop (n + 1))

/-- a new list -/
theorem sm_newL (c : Cn X A d hn s μ σ) {xs : List V} {l : List Value} (r : VRs X s.heap μ xs l) : Sm X (Wp X A (newList l)) (newL xs σ) (Rl X) s μ := by
  unfold newL
  split
  · rename_i hz
    refine Sm.ok fun Q E hQ => ?_
    refine wpAny_newObj_type ?_ (by show l.toArray.size ≤ sizeLine; rw [List.size_toArray, ← r.length]; exact hz)
    refine hQ _ _ _ (Step.alloc c s.toks ?_) (.ref (by rw [List.getElem?_append_right (by rw [c.hr.len]; exact Nat.le_refl _), c.hr.len]; simp))
    exact .list (Heap.get?_push_size _ rfl) (r.length ▸ hz) (r.mono (fun _ _ e _ => Heap.get?_push_of_some _ e) ext_get)
  · exact Sm.stuck
/-- an object has been pushed that is a list -/
theorem sm_pushed (c : Cn X A d hn s μ σ) {P : PT Value} {xs : List V} {l : List Value} (r : VRs X s.heap μ xs l)
    (h : l.length ≤ sizeLine → ∀ Q E, Q (.ref s.heap.objs.size) { s with heap := s.heap.push { cls := .type "list", data := .seq l.toArray } } → P Q E s) : Sm X P (newL xs σ) (Rl X) s μ := by
  unfold newL
  split
  · rename_i hz
    refine Sm.ok fun Q E hQ => h (r.length ▸ hz) Q E ?_
    refine hQ _ _ _ (Step.alloc c s.toks ?_) (.ref (by rw [List.getElem?_append_right (by rw [c.hr.len]; exact Nat.le_refl _), c.hr.len]; simp))
    exact .list (Heap.get?_push_size _ rfl) (r.length ▸ hz) (r.mono (fun _ _ e _ => Heap.get?_push_of_some _ e) ext_get)
  · exact Sm.stuck

theorem smallBits {x : Int} (h : small x = true) : Builtin.Int.intBits x ≤ 64 := by
  have h' := of_decide_eq_true h
  exact intBits_le_64 (by (first | lia | omega)) (by (first | lia | omega))

/-- two whole numbers, or stuck -/
theorem sm_i2 {P : PT Value} {f : Int → Int → M V} {x y : V} {u v : Value} (hx : VR X s.heap μ x u) (hy : VR X s.heap μ y v) (h : ∀ i t j t', u = .int i t → v = .int j t' → Sm X P (f i j σ) (Rl X) s μ) : Sm X P (i2 x y f σ) (Rl X) s μ := by
  cases hx with
  | int i t =>
    cases hy with
    | int j t' => exact h i t j t' rfl rfl
    | _ => exact Sm.stuck
  | _ => exact Sm.stuck
theorem sm_addV (c : Cn X A d hn s μ σ) {x y : V} {u v : Value} (hx : VR X s.heap μ x u) (hy : VR X s.heap μ y v) : Sm X (Wp X A (binaryOp .Add u v)) (addV x y σ) (Rl X) s μ := by
  cases hx with
  | int i t =>
    cases hy with
    | int j t' => exact Sm.ok fun Q E hQ => AutoIntOps.add_0 (hQ _ _ _ (c.same _) (.int _ _))
    | _ => exact Sm.stuck
  | str x t hx =>
    cases hy with
    | str y t' hy =>
      show Sm X _ ((if _ then M.ret _ else stuck) σ) _ _ _
      split
      · rename_i hz
        refine Sm.ok fun Q E hQ => PyProof.Rows.add_str (fun t' tk => hQ _ _ _ (c.same _) (codes_append x y ▸ .str _ _ (by rw [← codes_length, codes_append]; exact hz))) ?_
        rw [List.length_append, codes_length, codes_length] at hz
        exact hz
      · exact Sm.stuck
    | _ => exact Sm.stuck
  | @ref i a hi =>
    cases hy with
    | @ref j b hj =>
      refine sm_onL c hi fun xs l n ho e r _ => sm_onL c hj fun ys l' n' ho' e' r' _ => ?_
      refine sm_pushed c (r.append r') fun hz Q E hQ => P.add_list e e' ?_ (by simpa using hz)
      rw [List.append_toArray] at *
      exact hQ
    | _ => exact Sm.stuck
  | _ => exact Sm.stuck
theorem sm_bin (c : Cn X A d hn s μ σ) (o : Bin) {x y : V} {u v : Value} (hx : VR X s.heap μ x u) (hy : VR X s.heap μ y v) :
    Sm X (Wp X A (binaryOp (opOf o) u v)) (binV o x y σ) (Rl X) s μ := by
  cases o
  · exact sm_addV c hx hy
  · refine sm_i2 hx hy fun x t y t' e1 e2 => ?_
    subst e1 e2
    exact Sm.ok fun Q E hQ => sub_int' (hQ _ _ _ (c.same _) (.int _ _))
  · refine sm_i2 hx hy fun x t y t' e1 e2 => ?_
    subst e1 e2
    split
    · rename_i hz
      refine Sm.ok fun Q E hQ => PyProof.Rows.mul_int (hQ _ _ _ (c.same _) (.int _ _)) ?_
      rcases Bool.or_eq_true_iff.mp hz with q | q
      · exact IntMulOk.of_left (smallBits q)
      · exact IntMulOk.of_right (smallBits q)
    · exact Sm.stuck
  · refine sm_i2 hx hy fun x t y t' e1 e2 => ?_
    subst e1 e2
    split
    · rename_i hz
      exact Sm.ok fun Q E hQ => floordiv_int (by (first | lia | omega)) (hQ _ _ _ (c.same _) (.int _ _)) (.inl (PyProof.noPylong_small (by (first | lia | omega))))
    · exact Sm.stuck
  · refine sm_i2 hx hy fun x t y t' e1 e2 => ?_
    subst e1 e2
    split
    · exact Sm.stuck
    · rename_i hz
      exact Sm.ok fun Q E hQ => mod_int' hz (hQ _ _ _ (c.same _) (.int _ _))
  · refine sm_i2 hx hy fun x t y t' e1 e2 => ?_
    subst e1 e2
    split
    · rename_i hz
      obtain ⟨rfl, rfl | rfl⟩ := hz
      · exact Sm.ok fun Q E hQ => AutoIntOps.pow_4 (by decide) (by decide) (by decide) (by decide) (by decide +kernel) (hQ _ _ _ (c.same _) (.int _ _))
      · exact Sm.ok fun Q E hQ => AutoIntOps.pow_4 (by decide) (by decide) (by decide) (by decide) (by decide +kernel) (hQ _ _ _ (c.same _) (.int _ _))
    · exact Sm.stuck
end
end Mine

set_option maxRecDepth 100000
namespace Mine
open PySem PyProof.Rows PySem.SeqAt

section
variable {X : W} {A : Around} {d : Nat} {hn : Bool} {s : Shared} {μ : List Addr} {σ : H}

theorem veqs_cons {f : V → V → Option Bool} {x y : V} {xs ys : List V} {b : Bool} (e : veqs f (x :: xs) (y :: ys) = some b) : ∃ p q, f x y = some p ∧ veqs f xs ys = some q ∧ b = (p && q) := by
  unfold veqs at e
  split at e
  · rename_i p q h1 h2; cases e; exact ⟨p, q, h1, h2, rfl⟩
  · cases e
theorem same_veqs {h : Heap} {f : V → V → Option Bool} (hf : ∀ x y u b, VR X h μ x u → VR X h μ y u → f x y = some b → b = true) :
    ∀ {xs ys : List V} {l : List Value} {b : Bool}, VRs X h μ xs l → VRs X h μ ys l → veqs f xs ys = some b → b = true
  | [], _, _, _, .nil, .nil, e => by cases e; rfl
  | _ :: _, _, _, _, .cons a r, .cons a' r', e => by
    obtain ⟨p, q, h1, h2, rfl⟩ := veqs_cons e
    rw [hf _ _ _ _ a a' h1, same_veqs hf r r' h2]; rfl
theorem atom_inv {h : Heap} {x : V} {u : Value} {p : At} (e : atom x = some p) (r : VR X h μ x u) : (p = .none ∧ u = .none) ∨ (∃ i t, p = .int i ∧ u = .int i t) ∨ ∃ z t, p = .str (codes z) ∧ u = .str z t := by
  cases r <;> cases e
  · exact .inl ⟨rfl, rfl⟩
  · exact .inr (.inl ⟨_, _, rfl, rfl⟩)
  · exact .inr (.inr ⟨_, _, rfl, rfl⟩)
theorem row_inv {h : Heap} (R : HR X μ σ h) {x : V} {u : Value} {p : Bool × List V} (e : row σ x = some p) (r : VR X h μ x u) : ∃ a l n, u = .ref a ∧ VRs X h μ p.2 l ∧ h.get? a = some { cls := .type (if p.1 then "tuple" else "list"), data := .seq l.toArray n } := by
  cases r <;> first | (cases e; done) | skip
  · rename_i i a hi
    obtain ⟨xs, e', rfl⟩ := Option.map_eq_some_iff.mp e
    cases R.obj i _ a (listAt_eq e') hi with
    | list e1 z r1 => exact ⟨a, _, _, rfl, r1, e1⟩
  · rename_i e1 b1 z r1
    cases e
    exact ⟨_, _, _, rfl, r1, e1⟩
theorem same_veq {h : Heap} (R : HR X μ σ h) : ∀ (n : Nat) (x y : V) (u : Value) (b : Bool), VR X h μ x u → VR X h μ y u → veq n σ x y = some b → b = true
  | 0, _, _, _, _, _, _, e => by cases e
  | n + 1, x, y, u, b, hx, hy, e => by
    unfold veq at e
    cases ha : atom x with
    | some p =>
      cases hb : atom y with
      | none => rw [ha, hb] at e; cases e
      | some q =>
        rw [ha, hb] at e
        have hpq : p = q := by
          rcases atom_inv ha hx with ⟨rfl, rfl⟩ | ⟨i, t, rfl, rfl⟩ | ⟨z, t, rfl, rfl⟩ <;> rcases atom_inv hb hy with ⟨rfl, q2⟩ | ⟨i', t', rfl, q2⟩ | ⟨z', t', rfl, q2⟩ <;> cases q2 <;> rfl
        cases e
        exact decide_eq_true hpq
    | none =>
      rw [ha] at e
      cases hp : row σ x with
      | none => rw [hp] at e; cases e
      | some p =>
        cases hq : row σ y with
        | none => rw [hp, hq] at e; cases e
        | some q =>
          rw [hp, hq] at e
          dsimp only at e
          split at e
          · obtain ⟨a, l, m, rfl, r1, e1⟩ := row_inv R hp hx
            obtain ⟨a', l', m', q1, r2, e2⟩ := row_inv R hq hy
            cases q1
            rw [e1] at e2
            have hd := congrArg (fun o => o.map (·.data)) e2
            injection hd with hd
            injection hd with hl
            have hl' := congrArg Array.toList hl
            simp only at hl'
            subst hl'
            rw [if_pos (by rw [r1.length, r2.length])] at e
            exact same_veqs (same_veq R n) r1 r2 e
          · cases e

theorem veqs_all {f : V → V → Option Bool} : ∀ {xs ys : List V} {b : Bool}, xs.length = ys.length → veqs f xs ys = some b →
    ∃ e : Nat → Bool, (∀ (j : Nat) (x y : V), xs[j]? = some x → ys[j]? = some y → f x y = some (e j)) ∧ (List.range xs.length).all e = b
  | [], [], b, _, e => by cases e; exact ⟨fun _ => true, fun j x y h => by simp at h, rfl⟩
  | x :: xs, y :: ys, b, hl, e => by
    obtain ⟨p, q, h1, h2, rfl⟩ := veqs_cons e
    obtain ⟨g, hg, hq⟩ := veqs_all (by simpa using hl) h2
    refine ⟨fun j => match j with | 0 => p | k + 1 => g k, fun j a b h3 h4 => ?_, ?_⟩
    · cases j with
      | zero => simp at h3 h4; subst h3 h4; exact h1
      | succ k => simp at h3 h4; exact hg k a b h3 h4
    · rw [List.length_cons, List.range_succ_eq_map, List.all_cons, List.all_map]
      show (p && (List.range xs.length).all g) = _
      rw [hq]

theorem beq_codes (x y : Str) : (x == y) = decide (codes x = codes y) := by
  by_cases h : x = y
  · subst h; simp
  · have : codes x ≠ codes y := fun q => h (codes_inj q)
    simp [h, this]

/-- equality, and its answer -/
theorem at_eq {h : Heap} {x y : V} {u v : Value} {p q : At} (hp : atom x = some p) (hq : atom y = some q) (hx : VR X h μ x u) (hy : VR X h μ y v) (A : Around) (s : Shared) : RcAt A s u v (decide (p = q)) ∧ EqAt A s u v (decide (p = q)) ∧ RcNeAt A s u v (!decide (p = q)) := by
  rcases atom_inv hp hx with ⟨rfl, rfl⟩ | ⟨i, t, rfl, rfl⟩ | ⟨z, t, rfl, rfl⟩ <;> rcases atom_inv hq hy with ⟨rfl, rfl⟩ | ⟨i', t', rfl, rfl⟩ | ⟨z', t', rfl, rfl⟩
  · exact ⟨RcAt.none_none, EqAt.same _, RcNeAt.none_none⟩
  · exact ⟨RcAt.none_int _ _, EqAt.none_int _ _, RcNeAt.none_int _ _⟩
  · exact ⟨RcAt.none_str _ _, EqAt.none_str _ _, RcNeAt.none_str _ _⟩
  · exact ⟨RcAt.int_none _ _, EqAt.int_none _ _, RcNeAt.int_none _ _⟩
  · have q : decide (At.int i = .int i') = (i == i') := by rw [Bool.beq_eq_decide_eq]; exact decide_eq_decide.mpr ⟨fun e => (by cases e; rfl), fun e => by rw [e]⟩
    rw [q]; exact ⟨RcAt.int_int _ _ _ _, EqAt.int_int _ _ _ _, RcNeAt.int_int _ _ _ _⟩
  · exact ⟨RcAt.int_str _ _ _ _, EqAt.int_str _ _ _ _, RcNeAt.int_str _ _ _ _⟩
  · exact ⟨RcAt.str_none _ _, EqAt.str_none _ _, RcNeAt.str_none _ _⟩
  · exact ⟨RcAt.str_int _ _ _ _, EqAt.str_int _ _ _ _, RcNeAt.str_int _ _ _ _⟩
  · have q : decide (At.str (codes z) = .str (codes z')) = (z == z') := by rw [beq_codes]; exact decide_eq_decide.mpr ⟨fun e => (by injection e), fun e => by rw [e]⟩
    rw [q]; exact ⟨RcAt.str_str _ _ _ _, EqAt.str_str _ _ _ _, RcNeAt.str_str _ _ _ _⟩
theorem rcAt {s : Shared} (R : HR X μ σ s.heap) : ∀ (n : Nat) (A : Around) (x y : V) (u v : Value) (b : Bool), veq n σ x y = some b → VR X s.heap μ x u → VR X s.heap μ y v → A.units + n < cLine →
    RcAt A s u v b ∧ EqAt A s u v b ∧ RcNeAt A s u v (!b)
  | 0, _, _, _, _, _, _, e, _, _, _ => by cases e
  | n + 1, A, x, y, u, v, b, e, hx, hy, hu => by
    have e₀ := e
    unfold veq at e
    cases ha : atom x with
    | some p =>
      cases hb : atom y with
      | none => rw [ha, hb] at e; cases e
      | some q => rw [ha, hb] at e; cases e; exact at_eq ha hb hx hy A s
    | none =>
      rw [ha] at e
      cases hp : row σ x with
      | none => rw [hp] at e; cases e
      | some p =>
        cases hq : row σ y with
        | none => rw [hp, hq] at e; cases e
        | some q =>
          rw [hp, hq] at e
          dsimp only at e
          split at e
          · rename_i hpq
            obtain ⟨a, l, k, rfl, r1, e1⟩ := row_inv R hp hx
            obtain ⟨a', l', k', rfl, r2, e2⟩ := row_inv R hq hy
            obtain ⟨p1, xs⟩ := p
            obtain ⟨q1, ys⟩ := q
            dsimp only at hpq r1 r2 e1 e2 e
            subst hpq
            have hu0 : A.units < cLine := Nat.lt_of_le_of_lt (Nat.le_add_right _ _) hu
            have items : xs.length = ys.length → veqs (veq n σ) xs ys = some b → ∃ e : Nat → Bool, (∀ j (h1 : j < l.toArray.size) (h2 : j < l'.toArray.size), EqAt A.in1 s l.toArray[j] l'.toArray[j] (e j)) ∧ (List.range l.toArray.size).all e = b := by
              intro hl he
              obtain ⟨g, hg, hq⟩ := veqs_all hl he
              refine ⟨g, fun j j1 j2 => ?_, by rw [List.size_toArray, ← r1.length]; exact hq⟩
              simp only [List.size_toArray] at j1 j2
              have k1 : j < xs.length := r1.length ▸ j1
              have k2 : j < ys.length := r2.length ▸ j2
              obtain ⟨u, f1, r1⟩ := r1.get (List.getElem?_eq_getElem k1)
              obtain ⟨v, f2, r2⟩ := r2.get (List.getElem?_eq_getElem k2)
              rw [List.getElem?_eq_getElem j1] at f1
              rw [List.getElem?_eq_getElem j2] at f2
              rw [List.getElem_toArray, List.getElem_toArray, Option.some.inj f1, Option.some.inj f2]
              exact (rcAt R n A.in1 _ _ _ _ _ (hg j _ _ (List.getElem?_eq_getElem k1) (List.getElem?_eq_getElem k2)) r1 r2 (by show A.units + 1 + n < cLine; rw [Nat.add_right_comm]; exact hu)).2.1
            have hsz : xs.length = ys.length → l.toArray.size = l'.toArray.size := fun hl => by rw [List.size_toArray, List.size_toArray, ← r1.length, ← r2.length]; exact hl
            have key : RcAt A s (.ref a) (.ref a') b ∧ RcNeAt A s (.ref a) (.ref a') (!b) := by
              cases p1 with
              | true =>
                have L1 : s.heap.IsTuple a l.toArray := ⟨_, e1, rfl, _, rfl⟩
                have L2 : s.heap.IsTuple a' l'.toArray := ⟨_, e2, rfl, _, rfl⟩
                split at e
                · rename_i hl
                  obtain ⟨g, hg, hq⟩ := items hl e
                  have hb : b = ((List.range (min l.toArray.size l'.toArray.size)).all g && l.toArray.size == l'.toArray.size) := by rw [← hsz hl, Nat.min_self, hq]; simp
                  rw [hb]
                  exact ⟨RcAt.tuples L1 L2 hu0 hg, RcNeAt.tuples L1 L2 hu0 hg⟩
                · cases e
              | false =>
                have L1 : s.heap.IsList a l.toArray := ⟨_, e1, rfl, _, rfl⟩
                have L2 : s.heap.IsList a' l'.toArray := ⟨_, e2, rfl, _, rfl⟩
                split at e
                · rename_i hl
                  obtain ⟨g, hg, hq⟩ := items hl e
                  subst hq
                  exact ⟨RcAt.lists L1 L2 (hsz hl) hu0 hg, RcNeAt.lists L1 L2 (hsz hl) hu0 hg⟩
                · rename_i hl
                  cases e
                  have hz : (l.toArray.size != l'.toArray.size) = true := by rw [List.size_toArray, List.size_toArray, ← r1.length, ← r2.length]; simpa using hl
                  exact ⟨RcAt.lists_lengths L1 L2 hz hu0, RcNeAt.lists_lengths L1 L2 hz hu0⟩
            refine ⟨key.1, ?_, key.2⟩
            by_cases haa : a = a'
            · subst haa
              rw [same_veq R (n + 1) x y (.ref a) b hx hy e₀]
              exact EqAt.same _
            · exact .of_refs haa key.1
          · cases e

theorem ERs.get {h : Heap} {kvs : List (List Nat × V)} {l : List (Str × Value)} (r : ERs X h μ kvs l) (x : Str) :
    (dget kvs (codes x) = none ∧ valueAt l x = none) ∨ ∃ v u, dget kvs (codes x) = some v ∧ valueAt l x = some u ∧ VR X h μ v u := by
  obtain ⟨hk, hlm, hv⟩ := r
  induction kvs generalizing l with
  | nil => cases l with
    | nil => exact .inl ⟨rfl, rfl⟩
    | cons _ _ => cases hk
  | cons p ps ih =>
    cases l with
    | nil => cases hk
    | cons e es =>
      obtain ⟨k, v⟩ := p
      obtain ⟨y, u⟩ := e
      rw [List.map_cons, List.map_cons] at hk hv
      injection hk with hk hks
      cases hv with
      | cons hv hvs =>
        by_cases hxy : y = x
        · subst hxy
          refine .inr ⟨v, u, ?_, ?_, hv⟩
          · rw [dget]; exact if_pos hk
          · simp [valueAt]
        · have hne : k ≠ codes x := fun q => hxy (codes_inj (hk.symm.trans q))
          have e1 : dget ((k, v) :: ps) (codes x) = dget ps (codes x) := by rw [dget]; exact if_neg hne
          have e2 : valueAt ((y, u) :: es) x = valueAt es x := by simp [valueAt, hxy]
          rw [e1, e2]
          exact ih hks (fun p hp => hlm p (List.mem_cons_of_mem _ hp)) hvs
/-- the flat equality of a value with the items of a sequence -/
noncomputable def ceq : Value → Value → Bool
  | .bool x, .bool y => x == y
  | .int x _, .int y _ => x == y
  | .str x _, .str y _ => x == y
  | _, _ => false
theorem feq_at {x y : V} {u v : Value} {b : Bool} (e : feq x y = some b) {h : Heap} (hx : VR X h μ x u) (hy : VR X h μ y v) (A : Around) (s : Shared) : b = ceq u v ∧ EqAt A s u v (ceq u v) := by
  cases hx <;> first | (cases e; done) | skip
  · cases hy <;> first | (cases e; done) | skip
    cases e; exact ⟨rfl, EqAt.bool_bool _ _⟩
  · cases hy <;> first | (cases e; done) | skip
    cases e; exact ⟨(Bool.beq_eq_decide_eq _ _).symm, EqAt.int_int _ _ _ _⟩
  · cases hy <;> first | (cases e; done) | skip
    cases e; exact ⟨(beq_codes _ _).symm, EqAt.str_str _ _ _ _⟩
theorem anyEq_cons {a x : V} {xs : List V} {b : Bool} (e : anyEq a (x :: xs) = some b) : ∃ p q, feq x a = some p ∧ anyEq a xs = some q ∧ b = (p || q) := by
  unfold anyEq at e
  split at e
  · rename_i p q h1 h2; cases e; exact ⟨p, q, h1, h2, rfl⟩
  · cases e
theorem anyEq_at {h : Heap} {a : V} {u : Value} (ha : VR X h μ a u) : ∀ {xs : List V} {l : List Value} {b : Bool}, anyEq a xs = some b → VRs X h μ xs l →
    (∀ y ∈ l, ∀ A s, EqAt A s y u (ceq y u)) ∧ l.any (fun y => ceq y u) = b
  | [], _, _, e, .nil => by cases e; exact ⟨fun _ h => (nomatch h), rfl⟩
  | x :: xs, v :: l, b, e, .cons hx r => by
    obtain ⟨p, q, h1, h2, rfl⟩ := anyEq_cons e
    obtain ⟨hf, hq⟩ := anyEq_at ha h2 r
    refine ⟨fun y hy A s => ?_, ?_⟩
    · rcases List.mem_cons.mp hy with rfl | hy
      · exact (feq_at h1 hx ha A s).2
      · exact hf y hy A s
    · rw [List.any_cons, hq, (feq_at (s := ⟨{}, #[], {}, 0, default⟩) h1 hx ha {}).1]

theorem VR.none_iff {h : Heap} {x : V} {u : Value} (r : VR X h μ x u) : (u == Value.none) = isNoneV x := by cases r <;> rfl
theorem yes_f (b : Bool) : yes false b = .bool b := by cases b <;> rfl
theorem yes_t (b : Bool) : yes true b = .bool (!b) := by cases b <;> rfl
/-- an answer of `in`, or of `not in` -/
theorem sm_yes {P : Bool → PT Value} (c : Cn X A d hn s μ σ) (neg : Bool) (r : Bool) (t : Nat) (h : ∀ neg Q E, Q (.bool (if neg then !r else r)) { s with toks := t } → P neg Q E s) : Sm X (P neg) (.ok (yes neg r) σ) (Rl X) s μ := by
  refine Sm.ok fun Q E hQ => h neg Q E (hQ _ _ _ (c.same t) ?_)
  cases neg
  · rw [yes_f]; exact .bool _
  · rw [yes_t]; exact .bool _
noncomputable def inOp (neg : Bool) : CmpOp := if neg then .NotIn else .In
theorem sm_in (c : Cn X A d hn s μ σ) (neg : Bool) {x y : V} {u v : Value} (hx : VR X s.heap μ x u) (hy : VR X s.heap μ y v) : Sm X (Wp X A (compareOp (inOp neg) u v)) (inM x y neg σ) (Rl X) s μ := by
  cases hy with
  | @tup ys a l n e hb hz rr =>
    refine sm_pick fun w he => ?_
    obtain ⟨r, hr, rfl⟩ := Option.map_eq_some_iff.mp he
    obtain ⟨h1, h2⟩ := anyEq_at hx hr rr
    have L : s.heap.IsTuple a l.toArray := ⟨_, e, rfl, _, rfl⟩
    refine sm_yes (P := fun neg => Wp X A (compareOp (inOp neg) u (.ref a))) c neg r s.toks fun neg Q E hq => ?_
    cases neg with
    | false => exact in_tupleAt (fun y => ceq y u) L (fun y hy => h1 y (by simpa using hy) _ _) (by rw [List.any_toArray, h2]; exact hq)
    | true => exact notIn_tupleAt (fun y => ceq y u) L (fun y hy => h1 y (by simpa using hy) _ _) (by rw [List.any_toArray, h2]; exact hq)
  | @ref i a hi =>
    show Sm X _ (match σ[i]? with | some (.list xs) => pick ((anyEq x xs).map (yes neg)) σ | some (.dict kvs) => onS x (fun x => .ret (yes neg (dget kvs x).isSome)) σ | none => .stuck) _ _ _
    rcases ho : σ[i]? with _ | ⟨xs⟩ | ⟨kvs⟩
    · exact Sm.stuck
    · refine sm_pick fun w he => ?_
      obtain ⟨r, hr, rfl⟩ := Option.map_eq_some_iff.mp he
      obtain ⟨l, n, e, rr, _⟩ := c.list ho hi
      obtain ⟨h1, h2⟩ := anyEq_at hx hr rr
      have L : s.heap.IsList a l.toArray := ⟨_, e, rfl, _, rfl⟩
      refine sm_yes (P := fun neg => Wp X A (compareOp (inOp neg) u (.ref a))) c neg r s.toks fun neg Q E hq => ?_
      cases neg with
      | false => exact in_listAt (fun y => ceq y u) L (fun y hy => h1 y (by simpa using hy) _ _) (by rw [List.any_toArray, h2]; exact hq)
      | true => exact notIn_listAt (fun y => ceq y u) L (fun y hy => h1 y (by simpa using hy) _ _) (by rw [List.any_toArray, h2]; exact hq)
    · cases hx <;> first | exact Sm.stuck | skip
      rename_i z t hz
      obtain ⟨l, hd, rr, _⟩ := c.dict ho hi
      refine sm_yes (P := fun neg => Wp X A (compareOp (inOp neg) (.str z t) (.ref a))) c neg _ (s.toks + 1) fun neg Q E hq => ?_
      have hk : (dget kvs (codes z)).isSome = (valueAt l z).isSome := by
        rcases rr.get z with ⟨e1, e2⟩ | ⟨v, w, e1, e2, _⟩ <;> rw [e1, e2] <;> rfl
      rw [hk] at hq
      cases neg with
      | false => exact wpAny_in_of (strKind_is X.prog X.w z t) (c.noSys hi) hd.mapOf hq
      | true => exact wpAny_notIn_of (strKind_is X.prog X.w z t) (c.noSys hi) hd.mapOf hq
  | str w t hw =>
    cases hx <;> first | exact Sm.stuck | skip
    rename_i z t' hz'
    show Sm X _ (one (codes z) (fun k => .ret (yes neg ((codes w).contains k))) σ) _ _ _
    rcases hz : codes z with _ | ⟨k, _ | ⟨_, _⟩⟩
    · exact Sm.stuck
    · have hzz : z = ⟨#[k]⟩ := codes_inj (by rw [hz]; rfl)
      subst hzz
      have key : (!(Builtin.Str.occurrences w ⟨#[k]⟩ 0 w.length 1).isEmpty) = (codes w).contains k := by
        rw [StrLaws.found_one]; show decide (k ∈ codes w) = _
        rw [Bool.eq_iff_iff, decide_eq_true_eq, List.contains_iff_mem]
      refine sm_yes (P := fun neg => Wp X A (compareOp (inOp neg) (.str ⟨#[k]⟩ t') (.str w t))) c neg _ s.toks fun neg Q E hq => ?_
      cases neg with
      | false => exact in_str (by rw [key]; exact hq)
      | true => exact notIn_str (by rw [key]; exact hq)
    · exact Sm.stuck
  | _ => exact Sm.stuck
theorem sm_cmp (c : Cn X A d hn s μ σ) (op : Cmp) {x y : V} {u v : Value} (hx : VR X s.heap μ x u) (hy : VR X s.heap μ y v) :
    Sm X (Wp X A (compareOp (cmOf op) u v)) (cmpV op x y σ) (Rl X) s μ := by
  have hroom : A.units + eqD < cLine := by have := c.rm.units; simp only [eqD]; (first | lia | omega)
  cases op with
  | eq =>
    show Sm X _ (match veq eqD σ x y with | some r => _ | none => _) _ _ _
    cases he : veq eqD σ x y with
    | none => exact Sm.stuck
    | some r =>
      refine Sm.ok fun Q E hQ => (rcAt c.hr eqD A x y u v r he hx hy hroom).1 X.prog X.w E Q ?_
      simpa using hQ (.bool (r != false)) s μ (Step.refl c.hr c.base) (.bool _)
  | ne =>
    show Sm X _ (match veq eqD σ x y with | some r => _ | none => _) _ _ _
    cases he : veq eqD σ x y with
    | none => exact Sm.stuck
    | some r =>
      refine Sm.ok fun Q E hQ => (rcAt c.hr eqD A x y u v r he hx hy hroom).2.2 X.prog X.w E Q ?_
      simpa using hQ (.bool (r != true)) s μ (Step.refl c.hr c.base) (.bool _)
  | lt =>
    refine sm_i2 hx hy fun i t j t' e1 e2 => ?_
    subst e1 e2
    exact Sm.ok fun Q E hQ => lt_int (hQ _ _ _ (Step.refl c.hr c.base) (.bool _))
  | le =>
    refine sm_i2 hx hy fun i t j t' e1 e2 => ?_
    subst e1 e2
    exact Sm.ok fun Q E hQ => le_int (hQ _ _ _ (Step.refl c.hr c.base) (.bool _))
  | gt =>
    refine sm_i2 hx hy fun i t j t' e1 e2 => ?_
    subst e1 e2
    exact Sm.ok fun Q E hQ => gt_int (hQ _ _ _ (Step.refl c.hr c.base) (.bool _))
  | ge =>
    refine sm_i2 hx hy fun i t j t' e1 e2 => ?_
    subst e1 e2
    exact Sm.ok fun Q E hQ => ge_int (hQ _ _ _ (Step.refl c.hr c.base) (.bool _))
  | is =>
    cases hy with
    | none => exact Sm.ok fun Q E hQ => is_none_gen (by rw [hx.none_iff]; exact hQ _ _ _ (Step.refl c.hr c.base) (.bool _))
    | _ => exact Sm.stuck
  | isnt =>
    cases hy with
    | none => exact Sm.ok fun Q E hQ => isnot_none_gen (by rw [hx.none_iff]; exact hQ _ _ _ (Step.refl c.hr c.base) (.bool _))
    | _ => exact Sm.stuck
  | isin => exact sm_in c false hx hy
  | notin => exact sm_in c true hx hy
end
end Mine

set_option maxRecDepth 100000
namespace Mine
open PySem PyProof.Rows PySem.SeqAt

section
variable {X : W} {A : Around} {d : Nat} {hn : Bool} {s : Shared} {μ : List Addr} {σ : H}

theorem idxN_seq {k : Int} {n j : Nat} (e : idxN k n = some j) : seqIndex? k n = some j ∧ j < n := by
  unfold idxN at e
  unfold seqIndex?
  split at e
  · rename_i h
    split at e
    · rename_i h2
      cases e
      have h1 : ¬ k < 0 := by (first | lia | omega)
      simp only [h1, if_false]
      refine ⟨?_, h2⟩
      rw [if_pos (by simp; (first | lia | omega))]
    · cases e
  · rename_i h
    split at e
    · rename_i h2
      cases e
      have h1 : k < 0 := by (first | lia | omega)
      simp only [h1, if_true]
      refine ⟨?_, by (first | lia | omega)⟩
      rw [if_pos (by simp; (first | lia | omega))]
    · cases e
theorem idxN_fits {k : Int} {n j : Nat} (e : idxN k n = some j) (hz : n ≤ lim) : -(2 ^ 63) ≤ k ∧ k < 2 ^ 63 := by
  have hl : lim = 16777216 := rfl
  unfold idxN at e
  split at e
  · split at e
    · (first | lia | omega)
    · cases e
  · split at e
    · (first | lia | omega)
    · cases e

/-- an item of a list -/
theorem rule_item {a : Addr} {l : List Value} (L : s.heap.IsList a l.toArray) (hz : l.length ≤ lim) {k : Int} {t : Tok} {j : Nat} (e : idxN k l.length = some j) {u : Value} (hu : l[j]? = some u) {Q : Value → Shared → Prop} {E : Value → Shared → Prop}
    (h : Q u s) : wpAny (Mo X) A (getItem (.ref a) (.int k t)) Q E s := by
  obtain ⟨f1, f2⟩ := idxN_fits e hz
  unfold idxN at e
  split at e
  · rename_i h0
    split at e
    · cases e
      exact wpAny_getItem_list L h0 f2 (by simpa using hu) h
    · cases e
  · rename_i h0
    split at e
    · rename_i h1
      cases e
      exact wpAny_getItem_list_neg L (by (first | lia | omega)) (by simp; (first | lia | omega)) f1 (by simpa using hu) h
    · cases e

theorem sm_idx (c : Cn X A d hn s μ σ) {value slice : Expr} {x y : V} {u v : Value} (hx : VR X s.heap μ x u) (hy : VR X s.heap μ y v)
    (hs : subscripted slice false u v = operate [u, v] (getItem u v)) : Sm X (Wp X A (subscriptTail value slice u v)) (idxV X.ns x y σ) (Rl X) s μ := by
  cases hy with
  | int k t =>
    cases hx with
    | @ref i a hi =>
      refine sm_onL c hi fun xs l n ho e r hz => sm_pick fun w he => ?_
      obtain ⟨j, e1, e2⟩ := Option.bind_eq_some_iff.mp he
      obtain ⟨z, hz1, hz2⟩ := r.get e2
      have L : s.heap.IsList a l.toArray := ⟨_, e, rfl, _, rfl⟩
      rw [r.length] at e1
      exact Sm.ok fun Q E hQ => tail_any L.typeIs slot_list_getitem.lookup (rule_item L hz e1 hz1 (hQ _ _ _ (Step.refl c.hr c.base) hz2)) hs
    | @tup xs a l n e hb hz r =>
      refine sm_pick fun w he => ?_
      obtain ⟨j, e1, e2⟩ := Option.bind_eq_some_iff.mp he
      obtain ⟨z, hz1, hz2⟩ := r.get e2
      rw [r.length] at e1
      obtain ⟨f1, f2⟩ := idxN_fits e1 hz
      have T : IsTup s.heap a l.toArray := ⟨_, e, rfl, _, rfl⟩
      exact Sm.ok fun Q E hQ => item_tupleT T f1 f2 (by simpa using (idxN_seq e1).1) (by simpa using hz1) (hQ _ _ _ (Step.refl c.hr c.base) hz2) hs
    | str w t' hw =>
      refine sm_pick fun v he => ?_
      obtain ⟨q, he', rfl⟩ := Option.map_eq_some_iff.mp he
      obtain ⟨j, e1, e2⟩ := Option.bind_eq_some_iff.mp he'
      rw [codes_length] at e1
      obtain ⟨f1, f2⟩ := idxN_fits e1 hw
      refine Sm.ok fun Q E hQ => tail_any (typeIs_str s w t') slot_str_getitem.lookup (getItem_str (c := q) (by simp; (first | lia | omega)) ?_ (hQ _ _ _ (c.same _) (.str ⟨#[q]⟩ _ (Nat.le_of_ble_eq_true rfl)))) hs
      rw [(idxN_seq e1).1]
      simpa [codes] using e2
    | scr =>
      refine sm_pick fun v he => ?_
      obtain ⟨w, he', rfl⟩ := Option.map_eq_some_iff.mp he
      obtain ⟨j, e1, e2⟩ := Option.bind_eq_some_iff.mp he'
      obtain ⟨vs, L₀, hi, hz⟩ := c.scr
      have L : s.heap.IsList X.scr vs.toArray := let ⟨o, a, b⟩ := L₀; ⟨o, c.base.keep _ _ a, b⟩
      rw [← hi.length] at e1
      obtain ⟨t', e3⟩ := hi.get j w e2
      exact Sm.ok fun Q E hQ => tail_any L.typeIs slot_list_getitem.lookup (rule_item L hz e1 e3 (hQ _ _ _ (Step.refl c.hr c.base) (.int _ _))) hs
    | _ => exact Sm.stuck
  | str z t hzl =>
    cases hx with
    | @ref i a hi =>
      refine sm_onD c hi fun kvs l ho hd r _ => sm_pick fun w he => ?_
      rcases r.get z with ⟨e1, _⟩ | ⟨w', q, e1, e2, hr⟩
      · rw [he] at e1; cases e1
      · rw [he] at e1; cases e1
        exact Sm.ok fun Q E hQ => tail_any hd.typeIs slot_dict_getitem.lookup (wpAny_getItem_of (strKind_is X.prog X.w z t) hd.mapOf e2 (hQ _ _ _ (c.same _) hr)) hs
    | _ => exact Sm.stuck
  | _ => exact Sm.stuck

theorem clamp_clip (k : Int) (n : Nat) : clampN k n = clipAt n k := by
  have := clipAt_cast n k
  unfold clampN
  split
  · rename_i h
    rw [if_neg (by (first | lia | omega))] at this
    (first | lia | omega)
  · rename_i h
    rw [if_pos (by (first | lia | omega))] at this
    (first | lia | omega)
theorem cut_pick {l : List Value} (lo hi : Option Int) : slicePick l.toArray lo hi none = (cut l lo hi).toArray := by
  rw [slicePick_plain]
  unfold cut
  cases lo <;> cases hi <;> simp [clamp_clip]
theorem VRs.cut {h : Heap} {xs : List V} {l : List Value} (r : VRs X h μ xs l) (lo hi : Option Int) : VRs X h μ (cut xs lo hi) (cut l lo hi) := by
  unfold Mine.cut
  rw [r.length]
  exact (r.drop _).take _
theorem cut_le {α : Type} (xs : List α) (lo hi : Option Int) : (cut xs lo hi).length ≤ xs.length := by
  unfold cut
  simp only [List.length_take, List.length_drop]
  (first | lia | omega)
theorem cut_map {α β : Type} (f : α → β) (xs : List α) (lo hi : Option Int) : (cut xs lo hi).map f = cut (xs.map f) lo hi := by
  unfold cut
  rw [List.length_map, List.map_take, List.map_drop]
theorem indices_cut (x : Str) (lo hi : Option Int) : (Builtin.Str.strSliceIndices lo hi 1 x.length).filterMap (x.cps[·]?) = cut (codes x) lo hi ∧ (Builtin.Str.strSliceIndices lo hi 1 x.length).length = (cut (codes x) lo hi).length := by
  have hb : ∀ n : Nat, Builtin.Str.strSliceIndices lo hi 1 n = sliceRange ((lo.elim 0 (clipAt n) : Nat) : Int) ((hi.elim n (clipAt n) : Nat) : Int) 1 := by
    intro n
    unfold Builtin.Str.strSliceIndices
    cases lo <;> cases hi <;> simp [clipAt_cast]
  rw [hb, sliceRange_one, pick_run]
  have e : cut (codes x) lo hi = (x.cps.toList.drop (lo.elim 0 (clipAt x.length))).take (hi.elim x.length (clipAt x.length) - lo.elim 0 (clipAt x.length)) := by
    unfold cut
    rw [codes_length]
    cases lo <;> cases hi <;> simp [clamp_clip, codes]
  refine ⟨e.symm, ?_⟩
  rw [e]
  simp only [List.length_map, List.length_range, List.length_take, List.length_drop]
  have h1 : x.cps.toList.length = x.length := by simp [Str.length]
  have h2 : ∀ i : Int, clipAt x.length i ≤ x.length := fun i => by
    have := clipAt_cast x.length i
    (first | lia | omega)
  rw [h1]
  cases hi with
  | none => simp only [Option.elim]; (first | lia | omega)
  | some i => have := h2 i; simp only [Option.elim]; (first | lia | omega)

theorem cut_full {α : Type} {xs : List α} {lo hi : Option Int} (h : (cut xs lo hi).length = xs.length) : cut xs lo hi = xs := by
  obtain ⟨a, b, e⟩ : ∃ a b, cut xs lo hi = (xs.drop a).take (b - a) := ⟨_, _, rfl⟩
  rw [e] at h ⊢
  simp only [List.length_take, List.length_drop] at h
  by_cases hx : xs.length = 0
  · rw [List.eq_nil_of_length_eq_zero hx]; simp
  · have ha : a = 0 := by (first | lia | omega)
    subst ha
    rw [List.drop_zero, List.take_of_length_le (by (first | lia | omega))]
theorem vrs_ints {h : Heap} : ∀ {l : List Value} {ns : List Int}, IntsAre l ns → VRs X h μ (ns.map V.int) l
  | _, _, .nil => .nil
  | _, _, .cons n t r => .cons (.int n t) (vrs_ints r)
theorem Cn.isScr (c : Cn X A d hn s μ σ) {xs : Array Value} (L : X.h₀.IsList X.scr xs) : s.heap.IsList X.scr xs := by
  obtain ⟨o, e, r⟩ := L
  exact ⟨o, c.base.keep _ _ e, r⟩

noncomputable def partOf : Value → Option (Int × Tok)
  | .int i t => some (i, t)
  | _ => none
theorem opt_part {h : Heap} {x : V} {u : Value} {o : Option Int} (e : optInt x = some o) (r : VR X h μ x u) : IsPart u o ∧ partValue (partOf u) = u ∧ (partOf u).map (·.1) = o := by
  cases r <;> simp only [optInt] at e <;> cases e
  · exact ⟨.none, rfl, rfl⟩
  · exact ⟨.int _ _, rfl, rfl⟩

theorem sm_slice (c : Cn X A d hn s μ σ) {value : Expr} {lower upper : Option Expr} {p : Pos} {x y z : V} {u vl vh : Value} (hx : VR X s.heap μ x u) (hl : VR X s.heap μ y vl) (hh : VR X s.heap μ z vh) :
    Sm X (fun Q E s => wpAny (Mo X) A (newFields "slice" [vl, vh, .none]) (fun i s₂ => wpAny (Mo X) A (subscriptTail value (.Slice lower upper none p) u i) Q E s₂) E s) (sliceV X.ns x y z σ) (Rl X) s μ := by
  unfold sliceV
  cases e1 : optInt y with
  | none => exact Sm.stuck
  | some lo =>
    cases e2 : optInt z with
    | none => exact Sm.stuck
    | some hi =>
      obtain ⟨pl, pl1, pl2⟩ := opt_part e1 hl
      obtain ⟨ph, ph1, ph2⟩ := opt_part e2 hh
      have S1 : Step X s μ { s with heap := s.heap.push { cls := .type "slice", data := .fields #[vl, vh, .none] } } μ σ := Step.push c _ s.toks
      have c1 := c.step S1
      have go : ∀ {r : R V}, Sm X (Wp X A (subscriptTail value (.Slice lower upper none p) u (.ref s.heap.objs.size))) r (Rl X) { s with heap := s.heap.push { cls := .type "slice", data := .fields #[vl, vh, .none] } } μ →
          Sm X (fun Q E s => wpAny (Mo X) A (newFields "slice" [vl, vh, .none]) (fun i s₂ => wpAny (Mo X) A (subscriptTail value (.Slice lower upper none p) u i) Q E s₂) E s) r (Rl X) s μ := by
        intro r h hne Q E hQ hE
        refine wpAny_newObj_type ?_ (by show 3 ≤ sizeLine + 2; decide)
        exact h hne Q E (fun a σ' b s' μ' e S r => hQ a σ' b s' μ' e (S1.trans S) r) fun cc σ' e s' μ' q S r => hE cc σ' e s' μ' q (S1.trans S) (r.le S1.pers)
      dsimp only
      cases hx with
      | @ref i a hi' =>
        refine go (sm_onL c1 hi' fun xs l n ho e r hz => ?_)
        · have L : (s.heap.push { cls := .type "slice", data := .fields #[vl, vh, .none] }).IsList a l.toArray := ⟨_, e, rfl, _, rfl⟩
          refine sm_pushed c1 (r.cut lo hi) fun _ Q E hQ => tail_any L.typeIs list_getitem_lookup (ops := [.ref s.heap.objs.size, .ref a])
            (wpAny_getItem_list_slice L (Heap.IsSliceOf.new ..) pl ph .none (by simp) ?_ (by rw [List.size_toArray]; exact hz)) (by with_unfolding_all rfl)
          rw [cut_pick]
          exact hQ
      | str w t hw =>
        refine go ?_
        show Sm X _ (mkS (cut (codes w) lo hi) σ) _ _ _
        unfold mkS
        have hcl : (cut (codes w) lo hi).length ≤ lim := Nat.le_trans (cut_le _ _ _) (by rw [codes_length]; exact hw)
        rw [if_pos hcl]
        refine Sm.ok fun Q E hQ => ?_
        obtain ⟨k1, k2⟩ := indices_cut w lo hi
        refine tail_any (typeIs_str _ w t) slot_str_getitem.lookup (ops := [.ref s.heap.objs.size, .str w t]) (getItem_slot (typeIs_str _ w t) (by decide) slot_str_getitem
          (call_meets slot_str_getitem (typeIs_str _ w t) entry_str_getitem (args_str_getitem _ _) (meets_str_getitem_slice w t s.heap.objs.size (partOf vl) (partOf vh) none rfl) ⟨?_, ?_⟩)) (by with_unfolding_all rfl)
        · refine ⟨_, Heap.get?_push_size _ rfl, rfl, ?_⟩
          rw [pl1, ph1]; rfl
        · unfold sliceMade slicePicked
          rw [pl2, ph2]
          show Made.post (if ((1 : Int) == 1 && (Builtin.Str.strSliceIndices lo hi 1 w.length).length == w.length) = true then _ else _) _ _
          split
          · rename_i hq
            have hq' : (cut (codes w) lo hi).length = (codes w).length := by rw [← k2, codes_length]; simpa using hq
            have : cut (codes w) lo hi = codes w := by
              exact cut_full hq'
            exact hQ _ _ _ (Step.refl c1.hr c1.base) (by rw [this]; exact .str _ _ hw)
          · rename_i hq
            rw [show ((Option.map (fun x : Int × Tok => x.fst) none).getD 1 : Int) = 1 from rfl, k1]
            dsimp only [Made.post]
            have hl : (Str.mk (cut (codes w) lo hi).toArray).length ≤ lim := by simp only [Str.length, List.size_toArray]; exact hcl
            refine ⟨hl, hQ _ _ _ ((Step.refl c1.hr c1.base).toks _) ?_⟩
            have := VR.str (X := X) (h := s.heap.push { cls := .type "slice", data := .fields #[vl, vh, .none] }) (μ := μ) ⟨(cut (codes w) lo hi).toArray⟩ s.toks hl
            rw [codes_mk] at this
            exact this
      | scr =>
        refine go ?_
        obtain ⟨vs, L₀, hi', hz⟩ := c1.scr
        have L : (s.heap.push { cls := .type "slice", data := .fields #[vl, vh, .none] }).IsList X.scr vs.toArray := c1.isScr L₀
        refine sm_pushed c1 (l := cut vs lo hi) ?_ fun _ Q E hQ => tail_any L.typeIs list_getitem_lookup (ops := [.ref s.heap.objs.size, .ref X.scr])
              (wpAny_getItem_list_slice L (Heap.IsSliceOf.new ..) pl ph .none (by simp) ?_ (by rw [List.size_toArray]; exact hz)) (by with_unfolding_all rfl)
        · rw [cut_map]
          exact (vrs_ints hi').cut lo hi
        · rw [cut_pick]
          exact hQ
      | _ => exact Sm.stuck
end
end Mine

set_option maxRecDepth 100000
set_option linter.all false
namespace Mine
open PySem PyProof.Rows PySem.Calls

noncomputable def asB : V → M Bool
  | .bool b => .ret b
  | _ => stuck
noncomputable abbrev RlB : Heap → List Addr → Bool → Bool → Prop := fun _ _ a b => a = b
noncomputable def isSlice : Expr → Bool
  | .Slice .. => true
  | _ => false
/-- trees that are tested in a way of their own -/
noncomputable def isTest : E → Bool
  | .not _ => true
  | .and _ => true
  | .or _ => true
  | .cmp _ _ _ => true
  | _ => false

section
variable {X : W} {A : Around} {d : Nat} {hn : Bool} {s : Shared} {μ : List Addr} {σ : H} {env : PySem.Env} {cx : Cx} {ρ : Env}

structure Facts (t : E) (e : Expr) : Prop where
  marks : ∀ op, behindInMarks op e = false
  star : ∀ rest env, starEach (e :: rest) env = (false, eval e env) :: starEach rest env
  fold : ∀ env x, foldedSetIterable e env x = pure x
  slice : isSlice e = false
  swap : isComp t = false → ∀ tg l env, swapsWith e tg l env = pure false
  test : isTest t = false → ∀ env whole, isTrue e env whole = (do let v ← whole; standAt e.pos; holding [v] (truthy v))
theorem T.facts {G : GT} {t : E} {e : Expr} (h : T G t cx e) : Facts t e := by
  cases t
  case lit => obtain ⟨_, _, _, rfl, _⟩ := h; exact ⟨fun _ => rfl, fun _ _ => rfl, fun _ _ => rfl, rfl, fun _ _ _ _ => rfl, fun _ _ _ => rfl⟩
  case var => obtain ⟨_, _, rfl, _⟩ := h; exact ⟨fun _ => rfl, fun _ _ => rfl, fun _ _ => rfl, rfl, fun _ _ _ _ => rfl, fun _ _ _ => rfl⟩
  case con => obtain ⟨_, _, rfl, _⟩ := h; exact ⟨fun _ => rfl, fun _ _ => rfl, fun _ _ => rfl, rfl, fun _ _ _ _ => rfl, fun _ _ _ => rfl⟩
  case bin => obtain ⟨_, _, _, rfl, _⟩ := h; exact ⟨fun _ => rfl, fun _ _ => rfl, fun _ _ => rfl, rfl, fun _ _ _ _ => rfl, fun _ _ _ => rfl⟩
  case not => obtain ⟨_, _, rfl, _⟩ := h; exact ⟨fun _ => rfl, fun _ _ => rfl, fun _ _ => rfl, rfl, fun _ _ _ _ => rfl, fun h => nomatch h⟩
  case neg => obtain ⟨_, _, rfl, _⟩ := h; exact ⟨fun _ => rfl, fun _ _ => rfl, fun _ _ => rfl, rfl, fun _ _ _ _ => rfl, fun _ _ _ => rfl⟩
  case and => obtain ⟨_, _, rfl, _⟩ := h; exact ⟨fun _ => rfl, fun _ _ => rfl, fun _ _ => rfl, rfl, fun _ _ _ _ => rfl, fun h => nomatch h⟩
  case or => obtain ⟨_, _, rfl, _⟩ := h; exact ⟨fun _ => rfl, fun _ _ => rfl, fun _ _ => rfl, rfl, fun _ _ _ _ => rfl, fun h => nomatch h⟩
  case cmp => obtain ⟨_, _, _, rfl, _⟩ := h; exact ⟨fun _ => rfl, fun _ _ => rfl, fun _ _ => rfl, rfl, fun _ _ _ _ => rfl, fun h => nomatch h⟩
  case call => obtain ⟨_, _, _, _, rfl, _⟩ := h; exact ⟨fun _ => rfl, fun _ _ => rfl, fun _ _ => rfl, rfl, fun _ _ _ _ => rfl, fun _ _ _ => rfl⟩
  case bi => obtain ⟨_, _, _, rfl, _⟩ := h; exact ⟨fun _ => rfl, fun _ _ => rfl, fun _ _ => rfl, rfl, fun _ _ _ _ => rfl, fun _ _ _ => rfl⟩
  case listRev => obtain ⟨_, _, _, _, _, rfl, _⟩ := h; exact ⟨fun _ => rfl, fun _ _ => rfl, fun _ _ => rfl, rfl, fun _ _ _ _ => rfl, fun _ _ _ => rfl⟩
  case isi => obtain ⟨_, _, _, _, _, rfl, _⟩ := h; exact ⟨fun _ => rfl, fun _ _ => rfl, fun _ _ => rfl, rfl, fun _ _ _ _ => rfl, fun _ _ _ => rfl⟩
  case me => obtain ⟨_, _, _, _, rfl, _⟩ := h; exact ⟨fun _ => rfl, fun _ _ => rfl, fun _ _ => rfl, rfl, fun _ _ _ _ => rfl, fun _ _ _ => rfl⟩
  case idx => obtain ⟨_, _, _, rfl, _⟩ := h; exact ⟨fun _ => rfl, fun _ _ => rfl, fun _ _ => rfl, rfl, fun _ _ _ _ => rfl, fun _ _ _ => rfl⟩
  case slice => obtain ⟨_, _, _, _, _, rfl, _⟩ := h; exact ⟨fun _ => rfl, fun _ _ => rfl, fun _ _ => rfl, rfl, fun _ _ _ _ => rfl, fun _ _ _ => rfl⟩
  case nil => exact h.elim
  case list => obtain ⟨_, _, rfl, _⟩ := h; exact ⟨fun _ => rfl, fun _ _ => rfl, fun _ _ => rfl, rfl, fun _ _ _ _ => rfl, fun _ _ _ => rfl⟩
  case tup => obtain ⟨_, _, _, rfl, _⟩ := h; exact ⟨fun _ => rfl, fun _ _ => rfl, fun _ _ => rfl, rfl, fun _ _ _ _ => rfl, fun _ _ _ => rfl⟩
  case dict0 => obtain ⟨_, rfl⟩ := h; exact ⟨fun _ => rfl, fun _ _ => rfl, fun _ _ => rfl, rfl, fun _ _ _ _ => rfl, fun _ _ _ => rfl⟩
  case comp => obtain ⟨_, _, _, _, _, _, _, rfl, _⟩ := h; exact ⟨fun _ => rfl, fun _ _ => rfl, fun _ _ => rfl, rfl, (fun h => nomatch h), fun _ _ _ => rfl⟩
  case compIf => obtain ⟨_, _, _, _, _, _, _, _, rfl, _⟩ := h; exact ⟨fun _ => rfl, fun _ _ => rfl, fun _ _ => rfl, rfl, (fun h => nomatch h), fun _ _ _ => rfl⟩

theorem Sm.go {α β γ δ : Type} {P : PT β} {P2 : β → PT δ} {m : M α} {k : α → M γ} {rel : Heap → List Addr → α → β → Prop} {rel2 : Heap → List Addr → γ → δ → Prop}
    (c : Cn X A d hn s μ σ) (F : FR X env cx ρ s.heap μ)
    (h1 : Sm X P (m σ) rel s μ) (h2 : ∀ a σ₁ b s₁ μ₁, Cn X A d hn s₁ μ₁ σ₁ → FR X env cx ρ s₁.heap μ₁ → Step X s μ s₁ μ₁ σ₁ → rel s₁.heap μ₁ a b → Sm X (P2 b) (k a σ₁) rel2 s₁ μ₁) :
    Sm X (fun Q E s => P (fun b s₁ => P2 b Q E s₁) E s) (m.bnd k σ) rel2 s μ :=
  h1.bind fun a σ₁ b s₁ μ₁ _ S r => h2 a σ₁ b s₁ μ₁ (c.step S) (F.step c.hr S) S r

theorem sm_truthy (c : Cn X A d hn s μ σ) {v : V} {u : Value} (r : VR X s.heap μ v u) : Sm X (Wp X A (truthy u)) (asB v σ) RlB s μ := by
  cases r <;> first | exact Sm.stuck | skip
  exact Sm.ok fun Q E hQ => wpAny_truthy_bool (hQ _ _ _ (Step.refl c.hr c.base) rfl)
/-- a value that is there at once -/
theorem Cn.ret (c : Cn X A d hn s μ σ) {v : V} {u : Value} (r : VR X s.heap μ v u) {P : PT Value} (h : ∀ Q E, Q u s → P Q E s) : Sm X P (.ok v σ) (Rl X) s μ := Sm.ok fun Q E hQ => h Q E (hQ _ _ _ (Step.refl c.hr c.base) r)

/-- what the trees of a frame do -/
noncomputable def SimE (X : W) (C : Calls) (G : GT) (d : Nat) (hn : Bool) (t : E) : Prop :=
  ∀ (cx : Cx) (e : Expr), T G t cx e → ∀ (A : Around) (env : PySem.Env) (ρ : Env) (s : Shared) (μ : List Addr) (σ : H), Cn X A d hn s μ σ → FR X env cx ρ s.heap μ →
    Sm X (Wp X A (eval e env)) (evE X.ns C ρ t σ) (Rl X) s μ
noncomputable def SimT (X : W) (C : Calls) (G : GT) (d : Nat) (hn : Bool) (t : E) : Prop :=
  ∀ (cx : Cx) (e : Expr), T G t cx e → ∀ (A : Around) (env : PySem.Env) (ρ : Env) (s : Shared) (μ : List Addr) (σ : H), Cn X A d hn s μ σ → FR X env cx ρ s.heap μ →
    Sm X (Wp X A (isTrue e env (eval e env))) ((evE X.ns C ρ t).bnd asB σ) RlB s μ
/-- both -/
structure Sim (X : W) (C : Calls) (G : GT) (d : Nat) (hn : Bool) (t : E) : Prop where
  ev : SimE X C G d hn t
  tr : SimT X C G d hn t
noncomputable def Sims (X : W) (C : Calls) (G : GT) (d : Nat) (hn : Bool) : List E → Prop
  | [] => True
  | t :: ts => Sim X C G d hn t ∧ Sims X C G d hn ts

variable {C : Calls} {G : GT}

theorem Sim.plain {t : E} (h : SimE X C G d hn t) (ht : isTest t = false) : Sim X C G d hn t :=
  ⟨h, fun cx e he A env ρ s μ σ c F => (Sm.go c F (h cx e he A env ρ s μ σ c F) fun _ _ _ _ _ c1 _ _ r => sm_truthy c1 r).imp fun Q E hq => isTrue_plain hq (he.facts.test ht _ _)⟩

theorem sim_lit (v : V) : SimE X C G d hn (.lit v) := by
  intro cx e hT A env ρ s μ σ c F
  obtain ⟨k, i, p, he, hk⟩ := hT
  subst he
  show Sm X _ (.ok v σ) _ _ _
  cases k <;> first | (cases hk; done) | skip
  · cases hk; exact Sm.ok fun Q E hQ => Constant_none (hQ _ _ _ (Step.refl c.hr c.base) .none)
  · cases hk; exact Sm.ok fun Q E hQ => Constant_bool (hQ _ _ _ (Step.refl c.hr c.base) (.bool _))
  · cases hk; exact Sm.ok fun Q E hQ => wpAny_Constant_int (hQ _ _ _ ((Step.refl c.hr c.base).toks _) (.int _ _))
  · unfold litOf at hk
    dsimp only at hk
    split at hk
    · rename_i hl
      cases hk
      refine Sm.ok fun Q E hQ => PySem.Calls.Constant_str (hQ _ _ _ ((Step.refl c.hr c.base).toks _) (.str _ _ ?_))
      rw [← codes_length]; exact Nat.le_trans hl (by decide)
    · cases hk

theorem Base.ns {h : Heap} (B : Base X h) {a : Addr} {m : Str → Option Value} (n : X.h₀.Ns a m) : h.Ns a m := by
  obtain ⟨o, es, ep, e, r⟩ := n
  exact ⟨o, es, ep, B.keep _ _ e, r⟩
theorem FR.kindOf (F : FR X env cx ρ s.heap μ) {x : Str} : env.kindOf x = cx.kinds.lookup x := by
  show env.scope.names.lookup x = _
  rw [F.names]
theorem glob_eq {x : Str} (h : cx.glob x = true) : cx.kinds.lookup x = some .globalImplicit ∧ (x == ("__debug__" : Str)) = false := by
  obtain ⟨h1, h2⟩ := Bool.and_eq_true_iff.mp h
  exact ⟨of_decide_eq_true h1, by simpa using of_decide_eq_true h2⟩
theorem sim_global (c : Cn X A d hn s μ σ) (F : FR X env cx ρ s.heap μ) {mg : Str → Option Value} (n : X.h₀.Ns mainGlobals mg) {x : Str} {p : Pos} {u : Value} (hx : cx.glob x = true) (hu : mg x = some u) {Q : Value → Shared → Prop} {E : Value → Shared → Prop}
    (h : Q u s) : wpAny (Mo X) A (eval (.Name x p) env) Q E s := by
  obtain ⟨h1, h2⟩ := glob_eq hx
  exact Name_function_global F.kind (by rw [F.kindOf]; exact h1) (loadGlobal_global (mg := mg) (by rw [F.globals]; exact c.base.ns n) hu h) h2
theorem sim_builtin (c : Cn X A d hn s μ σ) (F : FR X env cx ρ s.heap μ) {mg mb : Str → Option Value} (n : X.h₀.Ns mainGlobals mg) (nb : X.h₀.Ns builtinsNs mb) {x : Str} {p : Pos} {u : Value} (hx : cx.glob x = true) (hg : mg x = none) (hu : mb x = some u) {Q : Value → Shared → Prop} {E : Value → Shared → Prop}
    (h : Q u s) : wpAny (Mo X) A (eval (.Name x p) env) Q E s := by
  obtain ⟨h1, h2⟩ := glob_eq hx
  exact Name_function_global F.kind (by rw [F.kindOf]; exact h1) (loadGlobal_builtin (mg := mg) (mb := mb) (by rw [F.globals]; exact c.base.ns n) hg (by rw [F.builtins]; exact c.base.ns nb) hu h) h2

theorem slot_lk {x : Str} {k : Nat} (h : cx.slot x = some k) : cx.slots.lookup x = some k ∧ (cx.kinds.lookup x = some .local ∨ cx.kinds.lookup x = some .cell) := by
  unfold Cx.slot at h
  split at h
  · exact ⟨h, .inl ‹_›⟩
  · exact ⟨h, .inr ‹_›⟩
  · cases h
theorem sim_var (k : Nat) : SimE X C G d hn (.var k) := by
  intro cx e hT A env ρ s μ σ c F
  obtain ⟨x, p, he, hk, hdb⟩ := hT
  subst he
  show Sm X _ ((match ρ[k]? with | some (some v) => M.ret v | _ => stuck : M V) σ) _ _ _
  rcases hv : ρ[k]? with _ | _ | v
  · exact Sm.stuck
  · exact Sm.stuck
  · refine Sm.ok fun Q E hQ => wpAny_Name ?_ hdb
    obtain ⟨h, hkd | hkd⟩ := slot_lk hk
    · obtain ⟨m, n, hm⟩ := F.ns
      obtain ⟨u, e, r⟩ := hm x k v hkd h hv
      exact wpAny_loadName_local F.kind (by rw [F.kindOf]; exact hkd) n e (hQ _ _ _ (Step.refl c.hr c.base) r)
    · obtain ⟨a, u, h1, h2, h3⟩ := F.cell x k hkd h
      obtain ⟨y, rfl, r⟩ := h3 v hv
      exact wpAny_loadName_cell F.kind (by rw [F.kindOf]; exact hkd) h1 h2 (hQ _ _ _ (Step.refl c.hr c.base) r)

theorem sim_bin {op : Bin} {a b : E} (ha : SimE X C G d hn a) (hb : SimE X C G d hn b) : SimE X C G d hn (.bin op a b) := by
  intro cx e hT A env ρ s μ σ c F
  obtain ⟨l, r, p, he, h1, h2⟩ := hT
  subst he
  exact (Sm.go (k := fun x => (evE X.ns C ρ b).bnd fun y => binV op x y) c F (ha cx l h1 A env ρ s μ σ c F) fun _ _ _ _ _ c1 F1 S1 r1 => Sm.go c1 F1 (hb cx r h2 A env ρ _ _ _ c1 F1) fun _ _ _ _ _ c2 F2 S2 r2 => sm_bin c2 op (S2.vr c1.hr r1) r2).imp fun Q E h => wpAny_BinOp h

theorem sm_not (c : Cn X A d hn s μ σ) {v : V} {u : Value} (r : VR X s.heap μ v u) : Sm X (Wp X A (unaryOp .Not u)) (notV v σ) (Rl X) s μ := by
  cases r <;> first | exact Sm.stuck | skip
  exact Sm.ok fun Q E hQ => not_of (wpAny_truthy_bool (hQ _ _ _ (Step.refl c.hr c.base) (.bool _)))
theorem sm_neg (c : Cn X A d hn s μ σ) {v : V} {u : Value} (r : VR X s.heap μ v u) : Sm X (Wp X A (unaryOp .USub u)) (negV v σ) (Rl X) s μ := by
  cases r <;> first | exact Sm.stuck | skip
  exact Sm.ok fun Q E hQ => PyProof.Rows.neg_int (hQ _ _ _ ((Step.refl c.hr c.base).toks _) (.int _ _))
theorem sim_neg {a : E} (ha : SimE X C G d hn a) : SimE X C G d hn (.neg a) := by
  intro cx e hT A env ρ s μ σ c F
  obtain ⟨x, p, he, h1⟩ := hT
  subst he
  exact (Sm.go (k := negV) c F (ha cx x h1 A env ρ s μ σ c F) fun _ _ _ _ _ c1 _ _ r => sm_neg c1 r).imp fun Q E h => UnaryOp_ h

theorem bnd_assoc {α β γ : Type} (m : M α) (f : α → M β) (g : β → M γ) : (m.bnd f).bnd g = m.bnd fun a => (f a).bnd g := by
  funext σ
  unfold M.bnd
  cases m σ <;> rfl
theorem asB_not (v : V) : (notV v).bnd asB = (asB v).bnd fun b => M.ret (!b) := by cases v <;> rfl
theorem sim_not {a : E} (h : Sim X C G d hn a) : Sim X C G d hn (.not a) where
  ev := by
    intro cx e hT A env ρ s μ σ c F
    obtain ⟨x, p, he, h1⟩ := hT
    subst he
    exact (Sm.go (k := notV) c F (h.ev cx x h1 A env ρ s μ σ c F) fun _ _ _ _ _ c1 _ _ r => sm_not c1 r).imp fun Q E h => UnaryOp_ h
  tr := by
    intro cx e hT A env ρ s μ σ c F
    obtain ⟨x, p, he, h1⟩ := hT
    subst he
    have e : (evE X.ns C ρ (.not a)).bnd asB = ((evE X.ns C ρ a).bnd asB).bnd fun b => .ret (!b) := by
      show ((evE X.ns C ρ a).bnd notV).bnd asB = _
      rw [bnd_assoc, bnd_assoc]
      exact congrArg _ (funext asB_not)
    rw [e]
    exact (Sm.go c F (h.tr cx x h1 A env ρ s μ σ c F) (P2 := fun b Q E s => Q (!b) s) fun b σ₁ b' s₁ μ₁ c1 _ _ r => by
      cases r
      exact Sm.ok fun Q E hQ => hQ _ _ _ (Step.refl c1.hr c1.base) rfl).imp fun Q E h => isTrue_not h

/-! and, or -/
noncomputable def opE (op : BoolOp) (ts : List E) : E := match op with | .And => .and ts | .Or => .or ts
/-- what the first of several says -/
noncomputable def more (op : BoolOp) (rest : M V) (last : Bool) (v : V) : M V := match v with
  | .bool b => if last then .ret (.bool b) else (if b == (match op with | .And => true | .Or => false) then rest else .ret (.bool b))
  | _ => stuck
theorem evE_one (op : BoolOp) (ρ : Env) (a : E) : evE X.ns C ρ (opE op [a]) = (evE X.ns C ρ a).bnd (more op stuck true) := by
  cases op <;> (show M.bnd _ _ = _; exact congrArg _ (funext fun v => by cases v <;> rfl))
theorem evE_more (op : BoolOp) (ρ : Env) (a b : E) (r : List E) : evE X.ns C ρ (opE op (a :: b :: r)) = (evE X.ns C ρ a).bnd (more op (evE X.ns C ρ (opE op (b :: r))) false) := by
  cases op <;> (show M.bnd _ _ = _; refine congrArg _ (funext fun v => ?_); rcases v with _ | b | _ | _ | _ | _ | _ | _ | _ <;> first | rfl | (cases b <;> rfl))
theorem more_asB (op : BoolOp) (rest : M V) (v : V) : (more op rest false v).bnd asB = (asB v).bnd fun b => if b == (match op with | .And => true | .Or => false) then rest.bnd asB else M.ret b := by
  rcases v with _ | b | _ | _ | _ | _ | _ | _ | _ <;> first | rfl | (cases b <;> cases op <;> rfl)

theorem sim_bools {p : Pos} (op : BoolOp) : ∀ {ts : List E} (_ : Sims X C G d hn ts) {cx : Cx} {es : List Expr} (_ : Ts G ts cx es) {A : Around} {env : PySem.Env} {ρ : Env} {s : Shared} {μ : List Addr} {σ : H} (_ : Cn X A d hn s μ σ) (_ : FR X env cx ρ s.heap μ),
    Sm X (Wp X A (eval (.BoolOp op es p) env)) (evE X.ns C ρ (opE op ts) σ) (Rl X) s μ
  | [], _, _, _, _, _, _, _, _, _, _, _, _ => by cases op <;> exact Sm.stuck
  | [a], hs, cx, _, ⟨e, _, rfl, h1, rfl⟩, A, env, ρ, s, μ, σ, c, F => by
    rw [evE_one]
    exact (Sm.go c F (hs.1.ev cx e h1 A env ρ s μ σ c F) (P2 := fun v Q E s => Q v s) fun v σ₁ u s₁ μ₁ c1 _ _ r => by
      cases r <;> first | exact Sm.stuck | exact c1.ret (.bool _) fun _ _ h => h).imp fun Q E h => BoolOp_one h
  | a :: a' :: ts, hs, cx, _, ⟨e, _, rfl, h1, e', es, rfl, h3⟩, A, env, ρ, s, μ, σ, c, F => by
    have h2 : Ts G (a' :: ts) cx (e' :: es) := ⟨e', es, rfl, h3⟩
    rw [evE_more]
    have ih := fun {s : Shared} {μ : List Addr} {σ : H} (c1 : Cn X A d hn s μ σ) (F1 : FR X env cx ρ s.heap μ) => sim_bools (p := p) op hs.2 h2 c1 F1
    cases op with
    | And =>
      refine (Sm.go c F (hs.1.ev cx e h1 A env ρ s μ σ c F) (P2 := fun v Q E s₁ => wpAny (Mo X) A (truthy v) (fun c s₂ => if c then wpAny (Mo X) A (eval (.BoolOp .And (e' :: es) p) env) Q E s₂ else Q v s₂) E s₁) fun v σ₁ u s₁ μ₁ c1 F1 S1 r => ?_).imp fun Q E h => BoolOp_and h
      cases r <;> first | exact Sm.stuck | skip
      rename_i b
      cases b with
      | true => exact (ih c1 F1).imp fun Q E h => wpAny_truthy_bool h
      | false => exact c1.ret (.bool _) fun Q E h => wpAny_truthy_bool h
    | Or =>
      refine (Sm.go c F (hs.1.ev cx e h1 A env ρ s μ σ c F) (P2 := fun v Q E s₁ => wpAny (Mo X) A (truthy v) (fun c s₂ => if c then Q v s₂ else wpAny (Mo X) A (eval (.BoolOp .Or (e' :: es) p) env) Q E s₂) E s₁) fun v σ₁ u s₁ μ₁ c1 F1 S1 r => ?_).imp fun Q E h => BoolOp_or h
      cases r <;> first | exact Sm.stuck | skip
      rename_i b
      cases b with
      | false => exact (ih c1 F1).imp fun Q E h => wpAny_truthy_bool h
      | true => exact c1.ret (.bool _) fun Q E h => wpAny_truthy_bool h
theorem simT_bools {p : Pos} (op : BoolOp) : ∀ {ts : List E} (_ : Sims X C G d hn ts) {cx : Cx} {es : List Expr} (_ : Ts G ts cx es) {A : Around} {env : PySem.Env} {ρ : Env} {s : Shared} {μ : List Addr} {σ : H} {whole : Sem Value} (_ : Cn X A d hn s μ σ) (_ : FR X env cx ρ s.heap μ),
    Sm X (Wp X A (isTrue (.BoolOp op es p) env whole)) ((evE X.ns C ρ (opE op ts)).bnd asB σ) RlB s μ
  | [], _, _, _, _, _, _, _, _, _, _, _, _, _ => by cases op <;> exact Sm.stuck
  | [a], hs, cx, _, ⟨e, _, rfl, h1, rfl⟩, A, env, ρ, s, μ, σ, whole, c, F => by
    have he : (evE X.ns C ρ (opE op [a])).bnd asB = ((evE X.ns C ρ a).bnd asB).bnd fun b => .ret b := by
      rw [evE_one, bnd_assoc, bnd_assoc]
      exact congrArg _ (funext fun v => by cases v <;> rfl)
    rw [he]
    refine (Sm.go c F (hs.1.tr cx e h1 A env ρ s μ σ c F) (P2 := fun b Q E s => Q b s) fun b σ₁ b' s₁ μ₁ c1 _ _ r => by
      cases r
      exact Sm.ok fun Q E hQ => hQ _ _ _ (Step.refl c1.hr c1.base) rfl).imp fun Q E h => ?_
    cases op with
    | And => refine isTrue_and (wpAny_mono h (fun b s' hb => ?_) fun _ _ x => x); cases b <;> first | exact hb | exact isTrue_and_nil hb
    | Or => refine isTrue_or (wpAny_mono h (fun b s' hb => ?_) fun _ _ x => x); cases b <;> first | exact hb | exact isTrue_or_nil hb
  | a :: a' :: ts, hs, cx, _, ⟨e, _, rfl, h1, e', es, rfl, h3⟩, A, env, ρ, s, μ, σ, whole, c, F => by
    have h2 : Ts G (a' :: ts) cx (e' :: es) := ⟨e', es, rfl, h3⟩
    have he : (evE X.ns C ρ (opE op (a :: a' :: ts))).bnd asB = ((evE X.ns C ρ a).bnd asB).bnd fun b => if b == (match op with | .And => true | .Or => false) then (evE X.ns C ρ (opE op (a' :: ts))).bnd asB else .ret b := by
      rw [evE_more, bnd_assoc, bnd_assoc]
      exact congrArg _ (funext fun v => more_asB op _ v)
    rw [he]
    have ih := fun {s : Shared} {μ : List Addr} {σ : H} (c1 : Cn X A d hn s μ σ) (F1 : FR X env cx ρ s.heap μ) => simT_bools (p := p) (whole := whole) op hs.2 h2 c1 F1
    cases op with
    | And =>
      refine (Sm.go c F (hs.1.tr cx e h1 A env ρ s μ σ c F) (P2 := fun b Q E s₂ => if b then wpAny (Mo X) A (isTrue (.BoolOp .And (e' :: es) p) env whole) Q E s₂ else Q false s₂) fun b σ₁ b' s₁ μ₁ c1 F1 S1 r => ?_).imp fun Q E h => isTrue_and h
      cases r
      cases b with
      | true => exact ih c1 F1
      | false => exact Sm.ok fun Q E hQ => hQ _ _ _ (Step.refl c1.hr c1.base) rfl
    | Or =>
      refine (Sm.go c F (hs.1.tr cx e h1 A env ρ s μ σ c F) (P2 := fun b Q E s₂ => if b then Q true s₂ else wpAny (Mo X) A (isTrue (.BoolOp .Or (e' :: es) p) env whole) Q E s₂) fun b σ₁ b' s₁ μ₁ c1 F1 S1 r => ?_).imp fun Q E h => isTrue_or h
      cases r
      cases b with
      | false => exact ih c1 F1
      | true => exact Sm.ok fun Q E hQ => hQ _ _ _ (Step.refl c1.hr c1.base) rfl
theorem sim_and {ts : List E} (hs : Sims X C G d hn ts) : Sim X C G d hn (.and ts) :=
  ⟨fun cx e ⟨_, _, he, h⟩ A env ρ s μ σ c F => by subst he; exact sim_bools .And hs h c F, fun cx e ⟨_, _, he, h⟩ A env ρ s μ σ c F => by subst he; exact simT_bools .And hs h c F⟩
theorem sim_or {ts : List E} (hs : Sims X C G d hn ts) : Sim X C G d hn (.or ts) :=
  ⟨fun cx e ⟨_, _, he, h⟩ A env ρ s μ σ c F => by subst he; exact sim_bools .Or hs h c F, fun cx e ⟨_, _, he, h⟩ A env ρ s μ σ c F => by subst he; exact simT_bools .Or hs h c F⟩

theorem sim_cmp {op : Cmp} {a b : E} (ha : SimE X C G d hn a) (hb : SimE X C G d hn b) : Sim X C G d hn (.cmp op a b) where
  ev := by
    intro cx e hT A env ρ s μ σ c F
    obtain ⟨l, r, p, he, h1, h2⟩ := hT
    subst he
    exact (Sm.go (k := fun x => (evE X.ns C ρ b).bnd fun y => cmpV op x y) c F (ha cx l h1 A env ρ s μ σ c F) fun _ _ _ _ _ c1 F1 S1 r1 => Sm.go c1 F1 (hb cx r h2 A env ρ _ _ _ c1 F1) fun _ _ _ _ _ c2 F2 S2 r2 => sm_cmp c2 op (S2.vr c1.hr r1) r2).imp fun Q E h => wpAny_Compare1 h (h2.facts.marks _)
  tr := by
    intro cx e hT A env ρ s μ σ c F
    obtain ⟨l, r, p, he, h1, h2⟩ := hT
    subst he
    show Sm X _ (((evE X.ns C ρ a).bnd fun x => (evE X.ns C ρ b).bnd fun y => cmpV op x y).bnd asB σ) _ _ _
    simp only [bnd_assoc]
    exact (Sm.go c F (ha cx l h1 A env ρ s μ σ c F) fun _ _ _ _ _ c1 F1 S1 r1 => Sm.go c1 F1 (hb cx r h2 A env ρ _ _ _ c1 F1) fun _ _ _ _ _ c2 F2 S2 r2 =>
      Sm.go c2 F2 (sm_cmp c2 op (S2.vr c1.hr r1) r2) fun _ _ _ _ _ c3 _ _ r3 => sm_truthy c3 r3).imp fun Q E h => wpAny_isTrue_Compare1 h (h2.facts.marks _)

/-- the arguments -/
theorem sim_args {p : Pos} : ∀ {ts : List E} (_ : Sims X C G d hn ts) {cx : Cx} {es : List Expr} (_ : Ts G ts cx es) {A : Around} {env : PySem.Env} {ρ : Env} {s : Shared} {μ : List Addr} {σ : H} (_ : Cn X A d hn s μ σ) (_ : FR X env cx ρ s.heap μ),
    Sm X (Wp X A (spliced (backTo p (starEach es env)))) (evEs X.ns C ρ ts σ) (Rls X) s μ
  | [], _, cx, _, rfl, A, env, ρ, s, μ, σ, c, F => Sm.ok fun Q E hQ => args_nil (hQ _ _ _ (Step.refl c.hr c.base) .nil)
  | a :: ts, hs, cx, _, ⟨e, es, rfl, h1, h2⟩, A, env, ρ, s, μ, σ, c, F =>
    (Sm.go (k := fun x => (evEs X.ns C ρ ts).bnd fun xs => .ret (x :: xs)) c F (hs.1.ev cx e h1 A env ρ s μ σ c F) fun x _ u _ _ c1 F1 S1 r1 => Sm.go c1 F1 (sim_args hs.2 h2 c1 F1) (P2 := fun vs Q E s => Q (u :: vs) s) fun xs _ us _ _ c2 F2 S2 r2 =>
      Sm.ok fun Q E hQ => hQ _ _ _ (Step.refl c2.hr c2.base) (.cons (S2.vr c1.hr r1) r2)).imp fun Q E h => args_cons h (h1.facts.star _ _)

theorem sim_list {ts : List E} (hs : Sims X C G d hn ts) : SimE X C G d hn (.list ts) := by
  intro cx e hT A env ρ s μ σ c F
  obtain ⟨es, p, he, h1⟩ := hT
  subst he
  exact (Sm.go (k := newL) c F (sim_args hs h1 c F) fun _ _ _ _ _ c1 _ _ r => sm_newL c1 r).imp fun Q E h => List_ h
theorem sm_mkT (c : Cn X A d hn s μ σ) {xs : List V} {l : List Value} (r : VRs X s.heap μ xs l) : Sm X (Wp X A (newTuple l)) (mkT xs σ) (Rl X) s μ := by
  unfold mkT
  split
  · rename_i hz
    refine Sm.ok fun Q E hQ => wpAny_newObj_type ?_ (by show l.toArray.size ≤ sizeLine; rw [List.size_toArray, ← r.length]; exact hz)
    have S1 : Step X s μ { s with heap := s.heap.push { cls := .type "tuple", data := .seq l.toArray } } μ σ := Step.push c _ s.toks
    exact hQ _ _ _ S1 (.tup (Heap.get?_push_size _ rfl) (c.good (Nat.le_refl _)) (by rw [← r.length]; exact hz) (S1.vrs c.hr r))
  · exact Sm.stuck
theorem sim_tup {ts : List E} (hs : Sims X C G d hn ts) : SimE X C G d hn (.tup ts) := by
  intro cx e hT A env ρ s μ σ c F
  obtain ⟨es, k, p, he, h1⟩ := hT
  subst he
  exact (Sm.go (k := mkT) c F (sim_args hs h1 c F) fun _ _ _ _ _ c1 _ _ r => sm_mkT c1 r).imp fun Q E h => Tuple_ h
theorem Cn.newRef (c : Cn X A d hn s μ σ) (a : Addr) : (μ ++ [a])[σ.length]? = some a := by
  rw [← c.hr.len, List.getElem?_append_right (Nat.le_refl _)]; simp
theorem dict_new {h : Heap} : OR X (h.push { cls := .type "dict", data := .dict #[] }) μ h.objs.size (.dict []) :=
  .dict (l := []) ⟨_, _, _, Heap.get?_push_size _ rfl, ⟨rfl, rfl, rfl⟩, rfl, fun e he => by simp at he, .nil, .nil⟩ (Nat.zero_le _) ⟨rfl, (fun _ h => nomatch h), .nil⟩
theorem sim_dict0 : SimE X C G d hn .dict0 := by
  intro cx e hT A env ρ s μ σ c F
  obtain ⟨p, he⟩ := hT
  subst he
  exact Sm.ok (a := V.ref σ.length) (σ := σ ++ [O.dict []]) fun Q E hQ => wpAny_Dict_empty (hQ _ _ (μ ++ [s.heap.objs.size]) (Step.alloc c s.toks dict_new) (.ref (c.newRef _)))
theorem sim_idx {a i : E} (ha : SimE X C G d hn a) (hi : SimE X C G d hn i) : SimE X C G d hn (.idx a i) := by
  intro cx e hT A env ρ s μ σ c F
  obtain ⟨v, j, p, he, h1, h2⟩ := hT
  subst he
  refine (Sm.go (k := fun x => (evE X.ns C ρ i).bnd fun y => idxV X.ns x y) c F (ha cx v h1 A env ρ s μ σ c F) fun _ _ u _ _ c1 F1 S1 r1 => Sm.go c1 F1 (hi cx j h2 A env ρ _ _ _ c1 F1) fun _ _ w _ _ c2 F2 S2 r2 => sm_idx c2 (value := v) (slice := j) (S2.vr c1.hr r1) r2 ?_).imp fun Q E h => Subscript_ h
  have := h2.facts.slice
  cases j <;> first | rfl | cases this
theorem sim_opt {a : E} (ha : SimE X C G d hn a) {cx : Cx} {o : Option Expr} (ho : (o = none ∧ isNil a = true) ∨ ∃ x, o = some x ∧ T G a cx x) {A : Around} {env : PySem.Env} {ρ : Env} {s : Shared} {μ : List Addr} {σ : H} (c : Cn X A d hn s μ σ) (F : FR X env cx ρ s.heap μ) :
    Sm X (Wp X A (valueOrNone (evalOpt o env))) (evE X.ns C ρ a σ) (Rl X) s μ := by
  rcases ho with ⟨rfl, h⟩ | ⟨x, rfl, h⟩
  · cases a <;> first | (cases h; done) | exact Sm.ok fun Q E hQ => wpAny_pure (hQ _ _ _ (Step.refl c.hr c.base) .none)
  · exact ha cx x h A env ρ s μ σ c F
theorem sim_slice {a lo hi : E} (ha : SimE X C G d hn a) (hlo : SimE X C G d hn lo) (hhi : SimE X C G d hn hi) : SimE X C G d hn (.slice a lo hi) := by
  intro cx e hT A env ρ s μ σ c F
  obtain ⟨v, l, h, q, p, he, h1, h2, h3⟩ := hT
  subst he
  refine (Sm.go (k := fun x => (evE X.ns C ρ lo).bnd fun y => (evE X.ns C ρ hi).bnd fun z => sliceV X.ns x y z) c F (ha cx v h1 A env ρ s μ σ c F) fun _ _ u _ _ c1 F1 S1 r1 => Sm.go c1 F1 (sim_opt hlo h2 c1 F1) fun _ _ vl _ _ c2 F2 S2 r2 => Sm.go c2 F2 (sim_opt hhi h3 c2 F2) fun _ _ vh _ _ c3 F3 S3 r3 =>
    sm_slice c3 (value := v) (lower := l) (upper := h) (p := q) (S3.vr c2.hr (S2.vr c1.hr r1)) (S3.vr c2.hr r2) r3).imp fun Q E h => Subscript_ (wpAny_mono h (fun u s₁ h₁ => ?_) fun _ _ x => x)
  show wpAny _ _ (do
    let l ← valueOrNone (evalOpt l env)
    let u ← holding [l] (valueOrNone (evalOpt ‹Option Expr› env))
    let s ← holding [l, u] (valueOrNone (evalOpt none env))
    newFields "slice" [l, u, s]) _ _ _
  exact wpAny_bind (wpAny_mono h₁ (fun l s₂ h₂ => wpAny_bind (wpAny_holding (wpAny_mono h₂ (fun u s₃ h₃ => wpAny_bind (wpAny_holding (wpAny_pure h₃))) fun _ _ x => x))) fun _ _ x => x)
end
end Mine

set_option maxRecDepth 100000
set_option linter.all false
set_option genSizeOf false
set_option genSizeOfSpec false
set_option genInjectivity false
namespace Mine
open PySem PyProof.Rows PySem.Calls

noncomputable def biVal : Bi → Value
  | .len => .builtin "len" | .list => .type "list" | .sorted => .builtin "sorted" | .dict => .type "dict" | .str => .type "str" | .int => .type "int"
noncomputable def tyVal (X : W) : Ty → Value
  | .int => .type "int" | .bool => .type "bool" | .str => .type "str" | .list => .type "list" | .tuple => .type "tuple" | .cls c => .ref (X.ca c) | .valueError => .type "ValueError"
/-- what the machine brings -/
noncomputable def biTab : List (Str × Value) := [("len", .builtin "len"), ("list", .type "list"), ("sorted", .builtin "sorted"), ("dict", .type "dict"), ("str", .type "str"), ("int", .type "int"), ("range", .type "range"), ("enumerate", .type "enumerate"), ("zip", .type "zip"),
  ("reversed", .type "reversed"), ("any", .builtin "any"), ("all", .builtin "all"), ("min", .builtin "min"), ("max", .builtin "max"), ("isinstance", .builtin "isinstance"), ("bool", .type "bool"), ("tuple", .type "tuple"), ("ValueError", .type "ValueError")]

/-- the module's names -/
structure Nm (X : W) (G : GT) : Prop where
  kin : X.K.In X.h₀
  ns : ∃ mg mb, X.h₀.Ns mainGlobals mg ∧ X.h₀.Ns builtinsNs mb ∧ (∀ x i, G.cls[i]? = some x → mg x = some (.ref (X.ca i))) ∧
    (∀ x i, G.fns[i]? = some x → mg x = some (.ref (X.fa i)) ∧ PySem.W.keepIn X.K (.ref (X.fa i)) = true) ∧
    (∀ x v, (x, v) ∈ biTab → mg x = none ∧ mb x = some v) ∧
    (∀ x v, (x, v) ∈ G.con → ∃ u, mg x = some u ∧ ∀ h μ, VR X h μ v u) ∧
    (∀ x i, G.own[i]? = some x → mg x = some (.ref (X.co i)) ∧ PySem.W.keepIn X.K (.ref (X.co i)) = true)

/-- what the leaves do -/
structure Leaf (X : W) (G : GT) (C : Calls) (d : Nat) (hn : Bool) : Prop where
  eqn : C.hn = hn
  nm : Nm X G
  call : ∀ (f : Nat) (vs : List V) (us : List Value) (A : Around) (s : Shared) (μ : List Addr) (σ : H), Cn X A d hn s μ σ → VRs X s.heap μ vs us → Sm X (Wp X A (PySem.call (.ref (X.fa f)) us)) (C.call f vs σ) (Rl X) s μ
  bi : hn = true → ∀ (b : Bi) (v : V) (u : Value) (A : Around) (s : Shared) (μ : List Addr) (σ : H), Cn X A d hn s μ σ → VR X s.heap μ v u → Sm X (Wp X A (PySem.call (biVal b) [u])) (biV X.ns b v σ) (Rl X) s μ
  rev : hn = true → ∀ (v : V) (u : Value) (A : Around) (s : Shared) (μ : List Addr) (σ : H), Cn X A d hn s μ σ → VR X s.heap μ v u → Sm X (fun Q E s => wpAny (Mo X) A (PySem.call (.type "reversed") [u]) (fun w s' => wpAny (Mo X) A (PySem.call (.type "list") [w]) Q E s') E s) (revV v σ) (Rl X) s μ
  me : ∀ (m : Me) (x : V) (u : Value) (ts : List E) (es : List Expr) (p : Pos) (cx : Cx) (A : Around) (env : PySem.Env) (ρ : Env) (s : Shared) (μ : List Addr) (σ : H), Cn X A d hn s μ σ → FR X env cx ρ s.heap μ → VR X s.heap μ x u →
    Ts G ts cx es → (∀ (s : Shared) (μ : List Addr) (σ : H), Cn X A d hn s μ σ → FR X env cx ρ s.heap μ → Sm X (Wp X A (spliced (backTo p (starEach es env)))) (evEs X.ns C ρ ts σ) (Rls X) s μ) →
    Sm X (fun Q E s => MethodOnS X.prog X.w A E (meName m) u p (backTo p (starEach es env)) Q s) ((meK m x).bnd (fun _ => (evEs X.ns C ρ ts).bnd fun vs => meV x m vs) σ) (Rl X) s μ
  isi : ∀ (t : Ty) (v : V) (u : Value) (A : Around) (s : Shared) (μ : List Addr) (σ : H), (∀ c, t = .cls c → c < G.cls.length) → Cn X A d hn s μ σ → VR X s.heap μ v u → Sm X (Wp X A (PySem.call (.builtin "isinstance") [u, tyVal X t])) (isiV C.sub t v σ) (Rl X) s μ

section
variable {X : W} {A : Around} {d : Nat} {hn : Bool} {s : Shared} {μ : List Addr} {σ : H} {env : PySem.Env} {cx : Cx} {ρ : Env} {C : Calls} {G : GT}

theorem tr_plain {p : Pos} {env : PySem.Env} : ∀ {ts : List E} {es : List Expr}, Ts G ts cx es → (backTo p (starEach es env)).any (·.1) = false
  | [], _, rfl => rfl
  | t :: ts, _, ⟨e, es, rfl, h1, h2⟩ => by
    rw [h1.facts.star]
    show (false || (backTo p (starEach es env)).any (·.1)) = false
    rw [tr_plain h2]; rfl
theorem args_of {f : Value} {p : Pos} {ts : List E} {es : List Expr} (ht : Ts G ts cx es) {Q : Args → Shared → Prop} {E : Value → Shared → Prop}
    (h : wpAny (Mo X) A (spliced (backTo p (starEach es env))) (fun vs s' => Q ⟨vs, []⟩ s') E s) : wpAny (Mo X) A (evalArgs f true (backTo p (starEach es env)) []) Q E s := by
  match ts, ht with
  | [], ht =>
    have ht : es = [] := ht
    subst ht
    unfold evalArgs
    show wpAny (Mo X) A (spliced [] >>= _) Q E s
    refine wpAny_bind (wpAny_mono h (fun vs s' h' => ?_) fun _ _ x => x)
    first
      | exact wpAny_holding (wpAny_bind (wpAny_pure (wpAny_bind (wpAny_pure (wpAny_pure h')))))
      | exact wpAny_bind (wpAny_pure (wpAny_holding (wpAny_bind (wpAny_pure (wpAny_bind (wpAny_pure (wpAny_pure h')))))))
  | t :: ts, ⟨e, es', he, h1, h2⟩ =>
    subst he
    rw [h1.facts.star] at h ⊢
    exact evalArgs_plain h

/-- a call by what is no def of the text -/
theorem callWith_free {f : Value} {first : List Value} {p : Pos} {ts : List E} {es : List Expr} (ht : Ts G ts cx es) (hf : keeperOf f = pure .machine) {Q : Value → Shared → Prop} {E : Value → Shared → Prop}
    (h : wpAny (Mo X) A (spliced (backTo p (starEach es env))) (fun vs s' => wpAny (Mo X) A (PySem.call f (first ++ vs)) Q E s') E s) : wpAny (Mo X) A (callWith p f first (backTo p (starEach es env)) []) Q E s :=
  PySem.W.callWith_of (P := fun _ => True) (by rw [tr_plain ht]; rfl) (fun _ _ => ⟨_, .inr (.inl rfl), PySem.W.Looks.of_pure hf⟩) (args_of ht (wpAny_mono h (fun _ _ x => ⟨trivial, x⟩) fun _ _ x => x))
theorem callWith_own {f : Value} {first : List Value} {p : Pos} {ts : List E} {es : List Expr} (ht : Ts G ts cx es) (hf : PySem.W.keepIn X.K f = true) {Q : Value → Shared → Prop} {E : Value → Shared → Prop}
    (h : wpAny (Mo X) A (spliced (backTo p (starEach es env))) (fun vs s' => X.K.In s'.heap ∧ wpAny (Mo X) A (PySem.call f (first ++ vs)) Q E s') E s) : wpAny (Mo X) A (callWith p f first (backTo p (starEach es env)) []) Q E s :=
  PySem.W.callWith_of (P := fun h => X.K.In h) (by rw [tr_plain ht]; rfl) (PySem.W.keeps_K hf) (args_of ht h)
theorem Cn.kin (c : Cn X A d hn s μ σ) (g : Nm X G) : X.K.In s.heap := g.kin.keeps c.base.keep

theorem isName_no {f : Expr} (h : isName f = false) : ∀ x p, f ≠ .Name x p := fun x p e => by subst e; cases h
theorem base_eq {o : Expr} (h : plainBase o = true) (m : Str) (env : PySem.Env) (whole : Sem Value) : attributeBase o m env whole = whole := by
  unfold attributeBase
  split
  · simp [plainBase, isName] at h
  · rfl

theorem sim_me (L : Leaf X G C d hn) {a : E} {m : Me} {ts : List E} (ha : SimE X C G d hn a) (hs : Sims X C G d hn ts) : SimE X C G d hn (.me a m ts) := by
  intro cx e hT A env ρ s μ σ c F
  obtain ⟨o, ap, es, p, he, hb, hl, hlen, h1, h2⟩ := hT
  subst he
  refine (Sm.go (k := fun x => (meK m x).bnd fun _ => (evEs X.ns C ρ ts).bnd fun vs => meV x m vs) c F (ha cx o h1 A env ρ s μ σ c F) fun x σ₁ u s₁ μ₁ c1 F1 _ r => L.me m x u ts es p cx A env ρ s₁ μ₁ σ₁ c1 F1 r h2 fun s μ σ c F => sim_args hs h2 c F).imp fun Q E h => wpAny_Call_method_lateS (base_eq hb _ _ _) ?_ (by rw [hl]; simp) h
  have hall : (backTo p (starEach es env)).all (fun x => !x.1) = true := by
    have := tr_plain (p := p) (env := env) h2
    rw [List.all_eq_true]
    intro x hx
    rw [List.any_eq_false] at this
    simpa using this x hx
  rw [hall]
  show (true && (true && decide (es.length + 0 + 0 < 30))) = true
  exact decide_eq_true (Nat.lt_succ_of_lt hlen)

/-- a call of what the machine brings -/
theorem call_bi (L : Leaf X G C d hn) (c : Cn X A d hn s μ σ) (F : FR X env cx ρ s.heap μ) {f : Str} {fv : Value} {q p : Pos} {ts : List E} {es : List Expr} (hg : cx.glob f = true) (hm : (f, fv) ∈ biTab) (hk : keeperOf fv = pure .machine) (ht : Ts G ts cx es) {Q : Value → Shared → Prop} {E : Value → Shared → Prop}
    (h : wpAny (Mo X) A (spliced (backTo p (starEach es env))) (fun vs s' => wpAny (Mo X) A (PySem.call fv vs) Q E s') E s) :
    wpAny (Mo X) A (eval (.Call (.Name f q) es [] p) env) Q E s := by
  obtain ⟨mg, mb, n1, n2, _, _, hbi, _, _⟩ := L.nm.ns
  obtain ⟨e1, e2⟩ := hbi f fv hm
  exact Call_ (sim_builtin c F n1 n2 hg e1 e2 (callWith_free ht hk h))
/-- with one argument -/
theorem call_bi1 (L : Leaf X G C d hn) (c : Cn X A d hn s μ σ) (F : FR X env cx ρ s.heap μ) {f : Str} {fv : Value} {q p : Pos} {t : E} {e : Expr} (hg : cx.glob f = true) (hm : (f, fv) ∈ biTab) (hk : keeperOf fv = pure .machine) (ht : T G t cx e) {Q : Value → Shared → Prop} {E : Value → Shared → Prop}
    (h : wpAny (Mo X) A (eval e env) (fun u s' => wpAny (Mo X) A (PySem.call fv [u]) Q E s') E s) :
    wpAny (Mo X) A (eval (.Call (.Name f q) [e] [] p) env) Q E s :=
  call_bi L c F (ts := [t]) hg hm hk ⟨e, [], rfl, ht, rfl⟩ (args_cons (wpAny_mono h (fun u s' h' => args_nil h') fun _ _ x => x) (ht.facts.star _ _))
theorem sim_bi (L : Leaf X G C d hn) {b : Bi} {a : E} (ha : SimE X C G d hn a) : SimE X C G d hn (.bi b a) := by
  intro cx e hT A env ρ s μ σ c F
  obtain ⟨q, x, p, he, hg, h1⟩ := hT
  subst he
  refine (Sm.go (k := fun v => if C.hn then biV X.ns b v else stuck) c F (ha cx x h1 A env ρ s μ σ c F) fun v σ₁ u s₁ μ₁ c1 F1 S1 r => ?_).imp fun Q E h => call_bi1 (fv := biVal b) L c F hg (by cases b <;> decide +kernel) (by cases b <;> rfl) h1 h
  cases hhn : C.hn with
  | false => exact Sm.stuck
  | true => exact L.bi (L.eqn ▸ hhn) b v u A s₁ μ₁ σ₁ c1 r
theorem sim_listRev (L : Leaf X G C d hn) {a : E} (ha : SimE X C G d hn a) : SimE X C G d hn (.listRev a) := by
  intro cx e hT A env ρ s μ σ c F
  obtain ⟨q, q', x, p, p', he, hg, hg', h1⟩ := hT
  subst he
  refine (Sm.go (k := fun v => if C.hn then revV v else stuck) (P2 := fun u Q E s => wpAny (Mo X) A (PySem.call (.type "reversed") [u]) (fun w s' => wpAny (Mo X) A (PySem.call (.type "list") [w]) Q E s') E s) c F (ha cx x h1 A env ρ s μ σ c F) fun v σ₁ u s₁ μ₁ c1 F1 S1 r => ?_).imp fun Q E h => ?_
  · cases hhn : C.hn with
    | false => exact Sm.stuck
    | true => exact L.rev (L.eqn ▸ hhn) v u A s₁ μ₁ σ₁ c1 r
  · obtain ⟨mg, mb, n1, n2, _, _, hbi, _, _⟩ := L.nm.ns
    obtain ⟨e1, e2⟩ := hbi "list" (.type "list") (by decide +kernel)
    refine Call_ (sim_builtin c F n1 n2 hg e1 e2 (PySem.W.callWith_of (P := fun _ => True) rfl (fun _ _ => ⟨_, .inr (.inl rfl), PySem.W.Looks.of_pure rfl⟩) (evalArgs_plain ?_)))
    exact args_cons (call_bi1 (fv := .type "reversed") L c F hg' (by decide +kernel) rfl h1 (wpAny_mono h (fun u s' h' => wpAny_mono h' (fun w s'' h'' => args_nil ⟨trivial, h''⟩) fun _ _ x => x) fun _ _ x => x)) rfl
theorem sim_isi (L : Leaf X G C d hn) {a : E} {t : Ty} (ha : SimE X C G d hn a) : SimE X C G d hn (.isi a t) := by
  intro cx e hT A env ρ s μ σ c F
  obtain ⟨q, x, y, tp, p, he, hg, hgt, ht, h1⟩ := hT
  subst he
  obtain ⟨mg, mb, n1, n2, hcls, _, hbi, _, _⟩ := L.nm.ns
  refine (Sm.go (k := fun v => isiV C.sub t v) c F (ha cx x h1 A env ρ s μ σ c F) (P2 := fun u Q E s₁ => wpAny (Mo X) A (eval (.Name y tp) env) (fun w s₂ => wpAny (Mo X) A (PySem.call (.builtin "isinstance") [u, w]) Q E s₂) E s₁) fun v σ₁ u s₁ μ₁ c1 F1 S1 r => ?_).imp fun Q E h => ?_
  · refine (L.isi t v u A s₁ μ₁ σ₁ (fun k e => by subst e; exact (List.getElem?_eq_some_iff.mp ht).1) c1 r).imp fun Q E h => ?_
    cases t
    case cls k => exact sim_global c1 F1 n1 hgt (hcls y k ht) h
    case int => cases ht; obtain ⟨e1, e2⟩ := hbi "int" (.type "int") (by decide +kernel); exact sim_builtin c1 F1 n1 n2 hgt e1 e2 h
    case bool => cases ht; obtain ⟨e1, e2⟩ := hbi "bool" (.type "bool") (by decide +kernel); exact sim_builtin c1 F1 n1 n2 hgt e1 e2 h
    case str => cases ht; obtain ⟨e1, e2⟩ := hbi "str" (.type "str") (by decide +kernel); exact sim_builtin c1 F1 n1 n2 hgt e1 e2 h
    case list => cases ht; obtain ⟨e1, e2⟩ := hbi "list" (.type "list") (by decide +kernel); exact sim_builtin c1 F1 n1 n2 hgt e1 e2 h
    case tuple => cases ht; obtain ⟨e1, e2⟩ := hbi "tuple" (.type "tuple") (by decide +kernel); exact sim_builtin c1 F1 n1 n2 hgt e1 e2 h
    case valueError => cases ht; obtain ⟨e1, e2⟩ := hbi "ValueError" (.type "ValueError") (by decide +kernel); exact sim_builtin c1 F1 n1 n2 hgt e1 e2 h
  · obtain ⟨e1, e2⟩ := hbi "isinstance" (.builtin "isinstance") (by decide +kernel)
    refine Call_ (sim_builtin c F n1 n2 hg e1 e2 (PySem.W.callWith_of (P := fun _ => True) ?_ (fun _ _ => ⟨_, .inr (.inl rfl), PySem.W.Looks.of_pure rfl⟩) ?_))
    · rw [h1.facts.star]; rfl
    · rw [h1.facts.star]
      refine evalArgs_plain (spliced_cons (wpAny_mono h (fun u s₁ h₁ => ?_) fun _ _ x => x))
      exact spliced_cons (wpAny_mono h₁ (fun w s₂ h₂ => spliced_nil ⟨trivial, h₂⟩) fun _ _ x => x)
theorem sim_call (L : Leaf X G C d hn) {f : Nat} {ts : List E} (hs : Sims X C G d hn ts) : SimE X C G d hn (.call f ts) := by
  intro cx e hT A env ρ s μ σ c F
  obtain ⟨x, q, es, p, he, hg, hf, h1⟩ := hT
  subst he
  obtain ⟨mg, mb, n1, n2, _, hfns, _⟩ := L.nm.ns
  obtain ⟨e1, e2⟩ := hfns x f hf
  exact (Sm.go (k := fun vs => C.call f vs) c F (sim_args (p := p) hs h1 c F) (P2 := fun us Q E s₁ => X.K.In s₁.heap ∧ wpAny (Mo X) A (PySem.call (.ref (X.fa f)) ([] ++ us)) Q E s₁) fun vs σ₁ us s₁ μ₁ c1 F1 S1 r => (L.call f vs us A s₁ μ₁ σ₁ c1 r).imp fun Q E h => ⟨c1.kin L.nm, h⟩).imp fun Q E h =>
    Call_ (sim_global c F n1 hg e1 (callWith_own h1 e2 h))
theorem sim_con (L : Leaf X G C d hn) (v : V) : SimE X C G d hn (.con v) := by
  intro cx e hT A env ρ s μ σ c F
  obtain ⟨x, p, he, hg, hv⟩ := hT
  subst he
  obtain ⟨mg, mb, n1, n2, _, _, _, hcon, _⟩ := L.nm.ns
  obtain ⟨u, e1, r⟩ := hcon x v hv
  exact c.ret (r _ _) fun Q E h => sim_global c F n1 hg e1 h
end
end Mine

set_option maxRecDepth 100000
set_option linter.all false
set_option genSizeOf false
set_option genSizeOfSpec false
set_option genInjectivity false
namespace Mine
open PySem PyProof.Rows PySem.Calls

/-- only the places of `own` have changed -/
structure Move (own : List Addr) (s s' : Shared) : Prop where
  keep : ∀ b o, b ∉ own → s.heap.get? b = some o → s'.heap.get? b = some o
  size : s.heap.objs.size ≤ s'.heap.objs.size
  gens : s'.gens = s.gens
  os : s'.os = s.os
theorem Move.of_but {a : Addr} {s : Shared} {h' : Heap} {t : Nat} (hs : Heap.SameBut a s.heap h') : Move [a] s { s with heap := h', toks := t } :=
  ⟨fun b o hb e => (hs.2 b fun q => hb (List.mem_singleton.mpr q)).trans e, Nat.le_of_eq hs.1.symm, rfl, rfl⟩

/-- an iterator's object -/
noncomputable def PrivAt (X : W) (h : Heap) (b : Addr) : Prop := ∃ o, h.get? b = some o ∧ o.cls ≠ .type "list" ∧ o.cls ≠ .type "dict" ∧ (∀ es n, o.data ≠ .dict es n) ∧ (∀ u, o.data ≠ .cell u) ∧ ¬ Solid X b o

section
variable {X : W} {A : Around} {d : Nat} {hn : Bool} {s s' s₀ : Shared} {μ μ' μ₀ : List Addr} {σ σ' σ₀ : H} {env : PySem.Env} {cx : Cx} {ρ : Env} {own : List Addr}

theorem PrivAt.mk {h : Heap} {b : Addr} {o : Obj} {n : String} {fs : Array Value} (e : h.get? b = some o) (hc : o.cls = .type n) (hd : o.data = .fields fs) (h1 : n ≠ "list") (h2 : n ≠ "dict") (h3 : n ≠ "tuple") : PrivAt X h b := by
  refine ⟨o, e, (by rw [hc]; simpa using h1), (by rw [hc]; simpa using h2), (by rw [hd]; intro _ _ q; cases q), (by rw [hd]; intro _ q; cases q), fun hS => ?_⟩
  rcases hS.1 with q | ⟨c, q⟩
  · rw [hc] at q; exact h3 (by injection q)
  · rw [hc] at q; cases q
theorem PrivAt.tup {h : Heap} {b : Addr} {a : Array Value} {n : Nat} (e : h.get? b = some { cls := .type "tuple", data := .seq a n }) (hb : X.bad b) : PrivAt X h b :=
  ⟨_, e, by simp, by simp, (by intro _ _ q; cases q), (by intro _ q; cases q), fun hS => hS.2.2.2 rfl hb⟩
/-- no value and no list leans on it -/
noncomputable def Soft (X : W) (h : Heap) (μ : List Addr) (b : Addr) : Prop := b ∉ μ ∧ ∀ o, h.get? b = some o → ¬ Solid X b o
theorem PrivAt.off {h : Heap} {b : Addr} (p : PrivAt X h b) (R : HR X μ σ h) : b ∉ μ := by
  obtain ⟨o, e, h1, h2, _⟩ := p
  exact R.offC e h1 h2
theorem PrivAt.isSoft {h : Heap} {b : Addr} (p : PrivAt X h b) (R : HR X μ σ h) : Soft X h μ b := ⟨p.off R, fun o' e' hS => by
  obtain ⟨o, e, _, _, _, _, q⟩ := p
  rw [e] at e'; cases e'; exact q hS⟩
theorem PrivAt.lt {h : Heap} {b : Addr} (p : PrivAt X h b) : b < h.objs.size := let ⟨_, e, _⟩ := p; Heap.lt_size e

theorem Move.solid (m : Move own s s') (hp : ∀ b ∈ own, Soft X s.heap μ b) : ∀ a o, s.heap.get? a = some o → Solid X a o → s'.heap.get? a = some o := fun a o e hS => m.keep a o (fun hm => (hp a hm).2 o e hS) e
theorem Move.vrs (m : Move own s s') (hp : ∀ b ∈ own, Soft X s.heap μ b) {v : List V} {u : List Value} (r : VRs X s.heap μ v u) : VRs X s'.heap μ v u := r.mono (m.solid hp) fun _ _ e => e
theorem Move.vr (m : Move own s s') (hp : ∀ b ∈ own, Soft X s.heap μ b) {v : V} {u : Value} (r : VR X s.heap μ v u) : VR X s'.heap μ v u := r.mono (m.solid hp) fun _ _ e => e
theorem Move.hr (m : Move own s s') (hp : ∀ b ∈ own, Soft X s.heap μ b) (R : HR X μ σ s.heap) : HR X μ σ s'.heap where
  len := R.len
  nodup := R.nodup
  fresh := R.fresh
  obj := fun i o a e1 e2 => (R.obj i o a e1 e2).mono (m.solid hp) (fun _ _ e => e) fun x e => m.keep a x (fun hm => (hp a hm).1 (List.mem_of_getElem? e2)) e
/-- the way so far, and a change to what is newer than its beginning -/
theorem Step.move (S : Step X s₀ μ₀ s μ σ) (m : Move own s s') (hp : ∀ b ∈ own, Soft X s.heap μ b) (hnew : ∀ b ∈ own, s₀.heap.objs.size ≤ b) (hB : Base X s₀.heap) : Step X s₀ μ₀ s' μ σ where
  hr := m.hr hp S.hr
  keep := fun b o hb e => by
    obtain ⟨sl, e1, q⟩ := S.keep b o hb e
    refine ⟨sl, m.keep b _ (fun hm => ?_) e1, q⟩
    exact absurd (Heap.lt_size e) (Nat.not_lt.mpr (hnew b hm))
  base := ⟨fun b o e => m.keep b o (fun hm => absurd (Heap.lt_size (hB.keep b o e)) (Nat.not_lt.mpr (hnew b hm))) (S.base.keep b o e), Nat.le_trans S.base.size m.size, S.base.low⟩
  size := Nat.le_trans S.size m.size
  ext := S.ext
  gens := m.gens.trans S.gens
  os := m.os.trans S.os
theorem FR.move (F : FR X env cx ρ s.heap μ) (R : HR X μ σ s.heap) (m : Move own s s') (hp : ∀ b ∈ own, PrivAt X s.heap b) : FR X env cx ρ s'.heap μ := { F with
  ns := by
    obtain ⟨mm, n, h⟩ := F.ns
    refine ⟨mm, ?_, fun x k v h1 h2 h3 => let ⟨u, a, b⟩ := h x k v h1 h2 h3; ⟨u, a, m.vr (fun b hb => (hp b hb).isSoft R) b⟩⟩
    obtain ⟨o, es, ep, e, hd, r⟩ := n
    refine ⟨o, es, ep, m.keep _ _ (fun hm => ?_) e, hd, r⟩
    obtain ⟨o', e', _, _, q, _⟩ := hp _ hm
    rw [e] at e'; cases e'; exact q _ _ hd
  cell := fun x k h1 h2 => by
    obtain ⟨c, u, a, b, dd⟩ := F.cell x k h1 h2
    obtain ⟨o, e, hd⟩ := b
    refine ⟨c, u, a, ⟨o, m.keep _ _ (fun hm => ?_) e, hd⟩, fun v hv => let ⟨y, p, q⟩ := dd v hv; ⟨y, p, m.vr (fun b hb => (hp b hb).isSoft R) q⟩⟩
    obtain ⟨o', e', _, _, _, q, _⟩ := hp _ hm
    rw [e] at e'; cases e'; exact q _ hd
  offC := fun x c h => ⟨(F.offC x c h).1, (F.offC x c h).2.1, Nat.lt_of_lt_of_le (F.offC x c h).2.2 m.size⟩ }
end

/-- an iterator under way -/
inductive JR (X : W) (h : Heap) (μ : List Addr) : It → Addr → List Addr → Prop
  | list {l i : Nat} {a J : Addr} : μ[l]? = some a → h.IsListIter J a i → JR X h μ (.list l i) J [J]
  | range {i n : Nat} {J : Addr} : i ≤ n → IsRangeIter h J i ((n : Int) - i) 1 → JR X h μ (.range i n) J [J]
  | enum {l i : Nat} {a J K : Addr} {old : Value} : μ[l]? = some a → J ≠ K → IsEnum h J K i old → h.IsListIter K a i → JR X h μ (.enum l i) J [J, K]
  | zip {l m i : Nat} {a b z TI TO i1 i2 : Addr} {x y : Value} : μ[l]? = some a → μ[m]? = some b → ZipApart z TI TO i1 i2 a b → X.bad TI → X.bad TO → IsZip h z TI TO .none → IsPair h TI (.ref i1) (.ref i2) → IsPair h TO x y →
      h.IsListIter i1 a i → h.IsListIter i2 b i → JR X h μ (.zip l m i) z [z, TI, TO, i1, i2]
  | seq {x : Str} {t : Tok} {i : Nat} {J : Addr} {ty : String} : x.length ≤ lim → (ty = "str_ascii_iterator" ∨ ty = "str_iterator") → h.IsStrIter J ty x t i → JR X h μ (.seq (codes x) i) J [J]

section
variable {X : W} {A : Around} {d : Nat} {hn : Bool} {s s' s₀ : Shared} {μ μ' μ₀ : List Addr} {σ σ' σ₀ : H} {env : PySem.Env} {cx : Cx} {ρ : Env} {own : List Addr} {it : It} {J : Addr}

theorem priv_iter {h : Heap} {J a : Addr} {i : Nat} (e : h.IsListIter J a i) : PrivAt X h J := let ⟨o, e, hc, hd⟩ := e; .mk e hc hd (by decide) (by decide) (by decide)
theorem priv_all {P : Addr → Prop} : ∀ {l : List Addr}, (l.foldr (fun a p => P a ∧ p) True) → ∀ b ∈ l, P b
  | [], _, _, h => nomatch h
  | _ :: _, h, b, hb => by
    rcases List.mem_cons.mp hb with rfl | hb
    · exact h.1
    · exact priv_all h.2 b hb
theorem JR.priv {h : Heap} (j : JR X h μ it J own) : ∀ b ∈ own, PrivAt X h b := by
  cases j with
  | list _ e => exact priv_all ⟨priv_iter e, trivial⟩
  | range _ e => exact priv_all ⟨.mk e rfl rfl (by decide) (by decide) (by decide), trivial⟩
  | enum _ _ e e' => exact priv_all ⟨.mk e rfl rfl (by decide) (by decide) (by decide), priv_iter e', trivial⟩
  | seq _ ht e =>
    obtain ⟨o, e, hc, hd⟩ := e
    exact priv_all ⟨.mk e hc hd (by rcases ht with rfl | rfl <;> decide) (by rcases ht with rfl | rfl <;> decide) (by rcases ht with rfl | rfl <;> decide), trivial⟩
  | zip _ _ _ b1 b2 e1 e2 e3 e4 e5 => exact priv_all ⟨.mk e1 rfl rfl (by decide) (by decide) (by decide), .tup e2 b1, .tup e3 b2, priv_iter e4, priv_iter e5, trivial⟩
theorem JR.keeps {h h' : Heap} (j : JR X h μ it J own) (k : ∀ b ∈ own, ∀ o, h.get? b = some o → h'.get? b = some o) (hμ : ∀ (i : Nat) (a : Addr), μ[i]? = some a → μ'[i]? = some a) : JR X h' μ' it J own := by
  cases j with
  | list hl e => exact .list (hμ _ _ hl) (e.at fun o x => k _ (by simp) _ x)
  | range hi e => exact .range hi (k _ (by simp) _ e)
  | enum hl hn e e' => exact .enum (hμ _ _ hl) hn (k _ (by simp) _ e) (e'.at fun o x => k _ (by simp) _ x)
  | seq hz ht e => obtain ⟨o, e, r⟩ := e; exact .seq hz ht ⟨o, k _ (by simp) _ e, r⟩
  | zip hl hm D b1 b2 e1 e2 e3 e4 e5 => exact .zip (hμ _ _ hl) (hμ _ _ hm) D b1 b2 (k _ (by simp) _ e1) (k _ (by simp) _ e2) (k _ (by simp) _ e3) (e4.at fun o x => k _ (by simp) _ x) (e5.at fun o x => k _ (by simp) _ x)
theorem JR.step (j : JR X s.heap μ it J own) (R : HR X μ σ s.heap) (S : Step X s μ s' μ' σ') : JR X s'.heap μ' it J own :=
  j.keeps (fun b hb o e => S.keep.at ((j.priv b hb).off R) e (by
    obtain ⟨o', e', _, _, q, _⟩ := j.priv b hb
    rw [e] at e'; cases e'; exact q)) S.get

noncomputable def ItRel (X : W) (s : Shared) (μ : List Addr) (J : Addr) (own : List Addr) (r : Option (V × It)) (q : Option Value) (s' : Shared) : Prop := Move own s s' ∧ match r, q with
  | none, none => True
  | some (v, it'), some u => VR X s'.heap μ v u ∧ JR X s'.heap μ it' J own
  | _, _ => False

theorem Move.of_ext {a : Addr} {s : Shared} {h' : Heap} (he : Heap.ExtBut a s.heap h') (hs : s.heap.objs.size ≤ h'.objs.size) : Move [a] s { s with heap := h' } :=
  ⟨fun b o hb e => he b o (fun q => hb (List.mem_singleton.mpr q)) e, hs, rfl, rfl⟩
theorem next_list (c : Cn X A d true s μ σ) {l i : Nat} {a : Addr} (hl : μ[l]? = some a) (e : s.heap.IsListIter J a i) {r : Option (V × It)} (hr : nextIt (.list l i) σ = some r) {Q : Option Value → Shared → Prop} {E : Value → Shared → Prop} (h : ∀ q s', ItRel X s μ J [J] r q s' → Q q s') :
    wpAny (Mo X) A (pyNext (.ref J)) Q E s := by
  refine sized ?_
  obtain ⟨xs, ho, hr⟩ := Option.map_eq_some_iff.mp hr
  obtain ⟨vs, n, e', r', hz⟩ := c.list (listAt_eq ho) hl
  have L : s.heap.IsList a vs.toArray := ⟨_, e', rfl, _, rfl⟩
  cases hx : xs[i]? with
  | none =>
    rw [hx] at hr
    cases hr
    have hv : vs.toArray[i]? = none := by
      rw [List.getElem?_toArray]
      refine List.getElem?_eq_none ?_
      rw [← r'.length]; exact List.getElem?_eq_none_iff.mp hx
    exact wpAny_pyNext_list_end (c.rm.handled rfl) e L hv fun h' he hs => h _ _ ⟨.of_ext he hs, trivial⟩
  | some v =>
    rw [hx] at hr
    cases hr
    obtain ⟨u, hu, ru⟩ := r'.get hx
    refine wpAny_pyNext_list_item e L (x := u) (by simpa using hu) fun h' hit hs hz' => ?_
    have M : Move [J] s { s with heap := h' } := .of_but (t := s.toks) hs
    exact h _ _ ⟨M, M.vr (fun b hb => (JR.priv (X := X) (μ := μ) (.list hl e) b hb).isSoft c.hr) ru, .list hl hit⟩
theorem next_seq (c : Cn X A d true s μ σ) {x : Str} {t : Tok} {i : Nat} {ty : String} (hz : x.length ≤ lim) (ht : ty = "str_ascii_iterator" ∨ ty = "str_iterator") (e : s.heap.IsStrIter J ty x t i) {r : Option (V × It)} (hr : nextIt (.seq (codes x) i) σ = some r) {Q : Option Value → Shared → Prop} {E : Value → Shared → Prop}
    (h : ∀ q s', ItRel X s μ J [J] r q s' → Q q s') : wpAny (Mo X) A (pyNext (.ref J)) Q E s := by
  refine sized ?_
  replace hr : ((codes x)[i]?).map (fun c => (V.str [c], It.seq (codes x) (i + 1))) = r := Option.some.inj hr
  have hcx : (codes x)[i]? = x.cps[i]? := by simp [codes]
  cases hx : x.cps[i]? with
  | none =>
    rw [hcx, hx] at hr
    cases hr
    rcases ht with rfl | rfl
    · exact wpAny_pyNext_ascii_end (c.rm.handled rfl) e (by simpa using hx) fun h' he hs => h _ _ ⟨.of_ext he hs, trivial⟩
    · exact wpAny_pyNext_wide_end (c.rm.handled rfl) e (by simpa using hx) fun h' he hs => h _ _ ⟨.of_ext he hs, trivial⟩
  | some k =>
    rw [hcx, hx] at hr
    cases hr
    have go : ∀ h', h'.IsStrIter J ty x t (i + 1) → Heap.SameBut J s.heap h' → s.heap.objs.size ≤ h'.objs.size → Q (some (.str ⟨#[k]⟩ s.toks)) { s with heap := h', toks := s.toks + 1 } := fun h' hit hs _ =>
      h _ _ ⟨.of_but hs, VR.str (X := X) (h := h') (μ := μ) ⟨#[k]⟩ s.toks (Nat.le_of_ble_eq_true rfl), .seq hz ht hit⟩
    rcases ht with rfl | rfl
    · exact wpAny_pyNext_ascii_item e (c := k) (by simpa using hx) fun h' hit hs hz' => go h' hit hs hz'
    · exact wpAny_pyNext_wide_item e (c := k) (by simpa using hx) fun h' hit hs hz' => go h' hit hs hz'
/-- the next one, of a list or a range -/
noncomputable def plainIt : It → Bool
  | .list _ _ => true
  | .range _ _ => true
  | .seq _ _ => true
  | _ => false
theorem next_plain {it' : It} {v : V} (h : nextIt it σ = some (some (v, it'))) (hp : plainIt it = true) : plainIt it' = true := by
  cases it with
  | list l i =>
    obtain ⟨xs, ho, hr⟩ := Option.map_eq_some_iff.mp h
    obtain ⟨_, _, e⟩ := Option.map_eq_some_iff.mp hr
    cases e; rfl
  | range i n =>
    have h : (if i < n then some (V.int i, It.range (i + 1) n) else none) = some (v, it') := Option.some.inj h
    split at h <;> cases h
    rfl
  | seq x i =>
    obtain ⟨_, _, e⟩ := Option.map_eq_some_iff.mp (Option.some.inj h)
    cases e; rfl
  | _ => cases hp
theorem sm_next (c : Cn X A d true s μ σ) (j : JR X s.heap μ it J own) (hp : plainIt it = true) {r : Option (V × It)} (hr : nextIt it σ = some r) {Q : Option Value → Shared → Prop} {E : Value → Shared → Prop} (h : ∀ q s', ItRel X s μ J own r q s' → Q q s') :
    wpAny (Mo X) A (pyNext (.ref J)) Q E s := by
  cases j with
  | list hl e => exact next_list c hl e hr h
  | @range i n _ hi e =>
    refine sized ?_
    replace hr : (if i < n then some (V.int i, It.range (i + 1) n) else none) = r := Option.some.inj hr
    split at hr
    · rename_i hlt
      cases hr
      refine wpAny_pyNext_range_item e (by (first | lia | omega)) fun h' hit hs hz' => ?_
      refine h _ _ ⟨.of_but hs, .int _ _, .range hlt ?_⟩
      have e1 : ((i + 1 : Nat) : Int) = (i : Int) + 1 := by push_cast; rfl
      rw [e1, ← Int.sub_sub]; exact hit
    · cases hr
      exact wpAny_pyNext_range_end (c.rm.handled rfl) e (by (first | lia | omega)) fun h' he hs => h _ _ ⟨.of_ext he hs, trivial⟩
  | seq hz ht e => exact next_seq c hz ht e hr h
  | _ => cases hp
/-- the next one, and the pair is let go -/
noncomputable def NextP (X : W) (A : Around) (tg : Expr) (J : Addr) : PT (Option Value) := fun Q E s =>
  wpAny (Mo X) A (pyNext (.ref J)) (fun q s₁ => match q with
    | none => Q none s₁
    | some v => wpAny (Mo X) A (letOwnedTupleGo tg (.ref J) v) (fun _ s₂ => Q (some v) s₂) E s₁) E s
theorem VR.tupRef {h : Heap} {vs : List V} {u : Value} (r : VR X h μ (.tup vs) u) : ∃ a, u = .ref a := by cases r; exact ⟨_, rfl⟩
theorem next_size (c : Cn X A d hn s μ σ) {b : Addr} {o : Obj} (e : s.heap.get? b = some o) : s.heap.objs.size ≠ b := Nat.ne_of_gt (Heap.lt_size e)
theorem sm_nextP {elts : List Expr} {x1 : Nat} {pos : Pos} (c : Cn X A d true s μ σ) (j : JR X s.heap μ it J own) {r : Option (V × It)} (hr : nextIt it σ = some r) (ht : ∀ v it', r = some (v, it') → ∃ vs, v = .tup vs) {Q : Option Value → Shared → Prop} {E : Value → Shared → Prop} (h : ∀ q s', ItRel X s μ J own r q s' → Q q s') :
    NextP X A (.Tuple elts x1 pos) J Q E s := by
  have soft : ∀ b ∈ own, Soft X s.heap μ b := fun b hb => (j.priv b hb).isSoft c.hr
  cases j with
  | list hl e =>
    refine next_list c hl e hr fun q s' hq => ?_
    cases q with
    | none => exact h none s' hq
    | some u =>
      rcases r with _ | ⟨v, it'⟩
      · exact hq.2.elim
      · obtain ⟨vs, rfl⟩ := ht v it' rfl
        obtain ⟨a', rfl⟩ := hq.2.1.tupRef
        cases hq.2.2 with
        | list _ e2 => exact wpAny_letOwnedTupleGo_listiter e2 (h _ _ hq)
        | _ =>
          obtain ⟨xs, ho, hr⟩ := Option.map_eq_some_iff.mp hr
          obtain ⟨_, _, e⟩ := Option.map_eq_some_iff.mp hr
          cases e
  | @range i n _ hi e =>
    replace hr : (if i < n then some (V.int i, It.range (i + 1) n) else none) = r := Option.some.inj hr
    split at hr
    · cases hr; obtain ⟨_, q⟩ := ht _ _ rfl; cases q
    · cases hr
      refine sized ?_
      exact wpAny_pyNext_range_end (c.rm.handled rfl) e (by (first | lia | omega)) fun h' he hs => h _ _ ⟨.of_ext he hs, trivial⟩
  | seq hz ht' e =>
    refine next_seq c hz ht' e hr fun q s' hq => ?_
    cases q with
    | none => exact h none s' hq
    | some u =>
      rcases r with _ | ⟨v, it'⟩
      · exact hq.2.elim
      · obtain ⟨vs, rfl⟩ := ht v it' rfl
        obtain ⟨_, _, e'⟩ := Option.map_eq_some_iff.mp (Option.some.inj hr)
        cases e'
  | @enum l i a _ K old hl hne e1 e2 =>
    refine sized ?_
    obtain ⟨xs, ho, hr⟩ := Option.map_eq_some_iff.mp hr
    obtain ⟨vs, n, e', r', hz⟩ := c.list (listAt_eq ho) hl
    have L : s.heap.IsList a vs.toArray := ⟨_, e', rfl, _, rfl⟩
    cases hx : xs[i]? with
    | none =>
      rw [hx] at hr
      cases hr
      have hv : vs.toArray[i]? = none := by
        rw [List.getElem?_toArray]
        refine List.getElem?_eq_none ?_
        rw [← r'.length]; exact List.getElem?_eq_none_iff.mp hx
      exact wpAny_pyNext_enum_end (c.rm.handled rfl) e1 e2 L hv fun h' he hs => h _ _ ⟨⟨fun b o hb e => he b o (fun q => hb (by simp [q])) e, hs, rfl, rfl⟩, trivial⟩
    | some v =>
      rw [hx] at hr
      cases hr
      obtain ⟨u, hu, ru⟩ := r'.get hx
      refine wpAny_pyNext_enum_item e1 e2 L (x := u) (by simpa using hu) hne fun h₁ q1 q2 q3 q4 q5 hz₁ => ?_
      refine wpAny_letOwnedTupleGo_enum q1 fun h₂ p1 hs => ?_
      replace hs : Heap.SameBut J h₁ h₂ := hs
      have M : Move [J, K] s { s with heap := h₂, toks := s.toks + 1 } := ⟨fun b o hb e => hs.extBut _ _ (fun q => hb (by simp [q])) (q5 b o (fun q => hb (by simp [q])) (fun q => hb (by simp [q])) e), by show _ ≤ h₂.objs.size; rw [hs.1, q4]; exact Nat.le_succ _, rfl, rfl⟩
      refine h _ _ ⟨M, ?_, ?_⟩
      · refine .tup (l := [.int i s.toks, u]) (n := 0) (hs.extBut _ _ (next_size c e1) q3) (c.good (Nat.le_refl _)) (Nat.le_of_ble_eq_true rfl) (.cons (.int _ _) (.cons (M.vr soft ru) .nil))
      · have e1 : ((i + 1 : Nat) : Int) = (i : Int) + 1 := by push_cast; rfl
        exact .enum hl hne (by rw [e1]; exact p1) (q2.extBut hs.extBut (Ne.symm hne))
  | @zip l m i a b z TI TO i1 i2 x y hl hm D b1 b2 e1 e2 e3 e4 e5 =>
    refine sized ?_
    obtain ⟨xs, ho, hr⟩ := Option.bind_eq_some_iff.mp hr
    obtain ⟨ys, ho', hr⟩ := Option.map_eq_some_iff.mp hr
    obtain ⟨vs, n, f1, r1, _⟩ := c.list (listAt_eq ho) hl
    obtain ⟨ws, n', f2, r2, _⟩ := c.list (listAt_eq ho') hm
    have L1 : s.heap.IsList a vs.toArray := ⟨_, f1, rfl, _, rfl⟩
    have L2 : s.heap.IsList b ws.toArray := ⟨_, f2, rfl, _, rfl⟩
    have stop : vs.toArray[i]? = none ∨ ws.toArray[i]? = none → r = none → wpAny (Mo X) A (pyNext (.ref J)) (fun q s₁ => s.heap.objs.size ≤ s₁.heap.objs.size → match q with
        | none => Q none s₁
        | some v => wpAny (Mo X) A (letOwnedTupleGo (.Tuple elts x1 pos) (.ref J) v) (fun _ s₂ => Q (some v) s₂) E s₁) (fun e s₁ => s.heap.objs.size ≤ s₁.heap.objs.size → E e s₁) s := fun hend hr0 => by
      subst hr0
      exact wpAny_pyNext_zip_end (c.rm.handled rfl) D e1 e2 e3 e4 e5 L1 L2 hend fun h' he hs => h _ _ ⟨⟨fun b o hb e => he b o (fun q => hb (by simp [q])) (fun q => hb (by simp [q])) (fun q => hb (by simp [q])) (fun q => hb (by simp [q])) e, hs, rfl, rfl⟩, trivial⟩
    have none_at : ∀ {xs : List V} {vs : List Value}, VRs X s.heap μ xs vs → xs[i]? = none → vs.toArray[i]? = none := fun r hx => by
      rw [List.getElem?_toArray]
      refine List.getElem?_eq_none ?_
      rw [← r.length]; exact List.getElem?_eq_none_iff.mp hx
    cases hx : xs[i]? with
    | none => rw [hx] at hr; cases hr; exact stop (.inl (none_at r1 hx)) rfl
    | some v =>
      cases hy : ys[i]? with
      | none => rw [hx] at hr; simp only [Option.bind_some, hy, Option.map_none] at hr; cases hr; exact stop (.inr (none_at r2 hy)) rfl
      | some w =>
        rw [hx] at hr
        simp only [Option.bind_some, hy, Option.map_some] at hr
        cases hr
        obtain ⟨u, hu, ru⟩ := r1.get hx
        obtain ⟨u', hu', ru'⟩ := r2.get hy
        refine wpAny_pyNext_zip_item D e1 e2 e3 e4 e5 L1 L2 (x := u) (y := u') (by simpa using hu) (by simpa using hu') fun h₁ q1 q2 q3 q4 q5 q6 q7 hz₁ => ?_
        refine wpAny_letOwnedTupleGo_zip q1 fun h₂ p1 hs => ?_
        replace hs : Heap.SameBut J h₁ h₂ := hs
        have M : Move [J, TI, TO, i1, i2] s { s with heap := h₂ } := ⟨fun b o hb e => hs.extBut _ _ (fun q => hb (by simp [q])) (q7 b o (fun q => hb (by simp [q])) (fun q => hb (by simp [q])) (fun q => hb (by simp [q])) (fun q => hb (by simp [q])) e), by show _ ≤ h₂.objs.size; rw [hs.1, q6]; exact Nat.le_succ _, rfl, rfl⟩
        refine h _ _ ⟨M, ?_, ?_⟩
        · exact .tup (l := [u, u']) (n := 0) (hs.extBut _ _ (next_size c e1) q5) (c.good (Nat.le_refl _)) (Nat.le_of_ble_eq_true rfl) (.cons (M.vr soft ru) (.cons (M.vr soft ru') .nil))
        · exact .zip hl hm D b1 b2 p1 (hs.extBut _ _ D.TIz (q7 _ _ D.TIz D.TITO D.TIi1 D.TIi2 e2)) (hs.extBut _ _ D.TOz q2) (q3.extBut hs.extBut D.i1z) (q4.extBut hs.extBut D.i2z)
end
end Mine

set_option maxRecDepth 100000
set_option linter.all false
set_option genSizeOf false
set_option genSizeOfSpec false
set_option genInjectivity false
namespace Mine
open PySem PyProof.Rows PySem.Calls

/-- a value that can be gone through -/
inductive IR (X : W) (h : Heap) (μ : List Addr) : It → Value → Prop
  | list {l : Nat} {a : Addr} {items : Array Value} : μ[l]? = some a → h.IsList a items → IR X h μ (.list l 0) (.ref a)
  | range {a : Addr} {k : Int} {t u v : Tok} : -4611686018427387904 < k → k < 4611686018427387904 → IsRange h a 0 k 1 t u v → IR X h μ (.range 0 k.toNat) (.ref a)
  | seq (x : Str) (t : Tok) : x.length ≤ lim → IR X h μ (.seq (codes x) 0) (.str x t)

section
variable {X : W} {A : Around} {d : Nat} {hn : Bool} {s s' s₀ : Shared} {μ μ' μ₀ : List Addr} {σ σ' σ₀ : H} {env : PySem.Env} {cx : Cx} {ρ : Env} {own : List Addr} {it : It} {J : Addr} {C : Calls} {G : GT} {n₀ : Nat}

theorem sm_iter (c : Cn X A d hn s μ σ) (hn0 : n₀ ≤ s.heap.objs.size) {u : Value} (i : IR X s.heap μ it u) {Q : Value → Shared → Prop} {E : Value → Shared → Prop}
    (h : ∀ J own s', plainIt it = true → JR X s'.heap μ it J own → Step X s μ s' μ σ → (∀ b ∈ own, n₀ ≤ b) → Q (.ref J) s') : wpAny (Mo X) A (pyIter u) Q E s := by
  have one : ∀ b ∈ [s.heap.objs.size], n₀ ≤ b := fun b hb => by rw [List.mem_singleton.mp hb]; exact hn0
  cases i with
  | @list l a items hl L => exact wpAny_pyIter_list L (h _ [s.heap.objs.size] _ rfl (.list hl ⟨_, Heap.get?_push_size _ rfl, rfl, rfl⟩) (Step.push c _ s.toks) one)
  | @range a k t u v h1 h2 r =>
    have e : Builtin.Range.rangeSize 0 k 1 = (k.toNat : Int) := by
      unfold Builtin.Range.rangeSize
      by_cases hk : 0 < k
      · simp [hk]; (first | lia | omega)
      · simp [hk]; (first | lia | omega)
    have hs : Builtin.Range.small 0 k 1 = true := by
      unfold Builtin.Range.small
      rw [e]
      by_cases hk : 0 < k <;> simp [Builtin.Range.rangeFitsLong] <;> (first | lia | omega)
    refine wpAny_pyIter_range r hs (h _ [s.heap.objs.size] _ rfl (.range (Nat.zero_le _) ?_) (Step.push c _ s.toks) one)
    rw [e]
    have : IsRangeIter (s.heap.push { cls := .type "range_iterator", data := .fields #[rawInt 0, rawInt (k.toNat : Int), rawInt 1] }) s.heap.objs.size 0 (k.toNat : Int) 1 := Heap.get?_push_size _ rfl
    simpa using this
  | seq x t hz =>
    cases ha : x.cps.all (· < 128)
    · exact wpAny_pyIter_wide ha (h _ [s.heap.objs.size] _ rfl (.seq (ty := "str_iterator") hz (.inr rfl) ⟨_, Heap.get?_push_size _ rfl, rfl, rfl⟩) (Step.push c _ s.toks) one)
    · exact wpAny_pyIter_ascii ha (h _ [s.heap.objs.size] _ rfl (.seq (ty := "str_ascii_iterator") hz (.inl rfl) ⟨_, Heap.get?_push_size _ rfl, rfl, rfl⟩) (Step.push c _ s.toks) one)

noncomputable def SimI (X : W) (C : Calls) (G : GT) (d : Nat) (hn : Bool) (src : Src) : Prop :=
  ∀ (cx : Cx) (e : Expr), plainSrc src = true → TSrc G src cx e → ∀ (A : Around) (env : PySem.Env) (ρ : Env) (s : Shared) (μ : List Addr) (σ : H), Cn X A d hn s μ σ → FR X env cx ρ s.heap μ →
    Sm X (Wp X A (eval e env)) (evSrc X.ns C ρ src σ) (fun h μ p u => IR X h μ p.1 u) s μ

/-- a list of the small heap -/
theorem listN_at (c : Cn X A d hn s μ σ) {v : V} {u : Value} {p : Nat × Nat} (h : listN v σ = some p) (r : VR X s.heap μ v u) : ∃ a l n, u = .ref a ∧ μ[p.1]? = some a ∧ s.heap.get? a = some { cls := .type "list", data := .seq (List.toArray l) n } := by
  cases r <;> first | (cases h; done) | skip
  rename_i i a hi
  obtain ⟨xs, h1, h2⟩ := Option.map_eq_some_iff.mp h
  subst h2
  obtain ⟨l, n, e, _, _⟩ := c.list (listAt_eq h1) hi
  exact ⟨a, l, n, rfl, hi, e⟩
theorem simI_of {t : E} (h : SimE X C G d hn t) : SimI X C G d hn (.of t) := fun cx e _ he A env ρ s μ σ c F =>
  Sm.go (k := fun v => pickI (iterV v)) c F (h cx e he A env ρ s μ σ c F) (P2 := fun u Q E s => Q u s) fun v σ₁ u s₁ μ₁ c1 F1 S1 r => by
    refine sm_pick fun p hp => ?_
    cases r <;> first | (cases hp; done) | skip
    · rename_i x t hz
      cases hp
      exact Sm.ok fun Q E hQ => hQ _ _ _ (Step.refl c1.hr c1.base) (.seq x t hz)
    · rename_i i a hi
      obtain ⟨xs, h1, rfl⟩ := Option.map_eq_some_iff.mp hp
      obtain ⟨l, n, e, _, _⟩ := c1.list (listAt_eq h1) hi
      exact Sm.ok fun Q E hQ => hQ _ _ _ (Step.refl c1.hr c1.base) (.list hi ⟨_, e, rfl, _, rfl⟩)
theorem simI_range (L : Leaf X G C d hn) {t : E} (h : SimE X C G d hn t) : SimI X C G d hn (.range t) := by
  intro cx e _ hT A env ρ s μ σ c F
  obtain ⟨q, x, p, he, hg, h1⟩ := hT
  subst he
  refine (Sm.go (k := rangeV) c F (h cx x h1 A env ρ s μ σ c F) fun v σ₁ u s₁ μ₁ c1 F1 S1 r => ?_).imp fun Q E h => call_bi1 (fv := .type "range") L c F hg (by decide +kernel) rfl h1 h
  cases r <;> first | exact Sm.stuck | skip
  rename_i k tk
  show Sm X _ ((if -4611686018427387904 < k ∧ k < 4611686018427387904 then M.ret (It.range 0 k.toNat, k.toNat) else stuck : M (It × Nat)) σ₁) _ _ _
  split
  · rename_i hk
    exact Sm.ok fun Q E hQ => call_range_1 (hQ _ _ _ (Step.push c1 _ _) (.range hk.1 hk.2 (IsRange.new ..)))
  · exact Sm.stuck
end
end Mine

set_option maxRecDepth 100000
set_option linter.all false
namespace Mine
open PySem PyProof.Rows PySem.Calls

section
variable {X : W} {A : Around} {d : Nat} {hn : Bool} {s s' s₀ : Shared} {μ μ' μ₀ : List Addr} {σ σ' σ₀ : H} {env : PySem.Env} {cx cx' : Cx} {ρ : Env} {own : List Addr} {it : It} {J : Addr} {C : Calls} {G : GT} {n₀ : Nat}

theorem relabel_names (scope : Scope) (F : FR X env cx ρ s.heap μ) : (PySem.relabel scope env).names = Mine.relabel cx.kinds scope.names := by
  show (scope.names.map fun (n, k) => if (k == NameKind.free && env.scope.kind == ScopeKind.function && env.kindOf n == some NameKind.cell) then (n, NameKind.cell) else (n, k)) = _
  generalize scope.names = l
  induction l with
  | nil => rfl
  | cons p r ih =>
    obtain ⟨n, k⟩ := p
    rw [List.map_cons, ih]
    rw [show Mine.relabel cx.kinds ((n, k) :: r) = (n, if k = .free ∧ cx.kinds.lookup n = some .cell then .cell else k) :: Mine.relabel cx.kinds r from rfl]
    congr 1
    have hk : env.scope.kind = .function := F.kind
    have hn : env.kindOf n = cx.kinds.lookup n := F.kindOf
    by_cases h : k = .free ∧ cx.kinds.lookup n = some .cell
    · rw [if_pos h]
      simp [h.1, hk, hn, h.2]
    · rw [if_neg h]
      have : (k == NameKind.free && env.scope.kind == ScopeKind.function && env.kindOf n == some NameKind.cell) = false := by
        rw [hk, hn]
        cases hq : (k == NameKind.free && ScopeKind.function == ScopeKind.function && List.lookup n cx.kinds == some NameKind.cell) with
        | false => rfl
        | true =>
          simp only [Bool.and_eq_true, beq_iff_eq] at hq
          exact absurd ⟨hq.1.1, hq.2⟩ h
      dsimp only
      rw [this]; rfl

noncomputable def freeOf (env : PySem.Env) : List (Str × NameKind) → List (Str × Addr) → List (Str × Addr)
  | [], acc => acc
  | (n, k) :: r, acc => if k = .free then freeOf env r ((n, (env.cells.lookup n).getD 0) :: acc) else freeOf env r acc
theorem closure_eq {scope : Scope} (h : ∀ n k, (n, k) ∈ scope.names → k = .free → (env.cells.lookup n).isSome = true) : closureFor scope env = pure (freeOf env scope.names []) := by
  unfold closureFor
  have : ∀ (l : List (Str × NameKind)) (acc : List (Str × Addr)), (∀ n k, (n, k) ∈ l → k = .free → (env.cells.lookup n).isSome = true) →
      (forIn l acc fun x (cs : List (Str × Addr)) => (match x with | (name, kind) => do
        if (kind == NameKind.free) = true then do let a ← cellOf env name; pure (ForInStep.yield ((name, a) :: cs)) else pure (ForInStep.yield cs) : Sem (ForInStep (List (Str × Addr))))) = pure (freeOf env l acc) := by
    intro l
    induction l with
    | nil => intro acc _; rfl
    | cons p r ih =>
      intro acc hl
      obtain ⟨n, k⟩ := p
      rw [List.forIn_cons]
      unfold freeOf
      by_cases hk : k = .free
      · subst hk
        obtain ⟨a, ha⟩ := Option.isSome_iff_exists.mp (hl n .free List.mem_cons_self rfl)
        have hc : cellOf env n = pure a := by unfold cellOf; rw [ha]
        simp only [beq_self_eq_true, if_true, hc, ha, Option.getD_some]
        rw [pure_bind, pure_bind]
        exact ih _ fun n k hm => hl n k (List.mem_cons_of_mem _ hm)
      · have : (k == NameKind.free) = false := by simpa using hk
        simp only [this, Bool.false_eq_true, if_false, if_neg hk]
        rw [pure_bind]
        exact ih _ fun n k hm => hl n k (List.mem_cons_of_mem _ hm)
  have := this scope.names [] h
  simp only [this]
  rfl

theorem freeOf_lookup (env : PySem.Env) : ∀ (l : List (Str × NameKind)) (acc : List (Str × Addr)) (x : Str) (c : Addr), (freeOf env l acc).lookup x = some c → acc.lookup x = some c ∨ ((x, NameKind.free) ∈ l ∧ (env.cells.lookup x).getD 0 = c)
  | [], _, _, _, h => .inl h
  | (n, k) :: r, acc, x, c, h => by
    unfold freeOf at h
    split at h
    · rename_i hk
      subst hk
      rcases freeOf_lookup env r _ x c h with h1 | ⟨h1, h2⟩
      · rw [List.lookup_cons] at h1
        cases hx : x == n with
        | true =>
          rw [hx] at h1
          have := beq_iff_eq.mp hx
          subst this
          exact .inr ⟨List.mem_cons_self, by simpa using h1⟩
        | false => rw [hx] at h1; exact .inl h1
      · exact .inr ⟨List.mem_cons_of_mem _ h1, h2⟩
    · rcases freeOf_lookup env r _ x c h with h1 | ⟨h1, h2⟩
      · exact .inl h1
      · exact .inr ⟨List.mem_cons_of_mem _ h1, h2⟩
theorem freeOf_mem (env : PySem.Env) : ∀ (l : List (Str × NameKind)) (acc : List (Str × Addr)) (x : Str), ((x, NameKind.free) ∈ l ∨ (acc.lookup x).isSome = true) → ((freeOf env l acc).lookup x).isSome = true
  | [], _, _, h => by rcases h with h | h; cases h; exact h
  | (n, k) :: r, acc, x, h => by
    unfold freeOf
    split
    · rename_i hk
      refine freeOf_mem env r _ x ?_
      rw [List.lookup_cons]
      cases hx : x == n with
      | true => exact .inr rfl
      | false =>
        rcases h with h | h
        · rcases List.mem_cons.mp h with q | q
          · cases q; simp at hx
          · exact .inl q
        · exact .inr h
    · rename_i hk
      refine freeOf_mem env r _ x ?_
      rcases h with h | h
      · rcases List.mem_cons.mp h with q | q
        · cases q; exact absurd rfl hk
        · exact .inl q
      · exact .inr h

theorem blockOk_free {outer : List (Str × NameKind)} {x : Str} : ∀ {l : List (Str × NameKind)}, blockOk outer x l = true → ∀ n k, (n, k) ∈ l → (k = .free → outer.lookup n = some .cell) ∧ k ≠ .cell ∧ (k = .local → n = x ∨ n = ".0")
  | [], _, _, _, h => nomatch h
  | (y, k) :: r, hb, n, k', h => by
    unfold blockOk at hb
    simp only [Bool.and_eq_true] at hb
    rcases List.mem_cons.mp h with q | q
    · cases q
      have h1 := hb.1
      cases k <;> simp at h1 ⊢
      · exact h1
      · exact h1
    · exact blockOk_free hb.2 n k' q

theorem lookup_mem {α : Type} : ∀ {l : List (Str × α)} {n : Str} {a : α}, l.lookup n = some a → (n, a) ∈ l := fun h => PySem.mem_of_lookup h
theorem mem_lookup {α : Type} : ∀ {l : List (Str × α)} {n : Str} {a : α}, (l.map (·.1)).Nodup → (n, a) ∈ l → l.lookup n = some a
  | (m, b) :: r, n, a, hn, h => by
    rw [List.map_cons, List.nodup_cons] at hn
    rw [List.lookup_cons]
    rcases List.mem_cons.mp h with q | q
    · cases q; simp
    · have : (n == m) = false := by
        cases hx : n == m with
        | false => rfl
        | true =>
          have := beq_iff_eq.mp hx
          subst this
          exact absurd (List.mem_map_of_mem (f := (·.1)) q) hn.1
      rw [this]; exact mem_lookup hn.2 q

/-- names of a block as the frame has them -/
theorem relabel_lookup {outer : List (Str × NameKind)} : ∀ {l : List (Str × NameKind)} {n : Str} {k : NameKind}, (Mine.relabel outer l).lookup n = some k → ∃ k', l.lookup n = some k' ∧ k = if k' = .free ∧ outer.lookup n = some .cell then .cell else k'
  | (m, b) :: r, n, k, h => by
    unfold Mine.relabel at h
    rw [List.lookup_cons] at h ⊢
    cases hx : n == m with
    | true =>
      rw [hx] at h
      have := beq_iff_eq.mp hx
      subst this
      exact ⟨b, rfl, by simpa using h.symm⟩
    | false => rw [hx] at h; exact relabel_lookup h
theorem relabel_lookup' {outer : List (Str × NameKind)} : ∀ {l : List (Str × NameKind)} {n : Str} {k' : NameKind}, l.lookup n = some k' → (Mine.relabel outer l).lookup n = some (if k' = .free ∧ outer.lookup n = some .cell then .cell else k')
  | (m, b) :: r, n, k, h => by
    unfold Mine.relabel
    rw [List.lookup_cons] at h ⊢
    cases hx : n == m with
    | true =>
      rw [hx] at h
      have := beq_iff_eq.mp hx
      subst this
      simp at h ⊢; rw [h]
    | false => rw [hx] at h; exact relabel_lookup' h

/-- a block of a comprehension -/
theorem FR.comp {x : Str} {sc : Scope} {Cc : Addr} {m : Str → Option Value} {v : V} {u : Value} (F : FR X env cx ρ s.heap μ) (hc : cx.inComp x sc = some cx') (hm : s.heap.Ns Cc m) (hu : m x = some u) (r : VR X s.heap μ v u) (hC : Cc ∉ μ)
    (hlow : ∀ y c, env.cells.lookup y = some c → c ≠ Cc) : FR X (compEnvC sc (freeOf env sc.names []) Cc env) cx' (ρ ++ [some v]) s.heap μ := by
  unfold Cx.inComp at hc
  split at hc
  · rename_i hq
    obtain ⟨h1, h2, h3, h4, h5, _⟩ := hq
    cases hc
    have hcell : ∀ y, (Mine.relabel cx.kinds sc.names).lookup y = some .cell → (y, NameKind.free) ∈ sc.names ∧ cx.kinds.lookup y = some .cell := fun y hy => by
      obtain ⟨k', e, hk⟩ := relabel_lookup hy
      split at hk
      · rename_i q; obtain ⟨rfl, q2⟩ := q; exact ⟨lookup_mem e, q2⟩
      · subst hk; exact absurd rfl (blockOk_free h2 y _ (lookup_mem e)).2.1
    have hcl : ∀ y c, (freeOf env sc.names []).lookup y = some c → env.cells.lookup y = some c := fun y c hy => by
      rcases freeOf_lookup env sc.names [] y c hy with q | ⟨q1, q2⟩
      · cases q
      · obtain ⟨a, ha⟩ := Option.isSome_iff_exists.mp (F.cells y ((blockOk_free h2 y _ q1).1 rfl))
        rw [ha] at q2 ⊢; simpa using q2
    exact {
      kind := h1
      globals := F.globals
      builtins := F.builtins
      names := relabel_names sc F
      ns := by
        refine ⟨m, hm, fun y k w e1 e2 e3 => ?_⟩
        obtain ⟨k', e, hk⟩ := relabel_lookup e1
        split at hk
        · cases hk
        · subst hk
          rcases (blockOk_free h2 y _ (lookup_mem e)).2.2 rfl with rfl | rfl
          · rw [List.lookup_cons] at e2
            simp at e2
            subst e2
            have hl : ρ.length = cx.n := F.len
            rw [← hl, List.getElem?_append_right (Nat.le_refl _)] at e3
            simp at e3
            subst e3
            exact ⟨u, hu, r⟩
          · rw [List.lookup_cons] at e2
            cases hx : ((".0" : Str) == x) with
            | true =>
              rw [hx] at e2
              have hx' := beq_iff_eq.mp hx
              have hl : ρ.length = cx.n := F.len
              simp at e2
              rw [← e2, ← hl, List.getElem?_append_right (Nat.le_refl _)] at e3
              simp at e3
              subst e3
              exact ⟨u, hx' ▸ hu, r⟩
            | false => rw [hx] at e2; simp [h5] at e2
      cell := fun y k e1 e2 => by
        obtain ⟨q1, q2⟩ := hcell y e1
        have hne : y ≠ x := by
          rintro rfl
          have := mem_lookup h4 q1
          rw [h3] at this; cases this
        rw [List.lookup_cons] at e2
        have hb : (y == x) = false := by simpa using hne
        rw [hb] at e2
        obtain ⟨c, w, a1, a2, a3⟩ := F.cell y k q2 e2
        obtain ⟨c', hc'⟩ := Option.isSome_iff_exists.mp (freeOf_mem env sc.names [] y (.inl q1))
        have := hcl y c' hc'
        rw [a1] at this; cases this
        refine ⟨c, w, hc', a2, fun v' hv' => a3 v' ?_⟩
        rw [List.getElem?_append_left (by rw [F.len]; exact F.bound y k e2)] at hv'; exact hv'
      cells := fun y e1 => freeOf_mem env sc.names [] y (.inl (hcell y e1).1)
      apart := fun y z c e1 e2 => F.apart y z c (hcl y c e1) (hcl z c e2)
      offL := hC
      offC := fun y c e => ⟨(F.offC y c (hcl y c e)).1, hlow y c (hcl y c e), (F.offC y c (hcl y c e)).2.2⟩
      slots := fun y z k e1 e2 => by
        rw [List.lookup_cons] at e1 e2
        cases hy : (y == x) with
        | true =>
          rw [hy] at e1
          cases hz : (z == x) with
          | true => rw [beq_iff_eq.mp hy, beq_iff_eq.mp hz]
          | false =>
            rw [hz] at e2
            simp at e1
            have := F.bound z k e2
            (first | lia | omega)
        | false =>
          rw [hy] at e1
          cases hz : (z == x) with
          | true =>
            rw [hz] at e2
            simp at e2
            have := F.bound y k e1
            (first | lia | omega)
          | false => rw [hz] at e2; exact F.slots y z k e1 e2
      bound := fun y k e => by
        rw [List.lookup_cons] at e
        cases hy : (y == x) with
        | true => rw [hy] at e; simp at e; subst e; exact Nat.lt_succ_self _
        | false => rw [hy] at e; exact Nat.lt_succ_of_lt (F.bound y k e)
      len := by rw [List.length_append, F.len]; rfl }
  · cases hc
end
end Mine

set_option maxRecDepth 100000
set_option linter.all false
namespace Mine
open PySem PyProof.Rows PySem.Calls

section
variable {X : W} {A : Around} {d : Nat} {hn : Bool} {s s' s₀ : Shared} {μ μ' μ₀ : List Addr} {σ σ' σ₀ : H} {env : PySem.Env} {cx cx' : Cx} {ρ : Env} {own : List Addr} {it : It} {J : Addr} {C : Calls} {G : GT} {n₀ : Nat}

/-- one or none -/
noncomputable def RlO (X : W) : Heap → List Addr → Option V → Option Value → Prop := fun h μ o q => match o, q with
  | some x, some u => VR X h μ x u
  | none, none => True
  | _, _ => False

/-- a comprehension's turn: its tests, then its element -/
noncomputable def turnP (X : W) (A : Around) (ifs : List Expr) (elt : Expr) (cenv : PySem.Env) : PT (Option Value) := fun Q E s =>
  wpAny (Mo X) A (forIn ifs true fun c r => if r = true then do let ok ← isTrue c cenv (eval c cenv); pure (ForInStep.yield ok) else pure (ForInStep.yield r))
    (fun ok s₃ => if ok = true then wpAny (Mo X) A (eval elt cenv) (fun y s₄ => Q (some y) s₄) E s₃ else Q none s₃) E s

structure CInv (X : W) (s₀ : Shared) (μ₀ : List Addr) (own : List Addr) (J D Cc : Addr) (f : V → M (Option V)) (r₀ : R (List V)) (n : Nat) (s : Shared) (μ : List Addr) (σ : H) (it : It) (acc : List V) (ys : Array Value) (m : Str → Option Value) : Prop where
  step : Step X s₀ μ₀ s μ σ
  jr : JR X s.heap μ it J own
  lst : s.heap.PlainList D ys
  rel : VRs X s.heap μ acc ys.toList
  lim : acc.length ≤ lim
  ns : s.heap.Ns Cc m
  offD : D ∉ μ
  offC : Cc ∉ μ
  go : gather f n it acc σ = r₀
  pl : plainIt it = true

theorem softD {X : W} {h : Heap} {D : Addr} {ys : Array Value} (l : h.PlainList D ys) (hD : D ∉ μ) : ∀ b ∈ [D], Soft X h μ b := fun b hb => by
  rw [List.mem_singleton.mp hb]
  obtain ⟨n, e⟩ := l
  refine ⟨hD, fun o e' hS => ?_⟩
  rw [e] at e'; cases e'
  exact hS.offList (.inl rfl)
theorem softC {X : W} {h : Heap} {Cc : Addr} {m : Str → Option Value} (l : h.Ns Cc m) (hC : Cc ∉ μ) : ∀ b ∈ [Cc], Soft X h μ b := fun b hb => by
  rw [List.mem_singleton.mp hb]
  obtain ⟨o, es, ep, e, hd, _⟩ := l
  refine ⟨hC, fun o' e' hS => ?_⟩
  rw [e] at e'; cases e'
  exact hS.2.1 _ _ hd

theorem comp_loop {elt iter : Expr} {x : Str} {px : Pos} {ifs : List Expr} {sc : Scope} {pos : Pos} {D Cc : Addr} {f : V → M (Option V)} {r₀ : R (List V)} {cenv : PySem.Env} {Rr : Result → Shared → Prop} {n : Nat} {acc : List V} {ys : Array Value} {m : Str → Option Value}
    (c₀ : Cn X A d true s₀ μ₀ σ₀) (hne : r₀ ≠ .stuck) (hx : cenv.kindOf x = some .local) (hk : cenv.scope.kind = .function) (hl : cenv.locals = Cc)
    (hown : ∀ b ∈ own, s₀.heap.objs.size ≤ b) (hD : s₀.heap.objs.size ≤ D) (hC : s₀.heap.objs.size ≤ Cc) (hDo : D ∉ own) (hCo : Cc ∉ own) (hDC : D ≠ Cc)
    (hbody : ∀ v u s μ σ m, Cn X A d true s μ σ → Step X s₀ μ₀ s μ σ → s.heap.Ns Cc m → m x = some u → VR X s.heap μ v u → Cc ∉ μ → Sm X (turnP X A ifs elt cenv) (f v σ) (RlO X) s μ)
    (hR : ∀ acc s μ σ ys m, r₀ = .ok acc σ → Step X s₀ μ₀ s μ σ → s.heap.PlainList D ys → VRs X s.heap μ acc ys.toList → acc.length ≤ lim → s.heap.Ns Cc m → D ∉ μ → Cc ∉ μ → Rr (.ok .next) s)
    (h : CInv X s₀ μ₀ own J D Cc f r₀ n s μ σ it acc ys m) :
    codeAny (Mo X) A (.compLoop (.ListComp elt [⟨.Name x px, iter, ifs, 0⟩] sc pos) 0 (.ref J) (.ref D) cenv) Rr s := by
  refine codeAny_compLoop_tests (fun n s => ∃ μ σ it acc ys m, CInv X s₀ μ₀ own J D Cc f r₀ n s μ σ it acc ys m) ?_ n ⟨μ, σ, it, acc, ys, m, h⟩
  clear h
  rintro n s ⟨μ, σ, it, acc, ys, m, I⟩
  have c := c₀.step I.step
  have hgo := I.go
  unfold gather at hgo
  cases hnx : nextIt it σ with
  | none => rw [hnx] at hgo; exact absurd hgo.symm hne
  | some r =>
    refine sm_next c I.jr I.pl hnx fun q s₁ hr => ?_
    obtain ⟨M1, hr⟩ := hr
    have soft1 : ∀ b ∈ own, Soft X s.heap μ b := fun b hb => (I.jr.priv b hb).isSoft c.hr
    have S1 : Step X s₀ μ₀ s₁ μ σ := I.step.move M1 soft1 hown c₀.base
    have L1 : s₁.heap.PlainList D ys := I.lst.at fun o e => M1.keep D o hDo e
    have R1 : VRs X s₁.heap μ acc ys.toList := M1.vrs soft1 I.rel
    have N1 : s₁.heap.Ns Cc m := I.ns.at' fun o e => M1.keep Cc o hCo e
    cases r with
    | none =>
      cases q with
      | some _ => exact hr.elim
      | none =>
        rw [hnx] at hgo
        exact hR acc s₁ μ σ ys m hgo.symm S1 L1 R1 I.lim N1 I.offD I.offC
    | some p =>
      obtain ⟨v, it'⟩ := p
      cases q with
      | none => exact hr.elim
      | some u =>
        obtain ⟨ru, j1⟩ := hr
        rw [hnx] at hgo
        cases n with
        | zero => exact absurd hgo.symm hne
        | succ n =>
          dsimp only at hgo
          refine wpAny_assign_Name (wpAny_storeName_local hx (by rw [hl]; exact N1) (fun h₂ hn₂ hs₂ => ?_) (by rw [hk]; rfl))
          rw [hl] at hn₂ hs₂
          have M2 : Move [Cc] s₁ { s₁ with heap := h₂, toks := s₁.toks + 1 } := ⟨fun b o hb e => (hs₂.2 b fun q => hb (by simp [q])).trans e, Nat.le_of_eq hs₂.1.symm, rfl, rfl⟩
          have soft2 := softC (X := X) (μ := μ) N1 I.offC
          have S2 : Step X s₀ μ₀ { s₁ with heap := h₂, toks := s₁.toks + 1 } μ σ := S1.move M2 soft2 (fun b hb => by rw [List.mem_singleton.mp hb]; exact hC) c₀.base
          have L2 : h₂.PlainList D ys := L1.at fun o e => M2.keep D o (by simpa using hDC) e
          have R2 : VRs X h₂ μ acc ys.toList := M2.vrs soft2 R1
          have j2 : JR X h₂ μ it' J own := j1.keeps (fun b hb o e => M2.keep b o (fun hm => hCo (List.mem_singleton.mp hm ▸ hb)) e) fun _ _ e => e
          have ru2 : VR X h₂ μ v u := M2.vr soft2 ru
          have c2 := c₀.step S2
          have hb := hbody v u _ μ σ _ c2 S2 hn₂ (by simp) ru2 I.offC
          refine hb (fun e => by rw [e] at hgo; exact hne hgo.symm) (fun q s₄ => match q with
            | some x => wpAny (Mo X) A (PySem.call (.builtin "list.append") [.ref D, x]) (fun _ s₅ => ∃ m, m < n + 1 ∧ ∃ μ σ it acc ys m_1, CInv X s₀ μ₀ own J D Cc f r₀ m s₅ μ σ it acc ys m_1) (notedBy (Mo X) A cenv fun e s' => Rr (Except.error e) s') s₄
            | none => ∃ m, m < n + 1 ∧ ∃ μ σ it acc ys m_1, CInv X s₀ μ₀ own J D Cc f r₀ m s₄ μ σ it acc ys m_1) (notedBy (Mo X) A cenv fun e s' => Rr (Except.error e) s') (fun o σ₃ q s₃ μ₃ e3 S3 r3 => ?_) fun k σ₃ _ _ _ e3 _ _ => by rw [e3] at hgo; exact absurd hgo.symm hne
          have S03 := S2.trans S3
          have L3 : s₃.heap.PlainList D ys := by
            obtain ⟨n, e⟩ := L2
            exact ⟨n, S3.keep.at I.offD e (by intro _ _ q; cases q)⟩
          have R3 : VRs X s₃.heap μ₃ acc ys.toList := S3.vrs c2.hr R2
          have j3 : JR X s₃.heap μ₃ it' J own := j2.step c2.hr S3
          have N3 : s₃.heap.Ns Cc _ := S3.keep.ns I.offC hn₂
          have d3 : D ∉ μ₃ := S3.notIn I.offD (by obtain ⟨n, e⟩ := L2; exact Heap.lt_size e)
          have o3 : Cc ∉ μ₃ := S3.notIn I.offC hn₂.lt
          rw [e3] at hgo
          cases o with
          | none =>
            cases q with
            | some _ => exact r3.elim
            | none => exact ⟨n, Nat.lt_succ_self _, μ₃, σ₃, it', acc, ys, _, S03, j3, L3, R3, I.lim, N3, d3, o3, hgo, next_plain hnx I.pl⟩
          | some y =>
            cases q with
            | none => exact r3.elim
            | some w =>
              dsimp only at hgo
              split at hgo
              · rename_i hlim
                have hys : ys.size ≤ sizeLine := by
                  have := R3.length
                  have h2 : ys.toList.length = ys.size := by simp
                  have h3 : acc.length + 1 ≤ sizeLine := hlim
                  (first | lia | omega)
                refine wpAny_list_append_plain (hsz := hys) L3 fun h₅ hl₅ hs₅ => ?_
                have M5 : Move [D] s₃ { s₃ with heap := h₅ } := ⟨fun b o hb e => (hs₅.2 b fun q => hb (by simp [q])).trans e, Nat.le_of_eq hs₅.1.symm, rfl, rfl⟩
                have soft5 := softD (X := X) (μ := μ₃) L3 d3
                refine ⟨n, Nat.lt_succ_self _, μ₃, σ₃, it', acc ++ [y], ys.push w, _, S03.move M5 soft5 (fun b hb => by rw [List.mem_singleton.mp hb]; exact hD) c₀.base, ?_, hl₅, ?_, ?_, N3.at' fun o e => M5.keep Cc o (by simpa using Ne.symm hDC) e, d3, o3, hgo, next_plain hnx I.pl⟩
                · exact j3.keeps (fun b hb o e => M5.keep b o (fun hm => hDo (List.mem_singleton.mp hm ▸ hb)) e) fun _ _ e => e
                · rw [Array.toList_push]
                  exact (M5.vrs soft5 R3).append (.cons (M5.vr soft5 r3) .nil)
                · rw [List.length_append]; exact hlim
              · exact absurd hgo.symm hne
end
end Mine

set_option maxRecDepth 100000
set_option linter.all false
namespace Mine
open PySem PyProof.Rows PySem.Calls

section
variable {X : W} {A : Around} {d : Nat} {hn : Bool} {s s' s₀ : Shared} {μ μ' μ₀ : List Addr} {σ σ' σ₀ : H} {env : PySem.Env} {cx cx' : Cx} {ρ : Env} {own : List Addr} {it : It} {J : Addr} {C : Calls} {G : GT} {n₀ : Nat}

theorem jr_self (j : JR X s.heap μ it J own) (hp : plainIt it = true) {Q : Value → Shared → Prop} {E : Value → Shared → Prop} (h : Q (.ref J) s) : wpAny (Mo X) A (pyIter (.ref J)) Q E s := by
  cases j with
  | list _ e => exact wpAny_pyIter_listiter e h
  | range _ e => exact wpAny_pyIter_rangeiter e h
  | seq _ ht e => rcases ht with rfl | rfl; exact wpAny_pyIter_striter_ascii e h; exact wpAny_pyIter_striter_wide e h
  | _ => cases hp

/-- a list that was made on the way comes under the small heap -/
theorem Step.adopt {D : Addr} {o : O} (S : Step X s₀ μ₀ s μ σ) (hB : Base X s₀.heap) (hD : D ∉ μ) (hn : s₀.heap.objs.size ≤ D) (r : OR X s.heap (μ ++ [D]) D o) : Step X s₀ μ₀ s (μ ++ [D]) (σ ++ [o]) where
  hr := S.hr.alloc hD (Nat.le_trans hB.size hn) r
  keep := S.keep
  base := S.base
  size := S.size
  ext := by
    obtain ⟨ν, rfl, h⟩ := S.ext
    refine ⟨ν ++ [D], by rw [List.append_assoc], fun a ha => ?_⟩
    rcases List.mem_append.mp ha with q | q
    · exact h a q
    · rw [List.mem_singleton.mp q]; exact hn
  gens := S.gens
  os := S.os

noncomputable def compF (ns : List Int) (C : Calls) (ρ : Env) (elt : E) (cond : Option E) (v : V) : M (Option V) := match cond with
  | none => (evE ns C (ρ ++ [some v]) elt).bnd fun x => .ret (some x)
  | some c => (evE ns C (ρ ++ [some v]) c).bnd fun t => match t with
      | .bool true => (evE ns C (ρ ++ [some v]) elt).bnd fun x => .ret (some x)
      | .bool false => .ret .none
      | _ => stuck
noncomputable def compE (src : Src) (elt : E) : Option E → E
  | none => .comp src elt
  | some c => .compIf src elt c
theorem evE_comp (ρ : Env) (src : Src) (elt : E) (cond : Option E) : evE X.ns C ρ (compE src elt cond) = (evSrc X.ns C ρ src).bnd fun p => (if C.hn then gather (compF X.ns C ρ elt cond) p.2 p.1 [] else stuck).bnd fun xs => newO (.list xs) := by
  cases cond <;> rfl
/-- what a comprehension's tree stands for -/
theorem T_comp {src : Src} {elt : E} {cond : Option E} {e : Expr} (h : T G (compE src elt cond) cx e) : ∃ x px it ifs sc p el cx', e = .ListComp el [⟨.Name x px, it, ifs, 0⟩] sc p ∧ cx.inComp x sc = some cx' ∧ plainSrc src = true ∧ TSrc G src cx it ∧ T G elt cx' el ∧
    ((ifs = [] ∧ cond = none) ∨ ∃ c q, ifs = [c] ∧ T G q cx' c ∧ cond = some q) := by
  cases cond with
  | none => obtain ⟨x, px, it, sc, p, el, cx', h1, h2, h3, h4, h5⟩ := h; exact ⟨x, px, it, [], sc, p, el, cx', h1, h2, h3, h4, h5, .inl ⟨rfl, rfl⟩⟩
  | some q => obtain ⟨x, px, it, sc, p, el, ce, cx', h1, h2, h3, h4, h5, h6⟩ := h; exact ⟨x, px, it, [ce], sc, p, el, cx', h1, h2, h3, h4, h5, .inr ⟨ce, q, rfl, h6, rfl⟩⟩
/-- its parts -/
structure SimC (X : W) (C : Calls) (G : GT) (d : Nat) (hn : Bool) (src : Src) (elt : E) (cond : Option E) : Prop where
  i : SimI X C G d hn src
  e : SimE X C G d hn elt
  t : ∀ q, cond = some q → SimT X C G d hn q

/-- a turn -/
theorem sim_turn {elt : Expr} {ifs : List Expr} {cenv : PySem.Env} {src : Src} {e : E} {cond : Option E} (hC : SimC X C G d hn src e cond) (h4 : T G e cx' elt)
    (h5 : (ifs = [] ∧ cond = none) ∨ ∃ c q, ifs = [c] ∧ T G q cx' c ∧ cond = some q) {v : V} (c : Cn X A d hn s μ σ) (F : FR X cenv cx' (ρ ++ [some v]) s.heap μ) :
    Sm X (turnP X A ifs elt cenv) (compF X.ns C ρ e cond v σ) (RlO X) s μ := by
  rcases h5 with ⟨rfl, rfl⟩ | ⟨k, q, rfl, h6, rfl⟩
  · refine (Sm.go c F (hC.e cx' elt h4 A cenv _ s μ σ c F) (P2 := fun u Q E s => Q (some u) s) fun x _ u _ _ c1 F1 _ r => Sm.ok fun Q E hQ => hQ _ _ _ (Step.refl c1.hr c1.base) r).imp fun Q E h => ?_
    unfold turnP
    rw [List.forIn_nil]
    exact wpAny_pure h
  · have he : compF X.ns C ρ e (some q) v = ((evE X.ns C (ρ ++ [some v]) q).bnd asB).bnd fun b => if b then (evE X.ns C (ρ ++ [some v]) e).bnd fun x => .ret (some x) else .ret .none := by
      unfold compF
      dsimp only
      rw [bnd_assoc]
      congr 1
      funext w
      cases w with
      | bool b => cases b <;> rfl
      | _ => rfl
    rw [he]
    refine (Sm.go c F (hC.t q rfl cx' k h6 A cenv _ s μ σ c F) (P2 := fun ok Q E s₃ => if ok = true then wpAny (Mo X) A (eval elt cenv) (fun y s₄ => Q (some y) s₄) E s₃ else Q none s₃) fun b σ₁ b' s₁ μ₁ c1 F1 _ r => ?_).imp fun Q E h => ?_
    · cases r
      cases b with
      | true => exact Sm.go c1 F1 (hC.e cx' elt h4 A cenv _ s₁ μ₁ σ₁ c1 F1) (P2 := fun u Q E s => Q (some u) s) fun x _ u _ _ c2 F2 _ r => Sm.ok fun Q E hQ => hQ _ _ _ (Step.refl c2.hr c2.base) r
      | false => exact Sm.ok fun Q E hQ => hQ _ _ _ (Step.refl c1.hr c1.base) trivial
    · unfold turnP
      rw [List.forIn_cons]
      simp only [if_true]
      refine wpAny_bind (wpAny_bind (wpAny_mono h (fun ok s₃ h₃ => wpAny_pure ?_) fun _ _ x => x))
      dsimp only
      rw [List.forIn_nil]
      exact wpAny_pure h₃

theorem src_fold {src : Src} {e : Expr} (h : TSrc G src cx e) (env : PySem.Env) (x : Value) : foldedSetIterable e env x = pure x := by
  cases src with
  | of t => exact T.facts h |>.fold env x
  | range t => obtain ⟨_, _, _, rfl, _⟩ := h; rfl
  | enum t => obtain ⟨_, _, _, rfl, _⟩ := h; rfl
  | zip a b => obtain ⟨_, _, _, _, rfl, _⟩ := h; rfl
theorem comp_core (L : Leaf X G C d hn) {elt iter : Expr} {x : Str} {px p pos' : Pos} {ifs : List Expr} {sc : Scope} {ti : Src} {e : E} {cond : Option E} (hP : SimC X C G d hn ti e cond) (c : Cn X A d hn s μ σ) (F : FR X env cx ρ s.heap μ)
    (hcx : cx.inComp x sc = some cx') (hpl : plainSrc ti = true) (h3 : TSrc G ti cx iter) (h4 : T G e cx' elt) (h5 : (ifs = [] ∧ cond = none) ∨ ∃ c q, ifs = [c] ∧ T G q cx' c ∧ cond = some q) {use : Option (Value → Sem Unit)} {Q : Value → Shared → Prop} {E : Value → Shared → Prop}
    (hne : evE X.ns C ρ (compE ti e cond) σ ≠ .stuck)
    (hfin : ∀ acc σ' s' μ' D Cc k ys m, evE X.ns C ρ (compE ti e cond) σ = .ok (.ref σ'.length) (σ' ++ [.list acc]) → Step X s μ s' μ' σ' → s'.heap.get? D = some { cls := .type "list", data := .seq ys k } → VRs X s'.heap μ' acc ys.toList → acc.length ≤ lim → s'.heap.Ns Cc m →
      D ∉ μ' → Cc ∉ μ' → s.heap.objs.size ≤ D → s.heap.objs.size ≤ Cc → D ≠ Cc → compPost (Mo X) A E use Q (.ref D) Cc (.ok .next) s')
    (hexc : ∀ k σ' y s' μ', evE X.ns C ρ (compE ti e cond) σ = .exc k σ' → Step X s μ s' μ' σ' → XR X s.heap k y s'.heap → E y s') :
    wpAny (Mo X) A (comprehension (.ListComp elt [⟨.Name x px, iter, ifs, 0⟩] sc p) sc env pos' (newList []) false (eval iter env) use) Q E s := by
  rw [evE_comp] at hne hfin hexc
  have hcx' := hcx
  unfold Cx.inComp at hcx'
  split at hcx'
  · rename_i hq
    obtain ⟨q1, q2, q3, q4, q5, _⟩ := hq
    refine wpAny_comprehension_free (cl := freeOf env sc.names []) rfl (src_fold h3 env) (closure_eq fun n k hm hk => F.cells n ((blockOk_free q2 n k hm).1 hk)) q1 (fun y hy hl => by
      obtain ⟨n, k⟩ := y
      dsimp only at hl; subst hl
      exact mem_lookup q4 hy) ?_
    refine hP.i cx iter hpl h3 A env ρ s μ σ c F (fun e => hne (bnd_stuck e)) _ _ (fun pr σ₁ u s₁ μ₁ e1 S1 i1 => ?_) fun k σ₁ y s₁ μ₁ e1 S1 xr => hexc k σ₁ y s₁ μ₁ (bnd_exc e1) S1 xr
    have eq1 := bnd_ok (k := fun p : It × Nat => (if C.hn then gather (compF X.ns C ρ e cond) p.2 p.1 [] else stuck).bnd fun xs => newO (.list xs)) e1
    rw [eq1] at hne hfin
    cases hhn : C.hn with
    | false => simp [hhn, M.bnd, stuck] at hne
    | true =>
      have hnt : hn = true := by rw [← L.eqn]; exact hhn
      subst hnt
      simp only [hhn, if_true] at hne hfin
      refine sm_iter (c.step S1) S1.size i1 fun J own s₂ hpi j2 S2 hown => ?_
      have S02 := S1.trans S2
      have c2 := c.step S02
      refine wpAny_newObj_type (wpAny_newFunctionEnv (fun y hy => (blockOk_free q2 y.1 y.2 hy).2.1) (by intro y hy; simp at hy) (fun h₁ hns₁ hsb₁ => ?_) q1)
      dsimp only at hns₁ hsb₁ ⊢
      generalize hH2 : s₂.heap.push { cls := .type "list", dict := none, data := .seq ([] : List Value).toArray } = H2 at hns₁ hsb₁ ⊢
      have hC : H2.objs.size = s₂.heap.objs.size + 1 := by rw [← hH2, Heap.size_push]
      have hDC : s₂.heap.objs.size ≠ H2.objs.size := by rw [hC]; exact Nat.ne_of_lt (Nat.lt_succ_self _)
      have old : ∀ b o, s₂.heap.get? b = some o → h₁.get? b = some o := fun b o eb => by
        have hb := Heap.lt_size eb
        exact hsb₁.extBut b o (by rw [hC]; exact Nat.ne_of_lt (Nat.lt_succ_of_lt hb)) (Heap.get?_push_of_some _ (hH2 ▸ Heap.get?_push_of_some _ eb))
      have hacc : h₁.PlainList s₂.heap.objs.size #[] := ⟨_, hsb₁.extBut _ _ hDC (Heap.get?_push_of_some _ (hH2 ▸ Heap.get?_push_size _ rfl))⟩
      have hsz : s₂.heap.objs.size ≤ h₁.objs.size := by rw [hsb₁.1, Heap.size_push, hC]; (first | lia | omega)
      have S03 : Step X s μ { s₂ with heap := h₁, toks := s₂.toks + ([] : List (Str × Value)).length } μ₁ σ₁ := S02.trans (Step.grow c2 old hsz rfl rfl)
      have dm : s₂.heap.objs.size ∉ μ₁ := fun hm => Nat.lt_irrefl _ (c2.hr.lt hm)
      have cm : H2.objs.size ∉ μ₁ := fun hm => by have := c2.hr.lt hm; rw [hC] at this; exact Nat.lt_irrefl _ (Nat.lt_of_succ_lt this)
      have loop : codeAny (Mo X) A (.compLoop (.ListComp elt [⟨.Name x px, iter, ifs, 0⟩] sc p) 0 (.ref J) (.ref s₂.heap.objs.size) (compEnvC sc (freeOf env sc.names []) H2.objs.size env))
          (compPost (Mo X) A E use Q (.ref s₂.heap.objs.size) H2.objs.size) { s₂ with heap := h₁, toks := s₂.toks + ([] : List (Str × Value)).length } := by
        refine comp_loop (s₀ := s) (μ₀ := μ) (own := own) (it := pr.1) (n := pr.2) (acc := []) (ys := #[]) (D := s₂.heap.objs.size) (Cc := H2.objs.size) (f := compF X.ns C ρ e cond) (r₀ := gather (compF X.ns C ρ e cond) pr.2 pr.1 [] σ₁) c
          (fun q => hne (by unfold M.bnd; rw [q])) ?_ q1 rfl hown S02.size (by rw [hC]; exact Nat.le_succ_of_le S02.size) (fun hm => ?_) (fun hm => ?_) hDC (fun v u s' μ' σ' m c' S' n' hm' r' hC' => ?_) (fun acc s' μ' σ' ys m e' S' l' r' z' n' d' hCm => ?_)
          ⟨S03, j2.keeps (fun b _ o eb => old b o eb) fun _ _ e => e, hacc, .nil, Nat.zero_le _, hns₁, dm, cm, rfl, hpi⟩
        · show (PySem.relabel sc env).names.lookup x = some .local
          rw [relabel_names sc F]
          rw [relabel_lookup' q3]; rfl
        · exact Nat.lt_irrefl _ ((j2.priv _ hm).lt)
        · have := (j2.priv _ hm).lt; rw [hC] at this; exact Nat.lt_irrefl _ (Nat.lt_of_succ_lt this)
        · refine sim_turn hP h4 h5 c' ((F.step c.hr S').comp hcx n' hm' r' hC' fun y cc hy => ?_)
          have := (F.offC y cc hy).2.2
          have h2 := S02.size
          rw [hC]; exact Nat.ne_of_lt (Nat.lt_succ_of_lt (Nat.lt_of_lt_of_le this h2))
        · obtain ⟨k, el⟩ := l'
          exact hfin acc σ' s' μ' _ _ k ys m (by rw [bnd_ok e']; rfl) S' el r' z' n' d' hCm S02.size (by rw [hC]; exact Nat.le_succ_of_le S02.size) hDC
      exact codeAny_compStart_list loop (jr_self (j2.keeps (fun b _ o eb => old b o eb) fun _ _ e => e) hpi loop)
  · cases hcx'

theorem sim_comp (L : Leaf X G C d hn) {src : Src} {elt : E} {cond : Option E} (hC : SimC X C G d hn src elt cond) : SimE X C G d hn (compE src elt cond) := by
  intro cx e he A env ρ s μ σ c F
  obtain ⟨x, px, iter, ifs, sc, p, el, cx', rfl, hcx, hpl, h3, h4, h5⟩ := T_comp he
  intro hne Q E hQ hE'
  refine comp_core L hC c F hcx hpl h3 h4 h5 hne (fun acc σ' s' μ' D Cc k ys m e' S' el r' z' n' d' hCm hD hC hDC => ?_) hE'
  refine ⟨m, n', fun h' hs' => ?_⟩
  have M1 : Move [Cc] s' { s' with heap := h' } := ⟨fun b o hb e => (hs'.2 b fun q => hb (by simp [q])).trans e, Nat.le_of_eq hs'.1.symm, rfl, rfl⟩
  have S1' : Step X s μ { s' with heap := h' } μ' σ' := S'.move M1 (softC (X := X) n' hCm) (fun b hb => by rw [List.mem_singleton.mp hb]; exact hC) c.base
  have el' : h'.get? D = some { cls := .type "list", data := .seq ys k } := M1.keep _ _ (by simpa using hDC) el
  have rr : VRs X h' μ' acc ys.toList := M1.vrs (softC (X := X) n' hCm) r'
  refine hQ (.ref σ'.length) (σ' ++ [.list acc]) _ _ (μ' ++ [D]) e' (S1'.adopt c.base d' hD (.list (l := ys.toList) (n := k) (by simpa using el') (by rw [← rr.length]; exact z') (rr.mono (fun _ _ e _ => e) ext_get))) (.ref ?_)
  rw [← S1'.hr.len, List.getElem?_append_right (Nat.le_refl _)]; simp
end
end Mine

set_option maxRecDepth 100000
set_option linter.all false
namespace Mine
open PySem PyProof.Rows PySem.Calls

section
variable {X : W} {A : Around} {d : Nat} {hn : Bool} {C : Calls} {G : GT}

/-- the parts of what is gone through -/
noncomputable def Parts (X : W) (C : Calls) (G : GT) (d : Nat) (hn : Bool) : Src → Prop
  | .of t => SimE X C G d hn t
  | .range t => SimE X C G d hn t
  | .enum t => SimE X C G d hn t
  | .zip a b => SimE X C G d hn a ∧ SimE X C G d hn b
theorem Parts.i (L : Leaf X G C d hn) {src : Src} (h : Parts X C G d hn src) : SimI X C G d hn src := by
  cases src with
  | of t => exact simI_of h
  | range t => exact simI_range L h
  | _ => exact fun _ _ h => nomatch h
mutual
theorem sim_all (L : Leaf X G C d hn) : ∀ t : E, Sim X C G d hn t
  | .lit v => .plain (sim_lit v) rfl
  | .con v => .plain (sim_con L v) rfl
  | .var k => .plain (sim_var k) rfl
  | .bin op a b => .plain (sim_bin (sim_all L a).ev (sim_all L b).ev) rfl
  | .not a => sim_not (sim_all L a)
  | .neg a => .plain (sim_neg (sim_all L a).ev) rfl
  | .and es => sim_and (sim_alls L es)
  | .or es => sim_or (sim_alls L es)
  | .cmp op a b => sim_cmp (sim_all L a).ev (sim_all L b).ev
  | .call f es => .plain (sim_call L (sim_alls L es)) rfl
  | .bi b a => .plain (sim_bi L (sim_all L a).ev) rfl
  | .listRev a => .plain (sim_listRev L (sim_all L a).ev) rfl
  | .isi a t => .plain (sim_isi L (sim_all L a).ev) rfl
  | .me a m es => .plain (sim_me L (sim_all L a).ev (sim_alls L es)) rfl
  | .idx a i => .plain (sim_idx (sim_all L a).ev (sim_all L i).ev) rfl
  | .slice a lo hi => .plain (sim_slice (sim_all L a).ev (sim_all L lo).ev (sim_all L hi).ev) rfl
  | .nil => .plain (fun _ _ h => h.elim) rfl
  | .list es => .plain (sim_list (sim_alls L es)) rfl
  | .tup es => .plain (sim_tup (sim_alls L es)) rfl
  | .dict0 => .plain sim_dict0 rfl
  | .comp src elt => .plain (sim_comp L (cond := none) ⟨(sim_parts L src).i L, (sim_all L elt).ev, fun _ h => nomatch h⟩) rfl
  | .compIf src elt c => .plain (sim_comp L (cond := some c) ⟨(sim_parts L src).i L, (sim_all L elt).ev, fun _ h => Option.some.inj h ▸ (sim_all L c).tr⟩) rfl
theorem sim_alls (L : Leaf X G C d hn) : ∀ ts : List E, Sims X C G d hn ts
  | [] => trivial
  | t :: ts => ⟨sim_all L t, sim_alls L ts⟩
theorem sim_parts (L : Leaf X G C d hn) : ∀ src : Src, Parts X C G d hn src
  | .of t => (sim_all L t).ev
  | .range t => (sim_all L t).ev
  | .enum t => (sim_all L t).ev
  | .zip a b => ⟨(sim_all L a).ev, (sim_all L b).ev⟩
end
end
end Mine

set_option maxRecDepth 100000
set_option linter.all false
set_option genSizeOf false
set_option genSizeOfSpec false
set_option genInjectivity false
namespace Mine
open PySem PyProof.Rows PySem.Calls

/-- a frame's own places -/
noncomputable def Own (env : PySem.Env) (b : Addr) : Prop := b = env.locals ∨ ∃ x, env.cells.lookup x = some b
/-- they are newer than the text -/
structure Lo (X : W) (env : PySem.Env) : Prop where
  l : X.h₀.objs.size ≤ env.locals
  c : ∀ x a, env.cells.lookup x = some a → X.h₀.objs.size ≤ a
theorem Lo.own {X : W} {env : PySem.Env} (lo : Lo X env) {b : Addr} (h : Own env b) : X.h₀.objs.size ≤ b := by
  rcases h with rfl | ⟨x, h⟩
  · exact lo.l
  · exact lo.c x b h

structure StepE (X : W) (env : PySem.Env) (s : Shared) (μ : List Addr) (s' : Shared) (μ' : List Addr) (σ' : H) : Prop where
  hr : HR X μ' σ' s'.heap
  keep : ∀ b o, b ∉ μ → ¬ Own env b → s.heap.get? b = some o → ∃ sl, s'.heap.get? b = some { o with slots := sl } ∧ ((∀ es n, o.data ≠ .dict es n) → sl = o.slots)
  base : Base X s'.heap
  size : s.heap.objs.size ≤ s'.heap.objs.size
  ext : ∃ ν, μ' = μ ++ ν ∧ ∀ a ∈ ν, s.heap.objs.size ≤ a
  gens : s'.gens = s.gens
  os : s'.os = s.os
  pers : ∀ b, s'.heap.get? b = none → s.heap.get? b = none

inductive FlR (X : W) (h : Heap) (μ : List Addr) : Fl → Flow → Prop
  | next : FlR X h μ .next .next
  | ret {v : V} {u : Value} : VR X h μ v u → FlR X h μ (.ret v) (.ret u)

/-- an exception under way in a frame -/
noncomputable def XS (X : W) (env : PySem.Env) (g : Heap) (c : Nat) (e : Value) (h : Heap) : Prop := ∃ a fl, e = .ref a ∧ Fly g (.ref (X.ca c)) a fl h ∧ (fl = none ∨ fl = some .none ∨ ∃ L, env.frame = some L ∧ fl = some (rawInt L))
theorem XS.le {X : W} {env : PySem.Env} {g g' : Heap} {c : Nat} {e : Value} {h : Heap} (x : XS X env g c e h) (l : ∀ b, g.get? b = none → g'.get? b = none) : XS X env g' c e h := let ⟨a, fl, h1, h2, h3⟩ := x; ⟨a, fl, h1, h2.le l, h3⟩
theorem XR.s {X : W} {env : PySem.Env} {g : Heap} {c : Nat} {e : Value} {h : Heap} (x : XR X g c e h) : XS X env g c e h := let ⟨a, h1, h2⟩ := x; ⟨a, _, h1, h2, .inr (.inl rfl)⟩

noncomputable def SmS (X : W) (env : PySem.Env) (cx : Cx) (P : PT Flow) (r : RS) (s : Shared) (μ : List Addr) : Prop :=
  r ≠ .stuck → ∀ Q E, (∀ f ρ' σ' fl s' μ', r = .ok f ρ' σ' → StepE X env s μ s' μ' σ' → FR X env cx ρ' s'.heap μ' → FlR X s'.heap μ' f fl → Q fl s') →
    (∀ c ρ' σ' e s' μ', r = .exc c ρ' σ' → StepE X env s μ s' μ' σ' → FR X env cx ρ' s'.heap μ' → XS X env s.heap c e s'.heap → E e s') → P Q E s

section
variable {X : W} {A : Around} {d : Nat} {hn : Bool} {s s' s'' s₀ : Shared} {μ μ' μ'' μ₀ : List Addr} {σ σ' σ'' σ₀ : H} {env : PySem.Env} {cx cx' : Cx} {ρ ρ' : Env} {C D : Calls} {G : GT}

theorem Step.e (S : Step X s μ s' μ' σ') : StepE X env s μ s' μ' σ' := ⟨S.hr, fun b o hb _ e => S.keep b o hb e, S.base, S.size, S.ext, S.gens, S.os, S.pers⟩
theorem StepE.trans (S : StepE X env s μ s' μ' σ') (S' : StepE X env s' μ' s'' μ'' σ'') : StepE X env s μ s'' μ'' σ'' := by
  obtain ⟨ν, rfl, hν⟩ := S.ext
  obtain ⟨ν', rfl, hν'⟩ := S'.ext
  refine ⟨S'.hr, fun b o hb hO e => ?_, S'.base, Nat.le_trans S.size S'.size, ⟨ν ++ ν', by rw [List.append_assoc], fun a ha => ?_⟩, S'.gens.trans S.gens, S'.os.trans S.os, fun b h => S.pers b (S'.pers b h)⟩
  · obtain ⟨sl, e1, q1⟩ := S.keep b o hb hO e
    have hb' : b ∉ μ ++ ν := fun hm => by
      rcases List.mem_append.mp hm with h1 | h1
      · exact hb h1
      · exact absurd (Heap.lt_size e) (Nat.not_lt.mpr (hν b h1))
    obtain ⟨sl', e2, q2⟩ := S'.keep b _ hb' hO e1
    exact ⟨sl', e2, fun hd => (q2 hd).trans (q1 hd)⟩
  · rcases List.mem_append.mp ha with h1 | h1
    · exact hν a h1
    · exact Nat.le_trans S.size (hν' a h1)
theorem StepE.get (S : StepE X env s μ s' μ' σ') : ∀ (i : Nat) (a : Addr), μ[i]? = some a → μ'[i]? = some a := by
  obtain ⟨ν, rfl, _⟩ := S.ext
  exact ext_get
theorem StepE.notIn (S : StepE X env s μ s' μ' σ') {b : Addr} (hb : b ∉ μ) (hl : b < s.heap.objs.size) : b ∉ μ' := by
  obtain ⟨ν, rfl, hν⟩ := S.ext
  intro hm
  rcases List.mem_append.mp hm with h1 | h1
  · exact hb h1
  · exact absurd hl (Nat.not_lt.mpr (hν b h1))
/-- the stack's frames: this one, and others than its places -/
noncomputable def FrOk (A : Around) (env : PySem.Env) : Prop := env.frame = some env.locals ∧ ∃ outer, A.frames = some (env :: outer) ∧ ∀ e ∈ outer, ∀ L, e.frame = some L → ¬ Own env L
theorem FrOk.all {A : Around} {env : PySem.Env} (h : FrOk A env) {fs : List PySem.Env} (e : A.frames = some fs) : ∀ x ∈ fs, ∀ L, x.frame = some L → L = env.locals ∨ ¬ Own env L := fun x hx L hL => by
  obtain ⟨h1, outer, h2, h3⟩ := h
  rw [h2] at e; cases e
  rcases List.mem_cons.mp hx with rfl | hx
  · left; rw [h1] at hL; cases hL; rfl
  · exact .inr (h3 x hx L hL)
theorem StepE.ff (S : StepE X env s μ s' μ' σ') (F : FR X env cx ρ' s'.heap μ') : ∀ {l : List PySem.Env}, (∀ e ∈ l, ∀ L, e.frame = some L → L = env.locals ∨ ¬ Own env L) → FF X s.heap μ l → FF X s'.heap μ' l
  | [], _, _ => trivial
  | e :: r, ho, h => by
    obtain ⟨⟨a, L, o, es, n, e1, e2, e3, e4, e5⟩, hr⟩ := h
    refine ⟨⟨a, L, ?_⟩, S.ff F (fun x hx => ho x (List.mem_cons_of_mem _ hx)) hr⟩
    rcases ho e List.mem_cons_self L e1 with q | q
    · obtain ⟨m, ⟨o', es', ep', k1, k2, _⟩, _⟩ := F.ns
      subst q
      exact ⟨o', es', ep', e1, e2, F.offL, k1, k2⟩
    · obtain ⟨sl, k1, _⟩ := S.keep L o e3 q e4
      exact ⟨_, es, n, e1, e2, S.notIn e3 (Heap.lt_size e4), k1, e5⟩
theorem Cn.stepE (c : Cn X A d hn s μ σ) (S : StepE X env s μ s' μ' σ') (F : FR X env cx ρ' s'.heap μ') (ho : FrOk A env) : Cn X A d hn s' μ' σ' :=
  ⟨c.rm, S.hr, S.base, (let ⟨fs, e, f⟩ := c.fs; ⟨fs, e, S.ff F (ho.all e) f⟩), c.scr, fun a h => Nat.lt_of_lt_of_le (c.bad a h) S.size⟩

/-- a change to one of the frame's places -/
theorem StepE.of_move {a : Addr} (c : Cn X A d hn s μ σ) (m : Move [a] s s') (ha : Own env a) (lo : Lo X env) (hs : Soft X s.heap μ a) (hx : ∃ o, s'.heap.get? a = some o) : StepE X env s μ s' μ σ where
  pers := fun b hb => by
    cases e : s.heap.get? b with
    | none => rfl
    | some o =>
      by_cases q : b = a
      · subst q; obtain ⟨o', e'⟩ := hx; rw [hb] at e'; cases e'
      · rw [m.keep b o (by simpa using q) e] at hb; cases hb
  hr := m.hr (fun b hb => by rw [List.mem_singleton.mp hb]; exact hs) c.hr
  keep := fun b o _ hO e => ⟨o.slots, m.keep b o (fun hm => hO (List.mem_singleton.mp hm ▸ ha)) e, fun _ => rfl⟩
  base := ⟨fun b o e => m.keep b o (fun hm => absurd (Heap.lt_size e) (Nat.not_lt.mpr (List.mem_singleton.mp hm ▸ lo.own ha))) (c.base.keep b o e), Nat.le_trans c.base.size m.size, c.base.low⟩
  size := m.size
  ext := ⟨[], by simp, fun _ h => nomatch h⟩
  gens := m.gens
  os := m.os

theorem set_get {k j : Nat} {v w : V} (hk : k < ρ.length) (h : (ρ.set k (some v))[j]? = some (some w)) : (j = k ∧ w = v) ∨ (j ≠ k ∧ ρ[j]? = some (some w)) := by
  by_cases hj : k = j
  · subst hj
    rw [List.getElem?_set_self hk] at h
    cases h; exact .inl ⟨rfl, rfl⟩
  · rw [List.getElem?_set_ne hj] at h
    exact .inr ⟨fun e => hj e.symm, h⟩

theorem sm_store (c : Cn X A d hn s μ σ) (F : FR X env cx ρ s.heap μ) (lo : Lo X env) {x : Str} {k : Nat} (hk : cx.slot x = some k) {v : V} {u : Value} (r : VR X s.heap μ v u) {Q : Unit → Shared → Prop} {E : Value → Shared → Prop}
    (h : ∀ s', StepE X env s μ s' μ σ → FR X env cx (ρ.set k (some v)) s'.heap μ → (∀ {v : V} {u : Value}, VR X s.heap μ v u → VR X s'.heap μ v u) → Q () s') : wpAny (Mo X) A (storeName env x u) Q E s := by
  obtain ⟨hk, hkd | hkd⟩ := slot_lk hk
  · obtain ⟨m, n, hm⟩ := F.ns
    have hkl : k < ρ.length := by rw [F.len]; exact F.bound x k hk
    refine wpAny_storeName_local (by rw [F.kindOf]; exact hkd) n (fun h' hn' hs' => ?_) (by rw [F.kind]; rfl)
    have hsf : Soft X s.heap μ env.locals := softC n F.offL _ (List.mem_singleton.mpr rfl)
    have M : Move [env.locals] s { s with heap := h', toks := s.toks + 1 } := ⟨fun b o hb e => (hs'.2 b fun q => hb (by simp [q])).trans e, Nat.le_of_eq hs'.1.symm, rfl, rfl⟩
    have sf : ∀ b ∈ [env.locals], Soft X s.heap μ b := fun b hb => by rw [List.mem_singleton.mp hb]; exact hsf
    refine h _ (.of_move c M (.inl rfl) lo hsf (let ⟨o, _, _, e, _⟩ := hn'; ⟨o, e⟩)) { F with
      ns := ⟨_, hn', fun y j w e1 e2 e3 => ?_⟩
      cell := fun y j e1 e2 => ?_
      offC := fun y cc e => ⟨(F.offC y cc e).1, (F.offC y cc e).2.1, Nat.lt_of_lt_of_le (F.offC y cc e).2.2 M.size⟩
      len := by rw [List.length_set]; exact F.len } (fun r => M.vr sf r)
    · rcases set_get hkl e3 with ⟨rfl, rfl⟩ | ⟨hne, e4⟩
      · have : y = x := F.slots y x j e2 hk
        subst this
        exact ⟨u, by simp, M.vr sf r⟩
      · obtain ⟨w', a1, a2⟩ := hm y j w e1 e2 e4
        have hyx : y ≠ x := fun q => by subst q; rw [hk] at e2; cases e2; exact hne rfl
        exact ⟨w', by rw [if_neg hyx]; exact a1, M.vr sf a2⟩
    · obtain ⟨cc, w, a1, a2, a3⟩ := F.cell y j e1 e2
      refine ⟨cc, w, a1, a2.sameBut hs' ((F.offC y cc a1).2.1), fun v' hv' => ?_⟩
      rcases set_get hkl hv' with ⟨rfl, rfl⟩ | ⟨hne, e4⟩
      · have : y = x := F.slots y x j e2 hk
        subst this
        rw [hkd] at e1; cases e1
      · obtain ⟨z, b1, b2⟩ := a3 v' e4
        exact ⟨z, b1, M.vr sf b2⟩
  · have hkl : k < ρ.length := by rw [F.len]; exact F.bound x k hk
    obtain ⟨cc, w, a1, a2, a3⟩ := F.cell x k hkd hk
    refine wpAny_storeName_cell F.kind (by rw [F.kindOf]; exact hkd) a1 a2 fun h' hc' hs' => ?_
    have hsf : Soft X s.heap μ cc := ⟨(F.offC x cc a1).1, fun o e hS => by
      obtain ⟨o', e', hd⟩ := a2
      rw [e] at e'; cases e'
      exact hS.2.2.1 _ hd⟩
    have M : Move [cc] s { s with heap := h' } := ⟨fun b o hb e => (hs'.2 b fun q => hb (by simp [q])).trans e, Nat.le_of_eq hs'.1.symm, rfl, rfl⟩
    have sf : ∀ b ∈ [cc], Soft X s.heap μ b := fun b hb => by rw [List.mem_singleton.mp hb]; exact hsf
    obtain ⟨m, n, hm⟩ := F.ns
    refine h _ (.of_move c M (.inr ⟨x, a1⟩) lo hsf (let ⟨o, e, _⟩ := hc'; ⟨o, e⟩)) { F with
      ns := ⟨m, n.sameBut hs' (Ne.symm (F.offC x cc a1).2.1), fun y j w' e1 e2 e3 => ?_⟩
      cell := fun y j e1 e2 => ?_
      offC := fun y c' e => ⟨(F.offC y c' e).1, (F.offC y c' e).2.1, Nat.lt_of_lt_of_le (F.offC y c' e).2.2 M.size⟩
      len := by rw [List.length_set]; exact F.len } (fun r => M.vr sf r)
    · rcases set_get hkl e3 with ⟨rfl, rfl⟩ | ⟨hne, e4⟩
      · have : y = x := F.slots y x j e2 hk
        subst this
        rw [hkd] at e1; cases e1
      · obtain ⟨w2, b1, b2⟩ := hm y j w' e1 e2 e4
        exact ⟨w2, b1, M.vr sf b2⟩
    · obtain ⟨c2, w2, b1, b2, b3⟩ := F.cell y j e1 e2
      by_cases hyx : y = x
      · subst hyx
        rw [a1] at b1; cases b1
        rw [hk] at e2; cases e2
        refine ⟨cc, some u, a1, hc', fun v' hv' => ?_⟩
        rcases set_get hkl hv' with ⟨_, rfl⟩ | ⟨hne, _⟩
        · exact ⟨u, rfl, M.vr sf r⟩
        · exact absurd rfl hne
      · have hcc : c2 ≠ cc := fun q => hyx (F.apart y x cc (q ▸ b1) a1)
        refine ⟨c2, w2, b1, b2.sameBut hs' hcc, fun v' hv' => ?_⟩
        rcases set_get hkl hv' with ⟨rfl, rfl⟩ | ⟨hne, e4⟩
        · exact absurd (F.slots y x j e2 hk) hyx
        · obtain ⟨z, d1, d2⟩ := b3 v' e4
          exact ⟨z, d1, M.vr sf d2⟩

theorem SmS.mono {P P' : PT Flow} {r : RS} (h : SmS X env cx P r s μ) (hp : ∀ Q E, P Q E s → P' Q E s) : SmS X env cx P' r s μ := fun hne Q E hQ hE => hp Q E (h hne Q E hQ hE)

/-! what an exception's way leaves as it was -/
theorem FF.all {h : Heap} : ∀ {l : List PySem.Env}, FF X h μ l → ∀ b ∈ l.filterMap (·.frame), X.h₀.get? b = none ∧ b ∉ μ ∧ ∃ o es n, h.get? b = some o ∧ o.data = .dict es n
  | [], _, b, hb => by simp at hb
  | e :: l, hf, b, hb => by
    obtain ⟨⟨_, L, o, es, n, k1, k2, k3, k4, k5⟩, hr⟩ := hf
    rw [List.filterMap_cons, k1] at hb
    rcases List.mem_cons.mp hb with rfl | hb
    · exact ⟨k2, k3, o, es, n, k4, k5⟩
    · exact FF.all hr b hb
structure FrIn (X : W) (fr : List Addr) (h : Heap) (μ : List Addr) : Prop where
  all : ∀ b ∈ fr, X.h₀.get? b = none ∧ b ∉ μ ∧ ∃ o es n, h.get? b = some o ∧ o.data = .dict es n
theorem Eff.solid {g : Heap} {fr : List Addr} {h h' : Heap} (ef : Eff g fr h h') (hf : FrIn X fr h μ) : ∀ a o, h.get? a = some o → Solid X a o → ∃ o', h'.get? a = some o' ∧ LikeO o o' := fun a o e hS => ef.like a o (fun hm => by
  obtain ⟨_, _, o', es, n', e', hd⟩ := hf.all a hm
  rw [e] at e'; cases e'
  exact hS.2.1 _ _ hd) e
theorem Eff.hr {g : Heap} {fr : List Addr} {h h' : Heap} (ef : Eff g fr h h') (hf : FrIn X fr h μ) (R : HR X μ σ h) : HR X μ σ h' where
  len := R.len
  nodup := R.nodup
  fresh := R.fresh
  obj := fun i o a e1 e2 => by
    cases R.obj i o a e1 e2 with
    | list e z r =>
      obtain ⟨o', e', l⟩ := ef.like a _ (fun hm => (hf.all a hm).2.1 (List.mem_of_getElem? e2)) e
      rcases l with rfl | ⟨_, _, q, _⟩
      · exact .list e' z (r.like (ef.solid hf) fun _ _ e => e)
      · cases q
    | dict e z r =>
      obtain ⟨od, es, ep, e, hd, q⟩ := e
      obtain ⟨o', e', l⟩ := ef.like a _ (fun hm => (hf.all a hm).2.1 (List.mem_of_getElem? e2)) e
      rcases l with rfl | ⟨fs, _, q1, _⟩
      · exact .dict ⟨_, es, ep, e', hd, q⟩ z (r.like fun x => x.like (ef.solid hf) fun _ _ e => e)
      · have q2 := q.1; rw [q1] at q2; cases q2
theorem Eff.fr {g : Heap} {fr : List Addr} {h' : Heap} (ef : Eff g fr s.heap h') (hf : FrIn X fr s.heap μ) (hl : env.locals ∈ fr) (F : FR X env cx ρ s.heap μ) : FR X env cx ρ h' μ := { F with
  ns := by
    obtain ⟨m, ⟨o, es, ep, e, hd, rr⟩, hm⟩ := F.ns
    obtain ⟨sl, e'⟩ := ef.fram _ o hl e
    exact ⟨m, ⟨_, es, ep, e', hd, rr⟩, fun x k v h1 h2 h3 => let ⟨u, a, b⟩ := hm x k v h1 h2 h3; ⟨u, a, b.like (ef.solid hf) fun _ _ e => e⟩⟩
  cell := fun x k h1 h2 => by
    obtain ⟨cc, u, a, ⟨o, e, hd⟩, dd⟩ := F.cell x k h1 h2
    obtain ⟨o', e', l⟩ := ef.like cc o (fun hm => by
      obtain ⟨_, _, o'', es, n', e'', hd'⟩ := hf.all cc hm
      rw [e] at e''; cases e''
      rw [hd] at hd'; cases hd') e
    rcases l with rfl | ⟨_, _, q, _⟩
    · exact ⟨cc, u, a, ⟨_, e', hd⟩, fun v hv => let ⟨y, p, q⟩ := dd v hv; ⟨y, p, q.like (ef.solid hf) fun _ _ e => e⟩⟩
    · rw [hd] at q; cases q
  offC := fun x cc h => ⟨(F.offC x cc h).1, (F.offC x cc h).2.1, Nat.lt_of_lt_of_le (F.offC x cc h).2.2 ef.size⟩ }
theorem StepE.eff {fr : List Addr} {h' : Heap} (S : StepE X env s₀ μ₀ s μ σ) (ef : Eff s₀.heap fr s.heap h') (hf : FrIn X fr s.heap μ) (hB : Base X s₀.heap) : StepE X env s₀ μ₀ { s with heap := h' } μ σ where
  pers := fun b hb => S.pers b (by
    cases e : s.heap.get? b with
    | none => rfl
    | some o =>
      by_cases hm : b ∈ fr
      · obtain ⟨sl, e'⟩ := ef.fram b o hm e
        have hb' : h'.get? b = none := hb
        rw [hb'] at e'; cases e'
      · obtain ⟨o', e', _⟩ := ef.like b o hm e
        have hb' : h'.get? b = none := hb
        rw [hb'] at e'; cases e')
  hr := ef.hr hf S.hr
  keep := fun b o hb hO e => by
    obtain ⟨sl, e1, q⟩ := S.keep b o hb hO e
    by_cases hm : b ∈ fr
    · obtain ⟨sl', e2⟩ := ef.fram b _ hm e1
      refine ⟨sl', e2, fun hd => ?_⟩
      obtain ⟨_, _, o', es, n', e', hd'⟩ := hf.all b hm
      rw [e1] at e'; cases e'
      exact absurd hd' (hd _ _)
    · exact ⟨sl, ef.old b _ _ e hm e1, q⟩
  base := ⟨fun b o e => ef.old b o _ (hB.keep b o e) (fun hm => by rw [(hf.all b hm).1] at e; cases e) (S.base.keep b o e), Nat.le_trans S.base.size ef.size, S.base.low⟩
  size := Nat.le_trans S.size ef.size
  ext := S.ext
  gens := S.gens
  os := S.os

theorem FF.eff {g : Heap} {fr : List Addr} {h h' : Heap} (ef : Eff g fr h h') : ∀ {l : List PySem.Env}, (∀ b ∈ l.filterMap (·.frame), b ∈ fr) → FF X h μ l → FF X h' μ l
  | [], _, _ => trivial
  | e :: l, hs, hf => by
    obtain ⟨⟨a, L, o, es, n, k1, k2, k3, k4, k5⟩, hr⟩ := hf
    have hm : ∀ b ∈ (e :: l).filterMap (·.frame), b ∈ fr := hs
    rw [List.filterMap_cons, k1] at hm
    obtain ⟨sl, e'⟩ := ef.fram L o (hm L List.mem_cons_self) k4
    exact ⟨⟨a, L, _, es, n, k1, k2, k3, e', k5⟩, FF.eff ef (fun b hb => hm b (List.mem_cons_of_mem _ hb)) hr⟩

/-- an exception is noted in the frame -/
theorem xs_note {g : Heap} {k : Nat} {e : Value} (c : Cn X A d hn s μ σ) (F : FR X env cx ρ s.heap μ) (ho : FrOk A env) (S : StepE X env s₀ μ₀ s μ σ) (hB : Base X s₀.heap) (hz : g = s₀.heap) (x : XS X env g k e s.heap) {Q : Unit → Shared → Prop} {E : Value → Shared → Prop}
    (h : ∀ s' a, e = .ref a → StepE X env s₀ μ₀ s' μ σ → FR X env cx ρ s'.heap μ → Cn X A d hn s' μ σ → Fly g (.ref (X.ca k)) a (some (rawInt env.locals)) s'.heap → Q () s') : wpAny (Mo X) A (noteFrame e env) Q E s := by
  obtain ⟨hl, outer, hfr, _⟩ := ho
  obtain ⟨fs, e1, hff⟩ := c.fs
  rw [hfr] at e1; cases e1
  obtain ⟨a, fl, rfl, f, hfl⟩ := x
  subst hz
  have hin : FrIn X ((env :: outer).filterMap (·.frame)) s.heap μ := ⟨hff.all⟩
  have hlm : env.locals ∈ (env :: outer).filterMap (·.frame) := List.mem_filterMap.mpr ⟨env, List.mem_cons_self, hl⟩
  refine fly_note hfr hff.fun hl S.size f ?_ fun h' ef f' => ?_
  · rcases hfl with h1 | h1 | ⟨L, h1, h2⟩
    · exact .inl h1
    · exact .inr (.inl h1)
    · rw [hl] at h1; cases h1; exact .inr (.inr h2)
  · have S' := S.eff ef hin hB
    have F' := ef.fr hin hlm F
    exact h _ a rfl S' F' ⟨c.rm, S'.hr, S'.base, ⟨_, hfr, hff.eff ef fun _ h => h⟩, c.scr, fun a h => Nat.lt_of_lt_of_le (c.bad a h) ef.size⟩ f'
/-- where it was noted is written anew -/
theorem xs_set {g : Heap} {k : Nat} {a : Addr} {v : Value} (c : Cn X A d hn s μ σ) (F : FR X env cx ρ s.heap μ) (ho : FrOk A env) (S : StepE X env s₀ μ₀ s μ σ) (hB : Base X s₀.heap) (hz : g = s₀.heap) (x : Fly g (.ref (X.ca k)) a (some v) s.heap) (f : Option Addr) {Q : Unit → Shared → Prop} {E : Value → Shared → Prop}
    (h : ∀ s', StepE X env s₀ μ₀ s' μ σ → FR X env cx ρ s'.heap μ → Cn X A d hn s' μ σ → Fly g (.ref (X.ca k)) a (some (f.elim Value.none fun a => rawInt a)) s'.heap → Q () s') : wpAny (Mo X) A (setFlight (.ref a) f) Q E s := by
  obtain ⟨hl, outer, hfr, _⟩ := ho
  obtain ⟨fs, e1, hff⟩ := c.fs
  rw [hfr] at e1; cases e1
  subst hz
  have hin : FrIn X ((env :: outer).filterMap (·.frame)) s.heap μ := ⟨hff.all⟩
  have hlm : env.locals ∈ (env :: outer).filterMap (·.frame) := List.mem_filterMap.mpr ⟨env, List.mem_cons_self, hl⟩
  refine fly_set x f hff.fun fun h' ef f' => ?_
  have S' := S.eff ef hin hB
  have F' := ef.fr hin hlm F
  exact h _ S' F' ⟨c.rm, S'.hr, S'.base, ⟨_, hfr, hff.eff ef fun _ h => h⟩, c.scr, fun a h => Nat.lt_of_lt_of_le (c.bad a h) ef.size⟩ f'
/-- out of a loop -/
theorem xs_loop {g : Heap} {k : Nat} {e : Value} (c : Cn X A d hn s μ σ) (F : FR X env cx ρ s.heap μ) (ho : FrOk A env) (S : StepE X env s₀ μ₀ s μ σ) (hB : Base X s₀.heap) (hz : g = s₀.heap) (x : XS X env g k e s.heap) {E : Value → Shared → Prop}
    (h : ∀ s', StepE X env s₀ μ₀ s' μ σ → FR X env cx ρ s'.heap μ → XS X env g k e s'.heap → E e s') : notedBy (Mo X) A env (cameBackBy (Mo X) A env E) e s := by
  refine xs_note c F ho S hB hz x fun s₁ a he S1 F1 c1 f1 => ?_
  subst he
  obtain ⟨hn', oe, vs, a0, e1, e2, e3, e4, T, oT, ts, e5, r⟩ := id f1
  refine wpAny_bind (wpAny_field e1 e3 e5 ?_)
  rw [if_neg (by simp)]
  refine xs_set c1 F1 ho S1 hB hz f1 env.frame fun s₂ S2 F2 c2 f2 => ?_
  rw [ho.1] at f2
  exact h s₂ S2 F2 ⟨a, _, rfl, f2, .inr (.inr ⟨_, ho.1, rfl⟩)⟩
/-- out of a frame -/
theorem xs_leave {g : Heap} {k : Nat} {e : Value} (c : Cn X A d hn s μ σ) (F : FR X env cx ρ s.heap μ) (ho : FrOk A env) (S : StepE X env s₀ μ₀ s μ σ) (hB : Base X s₀.heap) (hz : g = s₀.heap) (x : XS X env g k e s.heap) {Q : Unit → Shared → Prop} {E : Value → Shared → Prop}
    (h : ∀ s', StepE X env s₀ μ₀ s' μ σ → XR X g k e s'.heap → Q () s') : wpAny (Mo X) A (leaving env e) Q E s := by
  unfold leaving
  refine wpAny_bind (xs_note c F ho S hB hz x fun s₁ a he S1 F1 c1 f1 => ?_)
  subst he
  exact xs_set c1 F1 ho S1 hB hz f1 none fun s₂ S2 F2 c2 f2 => h s₂ S2 ⟨a, rfl, f2⟩
end
end Mine

set_option maxRecDepth 100000
set_option linter.all false
namespace Mine
open PySem PyProof.Rows PySem.Calls

section
variable {X : W} {A : Around} {d : Nat} {hn : Bool} {s : Shared} {μ : List Addr} {σ : H}

theorem set_plain {l : Addr} {items : Array Value} {n : Nat} {k : Int} {t : Tok} {v : Value} {Q : Unit → Shared → Prop} {E : Value → Shared → Prop} (ho : s.heap.get? l = some { cls := .type "list", data := .seq items n }) (h0 : 0 ≤ k) (hf : k < 2 ^ 63) (hk : k.toNat < items.size)
    (hQ : ∀ h' n', h'.get? l = some { cls := .type "list", data := .seq (items.setIfInBounds k.toNat v) n' } → Heap.SameBut l s.heap h' → Q () { s with heap := h' }) : wpAny (Mo X) A (setItem (.ref l) (.int k t) v) Q E s := by
  have hl : s.heap.IsList l items := ⟨_, ho, rfl, _, rfl⟩
  unfold setItem
  try with_reducible refine wpAny_holding ?_
  first | refine wpAny_bind (wpAny_pure ?_) | skip
  refine wpAny_bind (wpAny_sequenceKey hl.typeIs (by decide) ?_)
  refine wpAny_bind (wpAny_callSpecial?_slot (name := Str.ofString "__setitem__") hl.typeIs PySem.slot_list_setitem (wpAny_call_entry PySem.slot_list_setitem hl.typeIs PySem.entry_list_setitem ?_ (PySem.args_list_setitem _ _ _)))
  show wpAny _ _ (Builtin.List.listSubscript? (.int k t) >>= _) _ _ s
  refine wpAny_bind (wpAny_listSubscript_int (fitsIndex_of h0 hf) ?_)
  clear hf
  obtain ⟨j, rfl⟩ := Int.eq_ofNat_of_zero_le h0
  have hj : j < items.size := by simpa using hk
  show wpAny _ _ ((seqItemAt l j >>= fun r => pure (r.map (j, ·))) >>= _) _ _ s
  refine wpAny_bind (wpAny_bind (wpAny_seqItemAt ho rfl (wpAny_pure ?_)))
  rw [show items[j]? = some items[j] from Array.getElem?_eq_getElem hj]
  show wpAny _ _ (setSeqItemAt l j v >>= _) _ _ s
  have hm : Obj.mapSeq (·.setIfInBounds j v) { cls := .type "list", data := .seq items n } = { cls := .type "list", data := .seq (items.setIfInBounds j v) n } := by
    simp [Obj.mapSeq]
  have hfin := hQ (s.heap.update l (Obj.mapSeq (·.setIfInBounds j v))) n (by rw [Heap.get?_update_self _ ho (by rw [hm]; rfl), hm]; rfl) (Heap.SameBut.update ..)
  refine wpAny_bind (wpAny_setSeqItemAt ho rfl ?_)
  first
    | exact wpAny_bind (wpAny_pure (wpAny_pure ⟨.none, rfl, wpAny_pure hfin⟩))
    | exact wpAny_pure ⟨.none, rfl, wpAny_pure hfin⟩

theorem stored_same (y : Str) (u u' : Value) (es : List (Str × Value)) (hn : y ∉ es.map (·.1)) : stored ((y, u) :: es) y u' = (y, u') :: es := by
  unfold stored
  rw [if_pos (by simp)]
  simp only [List.map_cons, if_true]
  rw [map_store_of_not_mem es y u' hn]
theorem stored_other (y x : Str) (u u' : Value) (es : List (Str × Value)) (hne : y ≠ x) : stored ((y, u) :: es) x u' = (y, u) :: stored es x u' := by
  unfold stored
  simp only [List.any_cons, hne, decide_false, Bool.false_or]
  split
  · simp [hne]
  · rfl
theorem ERs.put {h : Heap} {kvs : List (List Nat × V)} {l : List (Str × Value)} (r : ERs X h μ kvs l) (hn : (l.map (·.1)).Nodup) (x : Str) (hx : x.length ≤ Mine.lim) {v : V} {u : Value} (q : VR X h μ v u) : ERs X h μ (dput kvs (codes x) v) (stored l x u) := by
  obtain ⟨hk, hlm, hv⟩ := r
  induction kvs generalizing l with
  | nil => cases l with
    | nil => exact ⟨rfl, fun p hp => by rw [List.mem_singleton.mp hp]; exact hx, .cons q .nil⟩
    | cons _ _ => cases hk
  | cons p ps ih =>
    cases l with
    | nil => cases hk
    | cons e es =>
      obtain ⟨k, v'⟩ := p
      obtain ⟨y, u'⟩ := e
      rw [List.map_cons, List.nodup_cons] at hn
      rw [List.map_cons, List.map_cons] at hk hv
      injection hk with hk hks
      cases hv with
      | cons hv hvs =>
        rw [dput]
        by_cases hxy : y = x
        · subst hxy
          rw [stored_same _ _ _ _ hn.1, if_pos hk]
          refine ⟨?_, fun p hp => ?_, .cons q hvs⟩
          · rw [List.map_cons, List.map_cons, hks, hk]
          · rcases List.mem_cons.mp hp with rfl | hp
            · exact hx
            · exact hlm p (List.mem_cons_of_mem _ hp)
        · rw [stored_other _ _ _ _ _ hxy, if_neg fun q => hxy (codes_inj (hk.symm.trans q))]
          obtain ⟨i1, i2, i3⟩ := ih hn.2 hks (fun p hp => hlm p (List.mem_cons_of_mem _ hp)) hvs
          refine ⟨?_, fun p hp => ?_, .cons hv i3⟩
          · rw [List.map_cons, List.map_cons, i1]; exact congrArg (· :: _) hk
          · rcases List.mem_cons.mp hp with rfl | hp
            · exact hlm _ List.mem_cons_self
            · exact i2 p hp
theorem dict_nodup {knd : KeyKind X.prog X.w Str} {h : Heap} {a : Addr} {l : List (Str × Value)} (hd : h.DictOf knd a l) : (l.map (·.1)).Nodup := let ⟨_, _, _, _, _, _, _, _, hn⟩ := hd; hn

/-- a dict's entries are stored -/
theorem sm_putD (c : Cn X A d hn s μ σ) {i : Nat} {a : Addr} (hi : μ[i]? = some a) {P : PT Unit} {kvs : List (List Nat × V)} {l l' : List (Str × Value)} (hd : s.heap.DictOf (strKind X.prog X.w) a l) (r : ERs X s.heap μ kvs l')
    (h : ∀ Q E, (∀ h' t, h'.DictOf (strKind X.prog X.w) a l' → Heap.SameBut a s.heap h' → Q () { s with heap := h', toks := t }) → P Q E s) : Sm X P (putD i kvs σ) (fun _ _ _ _ => True) s μ := by
  unfold putD
  split
  · rename_i hz
    refine Sm.ok (a := V.none) fun Q E hQ => h Q E fun h' t hd' hs => ?_
    have hk' : ∀ b o, s.heap.get? b = some o → Solid X b o → h'.get? b = some o := fun b o eb hS => (hs.2 b fun q => by
      obtain ⟨od, _, _, e, hc, _⟩ := hd
      rw [q, e] at eb; cases eb; exact hS.offList (.inr hc.1)).trans eb
    exact hQ _ _ _ (Step.put c (s' := { s with heap := h', toks := t }) hi hs rfl rfl (o := .dict kvs) (.dict hd' (by rw [← r.length]; exact hz) (r.like fun q => q.mono hk' fun _ _ e => e))) trivial
  · exact Sm.stuck
/-- a list's items are stored -/
theorem sm_putL {β : Type} (c : Cn X A d hn s μ σ) {i : Nat} {a : Addr} (hi : μ[i]? = some a) {P : PT β} {xs : List V} {l l' : List Value} {n : Nat} {b : β} {rel : Heap → List Addr → V → β → Prop} (e : s.heap.get? a = some { cls := .type "list", data := .seq (List.toArray l) n }) (r : VRs X s.heap μ xs l') (hb : ∀ h μ, rel h μ .none b)
    (h : l'.length ≤ lim → ∀ Q E, (∀ h' n' t, h'.get? a = some { cls := .type "list", data := .seq (List.toArray l') n' } → Heap.SameBut a s.heap h' → Q b { s with heap := h', toks := t }) → P Q E s) : Sm X P (putL i xs σ) rel s μ := by
  unfold putL
  split
  · rename_i hz
    refine Sm.ok (a := V.none) fun Q E hQ => h (by rw [← r.length]; exact hz) Q E fun h' n' t e' hs => ?_
    have hk' : ∀ b o, s.heap.get? b = some o → Solid X b o → h'.get? b = some o := fun b o eb hS => (hs.2 b fun q => by
      rw [q, e] at eb; cases eb; exact hS.offList (.inl rfl)).trans eb
    exact hQ _ _ _ (Step.put c (s' := { s with heap := h', toks := t }) hi hs rfl rfl (o := .list xs) (.list e' (by rw [← r.length]; exact hz) (r.mono hk' fun _ _ e => e))) (hb _ _)
  · exact Sm.stuck
/-- a store by place or key -/
theorem sm_set (c : Cn X A d hn s μ σ) {x y z : V} {u v w : Value} (hx : VR X s.heap μ x u) (hy : VR X s.heap μ y v) (hz : VR X s.heap μ z w) :
    Sm X (Wp X A (setItem u v w)) (setV x y z σ) (fun _ _ _ _ => True) s μ := by
  cases hx <;> first | exact Sm.stuck | skip
  rename_i i a hi
  cases hy <;> first | exact Sm.stuck | skip
  · rename_i k t
    refine sm_onL c hi fun xs l n ho e r hl => ?_
    split
    · rename_i hk
      have hkl : k.toNat < l.toArray.size := by rw [List.size_toArray, ← r.length]; exact hk.2
      refine sm_putL c hi e (r.set k.toNat hz) (fun _ _ => trivial) fun _ Q E hq => set_plain e hk.1 ?_ hkl fun h' n' e' hs => hq h' n' s.toks (by rw [e']; simp) hs
      have : l.toArray.size ≤ 16777216 := by rw [List.size_toArray]; exact hl
      (first | lia | omega)
    · exact Sm.stuck
  · rename_i x t hx
    exact sm_onD c hi fun kvs l ho hd r hl => sm_putD c hi hd (r.put (dict_nodup hd) x hx hz) fun Q E hq => wpAny_setItem_pairs (hsz := hl) (strKind_is X.prog X.w x t) hd fun h' hd' hs => hq h' _ hd' hs
end
end Mine

set_option maxRecDepth 100000
set_option linter.all false
namespace Mine
open PySem PyProof.Rows PySem.Calls

section
variable {X : W} {A : Around} {d : Nat} {hn : Bool} {s s' s'' s₀ : Shared} {μ μ' μ'' μ₀ : List Addr} {σ σ' σ'' σ₀ : H} {env : PySem.Env} {cx cx' : Cx} {ρ ρ' : Env} {C : Calls} {G : GT} {own : List Addr} {it : It} {J : Addr}

theorem ofE_ok {α : Type} {r : R α} {k : α → H → RS} {a : α} {σ : H} (e : r = .ok a σ) : RS.ofE r ρ k = k a σ := by rw [e]; rfl
theorem ofE_exc {α : Type} {r : R α} {k : α → H → RS} {c : Nat} {σ : H} (e : r = .exc c σ) : RS.ofE r ρ k = .exc c ρ σ := by rw [e]; rfl
theorem ofE_stuck {α : Type} {r : R α} {k : α → H → RS} (e : r = .stuck) : RS.ofE r ρ k = .stuck := by rw [e]; rfl

theorem SmS.bind {α β : Type} {P : PT β} {P2 : β → PT Flow} {m : M α} {k : α → H → RS} {rel : Heap → List Addr → α → β → Prop} (c : Cn X A d hn s μ σ) (F : FR X env cx ρ s.heap μ)
    (h1 : Sm X P (m σ) rel s μ) (h2 : ∀ a σ₁ b s₁ μ₁, Cn X A d hn s₁ μ₁ σ₁ → FR X env cx ρ s₁.heap μ₁ → Step X s μ s₁ μ₁ σ₁ → rel s₁.heap μ₁ a b → SmS X env cx (P2 b) (k a σ₁) s₁ μ₁) :
    SmS X env cx (fun Q E s => P (fun b s₁ => P2 b Q E s₁) E s) (RS.ofE (m σ) ρ k) s μ := by
  intro hne Q E hQ hE
  refine h1 (fun e => hne (ofE_stuck e)) _ _ (fun a σ₁ b s₁ μ₁ e1 S1 r1 => ?_) fun cc σ₁ e s₁ μ₁ e1 S1 x1 => hE cc ρ σ₁ e s₁ μ₁ (ofE_exc e1) S1.e (F.step c.hr S1) x1.s
  have e : RS.ofE (m σ) ρ k = k a σ₁ := ofE_ok e1
  exact h2 a σ₁ b s₁ μ₁ (c.step S1) (F.step c.hr S1) S1 r1 (e ▸ hne) Q E (fun f ρ' σ₂ fl s₂ μ₂ e2 S2 F2 r2 => hQ f ρ' σ₂ fl s₂ μ₂ (e.trans e2) (S1.e.trans S2) F2 r2)
    fun cc ρ' σ₂ y s₂ μ₂ e2 S2 F2 x2 => hE cc ρ' σ₂ y s₂ μ₂ (e.trans e2) (S1.e.trans S2) F2 (x2.le S1.pers)
theorem SmS.ok {P : PT Flow} {f : Fl} (h : ∀ Q E, (∀ fl s' μ', StepE X env s μ s' μ' σ → FR X env cx ρ s'.heap μ' → FlR X s'.heap μ' f fl → Q fl s') → P Q E s) : SmS X env cx P (.ok f ρ σ) s μ :=
  fun _ Q E hQ _ => h Q E fun fl s' μ' S F r => hQ f ρ σ fl s' μ' rfl S F r
theorem SmS.stuck {P : PT Flow} : SmS X env cx P .stuck s μ := fun h => absurd rfl h
theorem Cn.e (c : Cn X A d hn s μ σ) : StepE X env s μ s μ σ := (Step.refl c.hr c.base).e

/-- what the statements do -/
noncomputable def SimS (X : W) (C : Calls) (G : GT) (d : Nat) (hn : Bool) (t : S) : Prop :=
  ∀ (cx : Cx) (st : Stmt), TS G t cx st → ∀ (A : Around) (env : PySem.Env) (ρ : Env) (s : Shared) (μ : List Addr) (σ : H), Cn X A d hn s μ σ → FR X env cx ρ s.heap μ → Lo X env → FrOk A env →
    SmS X env cx (fun Q E s => wpAny (Mo X) A (exec st env) Q E s) (evS X.ns C ρ σ t) s μ
noncomputable def SimSs (X : W) (C : Calls) (G : GT) (d : Nat) (hn : Bool) (ts : List S) : Prop :=
  ∀ (cx : Cx) (sts : List Stmt), TSs G ts cx sts → ∀ (A : Around) (env : PySem.Env) (ρ : Env) (s : Shared) (μ : List Addr) (σ : H), Cn X A d hn s μ σ → FR X env cx ρ s.heap μ → Lo X env → FrOk A env →
    SmS X env cx (fun Q E s => wpAny (Mo X) A (execs sts env) Q E s) (evSs X.ns C ρ σ ts) s μ

theorem sim_nil : SimSs X C G d hn [] := by
  intro cx sts ht A env ρ s μ σ c F lo ho
  have ht : sts = [] := ht
  subst ht
  exact SmS.ok fun Q E hQ => wpAny_execs_nil (hQ _ _ _ c.e F .next)
theorem sim_dead : SimS X C G d hn .dead := by
  intro cx st hT A env ρ s μ σ c F lo ho
  exact SmS.stuck
/-- what comes behind a statement -/
noncomputable def after (ns : List Int) (C : Calls) (ts : List S) : RS → RS
  | .ok .next ρ' σ' => evSs ns C ρ' σ' ts
  | x => x
theorem sim_cons {t : S} {ts : List S} (h1 : SimS X C G d hn t) (h2 : SimSs X C G d hn ts) : SimSs X C G d hn (t :: ts) := by
  intro cx sts hT A env ρ s μ σ c F lo ho
  obtain ⟨st, r, he, e1, e2⟩ := hT
  subst he
  show SmS X env cx _ (after X.ns C ts (evS X.ns C ρ σ t)) s μ
  intro hne Q E hQ hE
  refine wpAny_execs_cons (h1 cx st e1 A env ρ s μ σ c F lo ho (fun e => by rw [e] at hne; exact hne rfl) _ _ (fun f ρ' σ' fl s' μ' e' S' F' r' => ?_) fun cc ρ' σ' y s' μ' e' S' F' x' => ?_)
  · rw [e'] at hne hQ hE
    cases r' with
    | next =>
      exact h2 cx r e2 A env ρ' s' μ' σ' (c.stepE S' F' ho) F' lo ho hne Q E (fun f ρ'' σ'' fl s'' μ'' e'' S'' F'' r'' => hQ f ρ'' σ'' fl s'' μ'' e'' (S'.trans S'') F'' r'') fun cc ρ'' σ'' y s'' μ'' e'' S'' F'' x'' => hE cc ρ'' σ'' y s'' μ'' e'' (S'.trans S'') F'' (x''.le S'.pers)
    | ret r => exact hQ _ ρ' σ' _ s' μ' rfl S' F' (.ret r)
  · rw [e'] at hE
    exact hE cc ρ' σ' y s' μ' rfl S' F' x'

theorem sim_ret {t : E} (hv : SimE X C G d hn t) : SimS X C G d hn (.ret t) := by
  intro cx st hT A env ρ s μ σ c F lo ho
  obtain ⟨v, p, he, h1⟩ := hT
  subst he
  exact (SmS.bind (m := evE X.ns C ρ t) (k := fun v σ' => .ok (.ret v) ρ σ') c F (hv cx v h1 A env ρ s μ σ c F) (P2 := fun u Q E s => Q (.ret u) s) fun v σ₁ u s₁ μ₁ c1 F1 S1 r => SmS.ok fun Q E hQ => hQ _ _ _ c1.e F1 (.ret r)).mono fun Q E h => wpAny_Return_some h
theorem kind_off (F : FR X env cx ρ s.heap μ) : interactive env = false := by
  unfold interactive
  rw [F.kind]; rfl
theorem sim_expr {t : E} (hv : SimE X C G d hn t) : SimS X C G d hn (.expr t) := by
  intro cx st hT A env ρ s μ σ c F lo ho
  obtain ⟨v, p, he, hok, h1⟩ := hT
  subst he
  exact (SmS.bind (m := evE X.ns C ρ t) (k := fun _ σ' => .ok .next ρ σ') c F (hv cx v h1 A env ρ s μ σ c F) (P2 := fun u Q E s => Q .next s) fun v σ₁ u s₁ μ₁ c1 F1 S1 r => SmS.ok fun Q E hQ => hQ _ _ _ c1.e F1 .next).mono fun Q E h => wpAny_Expr_any h (kind_off F) (h1.facts.swap (by cases t <;> first | rfl | cases hok) _ _ _)
theorem sim_setitem {a i t : E} (ha : SimE X C G d hn a) (hi : SimE X C G d hn i) (hv : SimE X C G d hn t) : SimS X C G d hn (.setitem a i t) := by
  intro cx st hT A env ρ s μ σ c F lo ho
  obtain ⟨u, j, sp, v, p, he, h1, h2, h3, hcp⟩ := hT
  subst he
  refine (SmS.bind (m := (evE X.ns C ρ t).bnd fun v => (evE X.ns C ρ a).bnd fun x => (evE X.ns C ρ i).bnd fun k => setV x k v) (k := fun _ σ' => .ok .next ρ σ') c F (rel := fun _ _ _ _ => True) (P := fun Q E s => wpAny (Mo X) A (eval v env) (fun v s₁ => wpAny (Mo X) A (eval u env) (fun ov s₂ => wpAny (Mo X) A (eval j env) (fun iv s₃ => wpAny (Mo X) A (setItem ov iv v) Q E s₃) E s₂) E s₁) E s) ?_ (P2 := fun _ Q E s => Q .next s) fun v σ₁ u s₁ μ₁ c1 F1 S1 r => SmS.ok fun Q E hQ => hQ _ _ _ c1.e F1 .next).mono fun Q E h => wpAny_Assign_Subscript h (h3.facts.swap hcp _ _ _)
  exact Sm.go c F (hv cx v h3 A env ρ s μ σ c F) fun _ _ _ _ _ c1 F1 S1 r1 => Sm.go c1 F1 (ha cx u h1 A env ρ _ _ _ c1 F1) fun _ _ _ _ _ c2 F2 S2 r2 => Sm.go c2 F2 (hi cx j h2 A env ρ _ _ _ c2 F2) fun _ _ _ _ _ c3 F3 S3 r3 => sm_set c3 (S3.vr c2.hr r2) r3 (S3.vr c2.hr (S2.vr c1.hr r1))
theorem sim_ite {q : E} {x y : List S} (ht : SimT X C G d hn q) (ha : SimSs X C G d hn x) (hb : SimSs X C G d hn y) : SimS X C G d hn (.ite q x y) := by
  intro cx st hT A env ρ s μ σ c F lo ho
  obtain ⟨t, a, b, p, he, e1, e2, e3⟩ := hT
  subst he
  have he : evS X.ns C ρ σ (.ite q x y) = RS.ofE ((evE X.ns C ρ q).bnd asB σ) ρ fun b σ' => if b then evSs X.ns C ρ σ' x else evSs X.ns C ρ σ' y := by
    show RS.ofE (evE X.ns C ρ q σ) ρ _ = _
    unfold M.bnd
    rcases evE X.ns C ρ q σ with ⟨v, σ'⟩ | ⟨k, σ'⟩ | _
    · rcases v with _ | b | _ | _ | _ | _ | _ | _ | _ <;> first | rfl | (cases b <;> rfl)
    · rfl
    · rfl
  rw [he]
  refine (SmS.bind c F (ht cx t e1 A env ρ s μ σ c F) (P2 := fun b' Q E s₂ => if b' then wpAny (Mo X) A (execs a env) Q E s₂ else wpAny (Mo X) A (execs b env) Q E s₂) fun b' σ₁ b'' s₁ μ₁ c1 F1 S1 r => ?_).mono fun Q E h => wpAny_If h
  cases r
  cases b' with
  | true => exact ha cx a e2 A env ρ s₁ μ₁ σ₁ c1 F1 lo ho
  | false => exact hb cx b e3 A env ρ s₁ μ₁ σ₁ c1 F1 lo ho
theorem slot_lt (F : FR X env cx ρ s.heap μ) {x : Str} {k : Nat} (h : cx.slot x = some k) : k < ρ.length := by
  rw [F.len]; exact F.bound x k (slot_lk h).1
theorem evS_assign (F : FR X env cx ρ s.heap μ) {x : Str} {k : Nat} (h : cx.slot x = some k) (t : E) : evS X.ns C ρ σ (.assign k t) = RS.ofE (evE X.ns C ρ t σ) ρ fun v σ' => .ok .next (ρ.set k (some v)) σ' := by
  show RS.ofE _ _ _ = _
  exact congrArg (RS.ofE _ ρ) (funext fun v => funext fun σ' => if_pos (slot_lt F h))
theorem assign_plain (c : Cn X A d hn s μ σ) (F : FR X env cx ρ s.heap μ) (lo : Lo X env) {x : Str} {px p : Pos} {v : Expr} {k : Nat} {t : E} (hv : SimE X C G d hn t) (hk : cx.slot x = some k) (h1 : T G t cx v) (hsw : swapsWith v (some (.Name x px)) p.line env = pure false) :
    SmS X env cx (fun Q E s => wpAny (Mo X) A (exec (.Assign [.Name x px] v p) env) Q E s) (RS.ofE (evE X.ns C ρ t σ) ρ fun v σ' => .ok .next (ρ.set k (some v)) σ') s μ :=
  (SmS.bind c F (hv cx v h1 A env ρ s μ σ c F) (P2 := fun u Q E s₁ => wpAny (Mo X) A (storeName env x u) (fun _ => Q .next) E s₁) fun w σ₁ u s₁ μ₁ c1 F1 S1 r =>
    SmS.ok fun Q E hQ => sm_store c1 F1 lo hk r fun s' S' F' _ => hQ _ _ _ S' F' .next).mono fun Q E h => wpAny_Assign_Name h hsw
theorem sim_assign {k : Nat} {t : E} (hv : SimE X C G d hn t) (hc : isComp t = false) : SimS X C G d hn (.assign k t) := by
  intro cx st hT A env ρ s μ σ c F lo ho
  obtain ⟨x, px, v, p, he, hk, h1⟩ := hT
  subst he
  rw [evS_assign F hk]
  exact assign_plain c F lo hv hk h1 (h1.facts.swap hc _ _ _)
theorem sim_assignC (L : Leaf X G C d hn) {k : Nat} {src : Src} {elt : E} {cond : Option E} (hP : SimC X C G d hn src elt cond) : SimS X C G d hn (.assign k (compE src elt cond)) := by
  intro cx st hT A env ρ s μ σ c F lo ho
  obtain ⟨x, px, v, p, he, e1, h1⟩ := hT
  subst he
  rw [evS_assign F e1]
  obtain ⟨y, py, iter, ifs, sc, q, el, cx', rfl, hcx, hpl, h3, h4, h5⟩ := T_comp h1
  have hsw : ∃ b, swapsWith (.ListComp el [⟨.Name y py, iter, ifs, 0⟩] sc q) (some (.Name x px)) p.line env = pure b ∧ (b = true → env.kindOf x = some .local) := by
    refine ⟨_, rfl, fun hb => ?_⟩
    simp only [Bool.and_eq_true, beq_iff_eq] at hb
    exact hb.1.1.2
  obtain ⟨b, hsw, hloc⟩ := hsw
  cases b with
  | false => exact assign_plain c F lo (sim_comp L hP) e1 h1 hsw
  | true =>
    intro hne Q E hQ hE
    rw [exec_Assign_Name_used _ _ _ _ hsw]
    refine wpAny_bind (wpAny_standAt (wpAny_bind ?_))
    show wpAny _ A (do let _ ← comprehension (.ListComp el [⟨.Name y py, iter, ifs, 0⟩] sc q) sc env _ (newList []) false (eval iter env) (some (assign (.Name x px) env))) _ _ s
    refine wpAny_bind (wpAny_mono (comp_core L hP c F hcx hpl h3 h4 h5 (use := some (assign (.Name x px) env)) (Q := fun _ s' => Q .next s') (E := E) (fun e => hne (ofE_stuck e)) ?_ fun k' σ' y' s' μ' e' S' x' => hE k' ρ σ' y' s' μ' (ofE_exc e') S'.e (F.step c.hr S') x'.s) (fun _ s' hq => wpAny_pure (wpAny_pure hq)) fun _ _ e => e)
    intro acc σ' s' μ' D' Cc k' ys m e' S' el r' z' n' d' hCm hD hC hDC
    show wpAny _ A (assign (.Name x px) env (.ref D')) _ _ _
    have eS := S'.adopt c.base d' hD (o := .list acc) (.list (l := ys.toList) (n := k') (by simpa using el) (by rw [← r'.length]; exact z') (r'.mono (fun _ _ e _ => e) ext_get))
    have c1 := c.step eS
    have F1 := F.step c.hr eS
    have hCm' : Cc ∉ μ' ++ [D'] := fun hm => by
      rcases List.mem_append.mp hm with q | q
      · exact hCm q
      · exact hDC (List.mem_singleton.mp q).symm
    refine wpAny_assign_Name (sm_store c1 F1 lo e1 (v := .ref σ'.length) (.ref (by rw [← S'.hr.len, List.getElem?_append_right (Nat.le_refl _)]; simp)) fun s₂ S₂ F₂ _ => ?_)
    have hlc : env.locals ≠ Cc := by
      obtain ⟨m', n', _⟩ := F.ns
      exact Nat.ne_of_lt (Nat.lt_of_lt_of_le n'.lt hC)
    have hOC : ¬ Own env Cc := fun h => by
      rcases h with h | ⟨z, h⟩
      · exact hlc h.symm
      · exact absurd (F.offC z Cc h).2.2 (Nat.not_lt.mpr hC)
    have nC : s₂.heap.Ns Cc m := by
      obtain ⟨o, es, ep, eo, hd, rr⟩ := n'
      obtain ⟨sl, e'', _⟩ := S₂.keep Cc o hCm' hOC eo
      exact ⟨_, es, ep, e'', hd, rr⟩
    refine ⟨m, nC, fun h' hs' => ?_⟩
    have hCm2 : Cc ∉ μ' ++ [D'] := hCm'
    have M1 : Move [Cc] s₂ { s₂ with heap := h' } := ⟨fun b o hb e => (hs'.2 b fun q => hb (by simp [q])).trans e, Nat.le_of_eq hs'.1.symm, rfl, rfl⟩
    have sf := softC (X := X) nC hCm2
    have SE : StepE X env s μ s₂ (μ' ++ [D']) (σ' ++ [.list acc]) := eS.e.trans S₂
    refine hQ .next _ (σ' ++ [.list acc]) .next _ (μ' ++ [D']) (ofE_ok e') ⟨M1.hr sf SE.hr, fun b o hb hO eb => ?_, ⟨fun b o eb => M1.keep b o (fun hm => ?_) (SE.base.keep b o eb), Nat.le_trans SE.base.size M1.size, SE.base.low⟩, Nat.le_trans SE.size M1.size, SE.ext, M1.gens.trans SE.gens, M1.os.trans SE.os, fun b hb => ?_⟩ ?_ .next
    · obtain ⟨sl, e'', q''⟩ := SE.keep b o hb hO eb
      exact ⟨sl, M1.keep b _ (fun hm => absurd (Heap.lt_size eb) (Nat.not_lt.mpr (List.mem_singleton.mp hm ▸ hC))) e'', q''⟩
    · have := Heap.lt_size (c.base.keep b o eb)
      exact absurd this (Nat.not_lt.mpr (List.mem_singleton.mp hm ▸ hC))
    · by_cases q : b = Cc
      · subst q; exact Heap.get?_none_of_le hC
      · exact SE.pers b (by
          cases e : s₂.heap.get? b with
          | none => rfl
          | some o => rw [M1.keep b o (by simpa using q) e] at hb; cases hb)
    · exact { F₂ with
        ns := by
          obtain ⟨mm, n2, hm2⟩ := F₂.ns
          exact ⟨mm, n2.sameBut hs' hlc, fun z j w e1 e2 e3 => let ⟨u, b1, b2⟩ := hm2 z j w e1 e2 e3; ⟨u, b1, M1.vr sf b2⟩⟩
        cell := fun z j e1 e2 => by
          obtain ⟨cc, w, b1, b2, b3⟩ := F₂.cell z j e1 e2
          exact ⟨cc, w, b1, b2.sameBut hs' (fun q => absurd (F.offC z cc b1).2.2 (Nat.not_lt.mpr (q ▸ hC))), fun v' hv' => let ⟨u, d1, d2⟩ := b3 v' hv'; ⟨u, d1, M1.vr sf d2⟩⟩
        offC := fun z cc h => ⟨(F₂.offC z cc h).1, (F₂.offC z cc h).2.1, Nat.lt_of_lt_of_le (F₂.offC z cc h).2.2 M1.size⟩ }
end
end Mine

set_option maxRecDepth 100000
set_option linter.all false
set_option genSizeOf false
set_option genSizeOfSpec false
set_option genInjectivity false
namespace Mine
open PySem PyProof.Rows PySem.Calls

section
variable {X : W} {A : Around} {d : Nat} {hn : Bool} {s s' s'' s₀ : Shared} {μ μ' μ'' μ₀ : List Addr} {σ σ' σ'' σ₀ : H} {env : PySem.Env} {cx cx' : Cx} {ρ ρ' ρ₀ : Env} {C : Calls} {G : GT} {own : List Addr} {it : It} {J : Addr}

theorem StepE.move (S : StepE X env s₀ μ₀ s μ σ) (m : Move own s s') (hp : ∀ b ∈ own, Soft X s.heap μ b) (hnew : ∀ b ∈ own, s₀.heap.objs.size ≤ b) (hB : Base X s₀.heap) : StepE X env s₀ μ₀ s' μ σ where
  hr := m.hr hp S.hr
  keep := fun b o hb hO e => by
    obtain ⟨sl, e1, q⟩ := S.keep b o hb hO e
    exact ⟨sl, m.keep b _ (fun hm => absurd (Heap.lt_size e) (Nat.not_lt.mpr (hnew b hm))) e1, q⟩
  base := ⟨fun b o e => m.keep b o (fun hm => absurd (Heap.lt_size (hB.keep b o e)) (Nat.not_lt.mpr (hnew b hm))) (S.base.keep b o e), Nat.le_trans S.base.size m.size, S.base.low⟩
  size := Nat.le_trans S.size m.size
  ext := S.ext
  gens := m.gens.trans S.gens
  os := m.os.trans S.os
  pers := fun b hb => by
    by_cases q : b ∈ own
    · exact Heap.get?_none_of_le (hnew b q)
    · exact S.pers b (by
        cases e : s.heap.get? b with
        | none => rfl
        | some o => rw [m.keep b o q e] at hb; cases hb)
theorem JR.stepE (j : JR X s.heap μ it J own) (R : HR X μ σ s.heap) (S : StepE X env s μ s' μ' σ') (ho : ∀ b ∈ own, ¬ Own env b) : JR X s'.heap μ' it J own :=
  j.keeps (fun b hb o e => by
    obtain ⟨sl, e1, q⟩ := S.keep b o ((j.priv b hb).off R) (ho b hb) e
    obtain ⟨o', e', _, _, q', _⟩ := j.priv b hb
    rw [e] at e'; cases e'
    rw [q q'] at e1; exact e1) S.get

structure LInv (X : W) (env : PySem.Env) (cx : Cx) (s₀ : Shared) (μ₀ : List Addr) (own : List Addr) (J : Addr) (ok : It → Prop) (n₁ : Nat) (go : Nat → It → Env → H → RS) (r₀ : RS) (n : Nat) (s : Shared) (μ : List Addr) (σ : H) (it : It) (ρ : Env) : Prop where
  step : StepE X env s₀ μ₀ s μ σ
  fr : FR X env cx ρ s.heap μ
  jr : JR X s.heap μ it J own
  go : go n it ρ σ = r₀
  ok : ok it
  big : n₁ ≤ s.heap.objs.size

/-- a for loop -/
theorem for_loop {target : Expr} {body : List Stmt} {tgt : V → Env → Option Env} {bd : Env → H → RS} {r₀ : RS} {n : Nat} {Q : Flow → Shared → Prop} {E : Value → Shared → Prop}
    {n₁ : Nat} (hC : ∀ s μ σ ρ, StepE X env s₀ μ₀ s μ σ → FR X env cx ρ s.heap μ → n₁ ≤ s.heap.objs.size → Cn X A d true s μ σ) (hB₀ : Base X s₀.heap) (hno : ∀ b ∈ own, ¬ Own env b) (ho : FrOk A env) (hne : r₀ ≠ .stuck) (hown : ∀ b ∈ own, s₀.heap.objs.size ≤ b)
    (hasg : ∀ v u ρ ρ' s μ σ, tgt v ρ = some ρ' → Cn X A d true s μ σ → FR X env cx ρ s.heap μ → VR X s.heap μ v u → ∀ (Q : Unit → Shared → Prop) (E : Value → Shared → Prop), (∀ s', StepE X env s μ s' μ σ → FR X env cx ρ' s'.heap μ → Q () s') → wpAny (Mo X) A (assign target env u) Q E s)
    (ok : It → Prop) (hnext : ∀ s μ σ it r, Cn X A d true s μ σ → JR X s.heap μ it J own → ok it → nextIt it σ = some r → (∀ v it', r = some (v, it') → ∃ ρ ρ', tgt v ρ = some ρ') → ∀ Q E, (∀ q s', ItRel X s μ J own r q s' → (∀ v it', r = some (v, it') → ok it') → Q q s') → NextP X A target J Q E s)
    (hbody : ∀ ρ s μ σ, Cn X A d true s μ σ → FR X env cx ρ s.heap μ → SmS X env cx (fun Q E s => wpAny (Mo X) A (execs body env) Q E s) (bd ρ σ) s μ)
    (hQ : ∀ f ρ' σ' fl s' μ', r₀ = .ok f ρ' σ' → StepE X env s₀ μ₀ s' μ' σ' → FR X env cx ρ' s'.heap μ' → FlR X s'.heap μ' f fl → Q fl s')
    (hE : ∀ k ρ' σ' e s' μ', r₀ = .exc k ρ' σ' → StepE X env s₀ μ₀ s' μ' σ' → FR X env cx ρ' s'.heap μ' → XS X env s₀.heap k e s'.heap → E e s')
    (h : LInv X env cx s₀ μ₀ own J ok n₁ (forLoop tgt bd) r₀ n s μ σ it ρ) :
    codeAny (Mo X) A (.forLoop target (.ref J) body [] env) (fun r s' => match r with | .ok f => Q f s' | .error e => cameBackBy (Mo X) A env E e s') s := by
  refine codeAny_forLoop_any (fun n s => ∃ μ σ it ρ, LInv X env cx s₀ μ₀ own J ok n₁ (forLoop tgt bd) r₀ n s μ σ it ρ) ?_ n ⟨μ, σ, it, ρ, h⟩
  clear h
  rintro n s ⟨μ, σ, it, ρ, I⟩
  have c := hC _ _ _ _ I.step I.fr I.big
  have hgo := I.go
  unfold forLoop at hgo
  cases hnxt : nextIt it σ with
  | none => rw [hnxt] at hgo; exact absurd hgo.symm hne
  | some r =>
    have htg : ∀ v it', r = some (v, it') → ∃ ρ ρ', tgt v ρ = some ρ' := fun v it' hv => by
      rw [hnxt, hv] at hgo
      cases n with
      | zero => exact absurd hgo.symm hne
      | succ n =>
        dsimp only at hgo
        cases ht : tgt v ρ with
        | none => rw [ht] at hgo; exact absurd hgo.symm hne
        | some ρ' => exact ⟨ρ, ρ', ht⟩
    refine hnext s μ σ it r c I.jr I.ok hnxt htg (fun q s₁ => match q with
      | none => wpAny (Mo X) A (execs [] env) (fun f s₃ => Q f s₃) (notedBy (Mo X) A env fun e s' => cameBackBy (Mo X) A env E e s') s₁
      | some v => wpAny (Mo X) A (assign target env v) (fun _ s₂ => wpAny (Mo X) A (execs body env) (fun f s₃ => match f with
            | .next | .cont => ∃ m, m < n ∧ ∃ μ σ it ρ, LInv X env cx s₀ μ₀ own J ok n₁ (forLoop tgt bd) r₀ m s₃ μ σ it ρ
            | .brk => Q .next s₃
            | .ret v => Q (.ret v) s₃) (notedBy (Mo X) A env fun e s' => cameBackBy (Mo X) A env E e s') s₂) (notedBy (Mo X) A env fun e s' => cameBackBy (Mo X) A env E e s') s₁) _ fun q s₁ hr hok => ?_
    obtain ⟨M1, hr⟩ := hr
    have soft1 : ∀ b ∈ own, Soft X s.heap μ b := fun b hb => (I.jr.priv b hb).isSoft c.hr
    have S1 := I.step.move M1 soft1 hown hB₀
    have F1 := I.fr.move c.hr M1 I.jr.priv
    rw [hnxt] at hgo
    cases r with
    | none =>
      cases q with
      | some _ => exact hr.elim
      | none => exact wpAny_execs_nil (hQ .next ρ σ .next s₁ μ hgo.symm S1 F1 .next)
    | some p =>
      obtain ⟨v, it'⟩ := p
      cases q with
      | none => exact hr.elim
      | some u =>
        obtain ⟨ru, j1⟩ := hr
        cases n with
        | zero => exact absurd hgo.symm hne
        | succ n =>
          dsimp only at hgo
          cases ht : tgt v ρ with
          | none => rw [ht] at hgo; exact absurd hgo.symm hne
          | some ρ' =>
            rw [ht] at hgo
            dsimp only at hgo
            have b1 := Nat.le_trans I.big M1.size
            have c1 := hC _ _ _ _ S1 F1 b1
            refine hasg v u ρ ρ' s₁ μ σ ht c1 F1 ru _ _ fun s₂ S2 F2 => ?_
            have S02 := S1.trans S2
            have b2 := Nat.le_trans b1 S2.size
            have c2 := hC _ _ _ _ S02 F2 b2
            have j2 := j1.stepE c1.hr S2 hno
            refine hbody ρ' s₂ μ σ c2 F2 (fun e => by rw [e] at hgo; exact hne hgo.symm) _ _ (fun f ρ'' σ'' fl s₃ μ₃ e3 S3 F3 r3 => ?_) fun cc ρ'' σ'' y s₃ μ₃ e3 S3 F3 x3 => (by
              rw [e3] at hgo
              have S03 := S02.trans S3
              exact xs_loop (hC _ _ _ _ S03 F3 (Nat.le_trans b2 S3.size)) F3 ho S03 hB₀ rfl (x3.le S02.pers) fun s₄ S4 F4 x4 => hE cc ρ'' σ'' y s₄ μ₃ hgo.symm S4 F4 x4)
            rw [e3] at hgo
            cases r3 with
            | next => exact ⟨n, Nat.lt_succ_self _, μ₃, σ'', it', ρ'', S02.trans S3, F3, j2.stepE c2.hr S3 hno, hgo, hok v it' rfl, Nat.le_trans b2 S3.size⟩
            | ret r => exact hQ _ ρ'' σ'' _ s₃ μ₃ hgo.symm (S02.trans S3) F3 (.ret r)

/-- what is newer than a frame is none of its places -/
theorem own_new (F : FR X env cx ρ s.heap μ) (h : ∀ b ∈ own, s.heap.objs.size ≤ b) : ∀ b ∈ own, ¬ Own env b := fun b hb q => by
  have h1 := h b hb
  rcases q with rfl | ⟨x, q⟩
  · obtain ⟨m, n', _⟩ := F.ns
    exact absurd n'.lt (Nat.not_lt.mpr h1)
  · exact absurd (F.offC x b q).2.2 (Nat.not_lt.mpr h1)
theorem hn_of (L : Leaf X G C d hn) (h : C.hn = true) : hn = true := by rw [← L.eqn]; exact h
theorem sim_forN {k : Nat} {src : Src} {tb : List S} (L : Leaf X G C d hn) (hI : SimI X C G d hn src) (hB : SimSs X C G d hn tb) : SimS X C G d hn (.forN k src tb) := by
  intro cx st hT A env ρ s μ σ c F lo ho
  obtain ⟨x, px, iter, body, p, he, hk, hpl, h3, h4⟩ := hT
  subst he
  show SmS X env cx _ (RS.ofE (evSrc X.ns C ρ src σ) ρ fun q σ' => if C.hn then (forLoop (tgtN k) (fun ρ σ => evSs X.ns C ρ σ tb) q.2 q.1 ρ σ') else .stuck) s μ
  intro hne Q E hQ hE
  refine wpAny_For ?_ (src_fold h3 env)
  refine hI cx iter hpl h3 A env ρ s μ σ c F (fun e => hne (ofE_stuck e)) _ _ (fun pr σ₁ u s₁ μ₁ e1 S1 i1 => ?_) fun k σ₁ y s₁ μ₁ e1 S1 xr => hE k ρ σ₁ y s₁ μ₁ (ofE_exc e1) S1.e (F.step c.hr S1) xr.s
  have eq1 := ofE_ok (ρ := ρ) (k := fun (q : It × Nat) σ' => if C.hn then (forLoop (tgtN k) (fun ρ σ => evSs X.ns C ρ σ tb) q.2 q.1 ρ σ') else .stuck) e1
  rw [eq1] at hne hQ hE
  cases hhn : C.hn with
  | false => rw [hhn] at hne; exact absurd rfl hne
  | true =>
    cases hn_of L hhn
    rw [hhn] at hne hQ hE
    refine sm_iter (c.step S1) S1.size i1 fun J own s₂ hpi j2 S2 hown => ?_
    have S02 := S1.trans S2
    refine for_loop (s₀ := s) (μ₀ := μ) (own := own) (it := pr.1) (n := pr.2) (ρ := ρ) (n₁ := 0) (fun _ _ _ _ S F _ => c.stepE S F ho) c.base (own_new F hown) ho hne hown (fun v u ρ ρ' s μ σ et c F r Q E h => ?_) (fun it => plainIt it = true) (fun s μ σ it r c j hp hr _ Q E h => ?_) (fun ρ s μ σ c F => hB cx body h4 A env ρ s μ σ c F lo ho) hQ hE ⟨S02.e, F.step c.hr S02, j2, rfl, hpi, Nat.zero_le _⟩
    · unfold tgtN at et
      split at et
      · cases et
        exact wpAny_assign_Name (sm_store c F lo hk r fun s' a b _ => h s' a b)
      · cases et
    · refine sm_next c j hp hr fun q s' hq => ?_
      have := h q s' hq fun v it' e => next_plain (by rw [hr, e]) hp
      cases q with
      | none => exact this
      | some v => exact wpAny_pure this

/-- a pair is taken apart -/
theorem tgtP_some {k k' : Nat} {v : V} {ρ' : Env} (h : tgtP k k' v ρ = some ρ') : ∃ a b, v = .tup [a, b] ∧ ρ' = (ρ.set k (some a)).set k' (some b) := by
  cases v <;> first | (cases h; done) | skip
  rename_i vs
  match vs, h with
  | [a, b], h =>
    have h : (if k < ρ.length ∧ k' < ρ.length then some ((ρ.set k (some a)).set k' (some b)) else none) = some ρ' := h
    split at h
    · exact ⟨a, b, rfl, (Option.some.inj h).symm⟩
    · cases h
theorem pair_inv {h : Heap} {a b : V} {u : Value} (r : VR X h μ (.tup [a, b]) u) : ∃ t u1 u2 n, u = .ref t ∧ h.get? t = some { cls := .type "tuple", data := .seq #[u1, u2] n } ∧ VR X h μ a u1 ∧ VR X h μ b u2 := by
  cases r with
  | @tup _ t l n e hb hz rs =>
    cases rs with
    | cons r1 rs =>
      cases rs with
      | cons r2 rs =>
        cases rs
        exact ⟨t, _, _, n, rfl, e, r1, r2⟩
theorem pair_assign {x y : Str} {px py tp : Pos} {tk : Nat} {k k' : Nat} {v : V} {u : Value} {ρ' : Env} (c : Cn X A d true s μ σ) (F : FR X env cx ρ s.heap μ) (lo : Lo X env) (ho : FrOk A env) (hk : cx.slot x = some k) (hk' : cx.slot y = some k') (et : tgtP k k' v ρ = some ρ') (r : VR X s.heap μ v u)
    {Q : Unit → Shared → Prop} {E : Value → Shared → Prop} (h : ∀ s', StepE X env s μ s' μ σ → FR X env cx ρ' s'.heap μ → Q () s') : wpAny (Mo X) A (assign (.Tuple [.Name x px, .Name y py] tk tp) env u) Q E s := by
  obtain ⟨a, b, rfl, rfl⟩ := tgtP_some et
  obtain ⟨t, u1, u2, n, rfl, e, r1, r2⟩ := pair_inv r
  have ht : s.heap.IsTuple t #[u1, u2] := ⟨_, e, rfl, _, rfl⟩
  rw [arm_assign_Tuple]
  refine wpAny_bind (wpAny_standAt ?_)
  unfold unpack
  refine wpAny_bind (wpAny_holding (sized (wpAny_unpackItems_tuple (items := #[u1, u2]) (c.rm.handled rfl) ht fun h' he hz' => ?_)))
  have S1 : Step X s μ { s with heap := h' } μ σ := Step.grow c (fun b o e => he b o (Nat.ne_of_lt (Heap.lt_size e)) e) hz' rfl rfl
  have c1 := c.step S1
  have F1 := F.step c.hr S1
  show wpAny _ A (do holding [u2] (assign (.Name x px) env u1); do holding [] (assign (.Name y py) env u2); pure ()) _ _ _
  refine wpAny_bind (wpAny_holding (wpAny_assign_Name (sm_store c1 F1 lo hk (S1.vr c.hr r1) fun s₂ S2 F2 k2 => ?_)))
  have c2 := c1.stepE S2 F2 ho
  refine wpAny_bind (wpAny_holding (wpAny_assign_Name (sm_store c2 F2 lo hk' (k2 (S1.vr c.hr r2)) fun s₃ S3 F3 _ => wpAny_pure ?_)))
  exact h s₃ ((S1.e.trans S2).trans S3) F3
end
end Mine

set_option maxRecDepth 100000
set_option linter.all false
namespace Mine
open PySem PyProof.Rows PySem.Calls

/-- the same world, with other tuples kept back -/
noncomputable def W.wb (X : W) (b : Addr → Prop) : W := { X with bad := b }

section
variable {X : W} {A : Around} {d : Nat} {hn : Bool} {s s' s'' s₀ : Shared} {μ μ' μ'' μ₀ : List Addr} {σ σ' σ'' σ₀ : H} {env : PySem.Env} {cx cx' : Cx} {ρ ρ' ρ₀ : Env} {C : Calls} {G : GT} {own : List Addr} {it : It} {J : Addr} {b : Addr → Prop}

mutual
theorem VR.wb {h : Heap} (hb : ∀ a o, h.get? a = some o → ¬ X.bad a → ¬ b a) : ∀ {v : V} {u : Value}, VR X h μ v u → VR (X.wb b) h μ v u
  | _, _, .none => .none
  | _, _, .bool b => .bool b
  | _, _, .int i t => .int i t
  | _, _, .str x t z => .str x t z
  | _, _, .ref e => .ref e
  | _, _, .tup e q z r => .tup e (hb _ _ e q) z (VRs.wb hb r)
  | _, _, .inst e m => .inst e m
  | _, _, .exc e c d => .exc e c d
  | _, _, .scr => .scr
theorem VRs.wb {h : Heap} (hb : ∀ a o, h.get? a = some o → ¬ X.bad a → ¬ b a) : ∀ {v : List V} {u : List Value}, VRs X h μ v u → VRs (X.wb b) h μ v u
  | _, _, .nil => .nil
  | _, _, .cons x y => .cons (VR.wb hb x) (VRs.wb hb y)
end
theorem HR.wb {h : Heap} (hb : ∀ a o, h.get? a = some o → ¬ X.bad a → ¬ b a) (R : HR X μ σ h) : HR (X.wb b) μ σ h where
  len := R.len
  nodup := R.nodup
  fresh := R.fresh
  obj := fun i o a e1 e2 => by
    cases R.obj i o a e1 e2 with
    | list e z r => exact .list e z (r.wb hb)
    | dict e z r => exact .dict e z ⟨r.keys, r.lim, r.vals.wb hb⟩
theorem FR.wb (hb : ∀ a o, s.heap.get? a = some o → ¬ X.bad a → ¬ b a) (F : FR X env cx ρ s.heap μ) : FR (X.wb b) env cx ρ s.heap μ := { F with
  ns := let ⟨m, n, h⟩ := F.ns; ⟨m, n, fun x k v h1 h2 h3 => let ⟨u, a, r⟩ := h x k v h1 h2 h3; ⟨u, a, r.wb hb⟩⟩
  cell := fun x k h1 h2 => let ⟨c, u, a, i, r⟩ := F.cell x k h1 h2; ⟨c, u, a, i, fun v hv => let ⟨y, p, q⟩ := r v hv; ⟨y, p, q.wb hb⟩⟩ }
theorem FF.wb {h : Heap} : ∀ {l : List PySem.Env}, FF X h μ l → FF (X.wb b) h μ l
  | [], _ => trivial
  | _ :: _, ⟨h1, h2⟩ => ⟨h1, FF.wb h2⟩
theorem Base.wb {h : Heap} (B : Base X h) : Base (X.wb b) h := ⟨B.keep, B.size, B.low⟩
theorem StepE.wb (hb : ∀ a o, s'.heap.get? a = some o → ¬ X.bad a → ¬ b a) (S : StepE X env s μ s' μ' σ') : StepE (X.wb b) env s μ s' μ' σ' := ⟨S.hr.wb hb, S.keep, S.base.wb, S.size, S.ext, S.gens, S.os, S.pers⟩
theorem Step.wb (hb : ∀ a o, s'.heap.get? a = some o → ¬ X.bad a → ¬ b a) (S : Step X s μ s' μ' σ') : Step (X.wb b) s μ s' μ' σ' := ⟨S.hr.wb hb, S.keep, S.base.wb, S.size, S.ext, S.gens, S.os⟩
theorem FlR.wb {h : Heap} {f : Fl} {fl : Flow} (hb : ∀ a o, h.get? a = some o → ¬ X.bad a → ¬ b a) (r : FlR X h μ f fl) : FlR (X.wb b) h μ f fl := by
  cases r with
  | next => exact .next
  | ret r => exact .ret (r.wb hb)

/-- a loop by pairs, once its iterator is there -/
theorem forP_run {x y : Str} {px py tp : Pos} {tk : Nat} {k k' : Nat} {body : List Stmt} {tb : List S} {n n₁ : Nat} {Q : Flow → Shared → Prop} {E : Value → Shared → Prop} (hk : cx.slot x = some k) (hk' : cx.slot y = some k') (h4 : TSs G tb cx body) (hB : SimSs X C G d true tb) (lo : Lo X env) (ho : FrOk A env)
    (hC : ∀ s μ σ ρ, StepE X env s₀ μ₀ s μ σ → FR X env cx ρ s.heap μ → n₁ ≤ s.heap.objs.size → Cn X A d true s μ σ) (hB₀ : Base X s₀.heap) (hno : ∀ b ∈ own, ¬ Own env b) (hown : ∀ b ∈ own, s₀.heap.objs.size ≤ b)
    (hne : forLoop (tgtP k k') (fun ρ σ => evSs X.ns C ρ σ tb) n it ρ σ ≠ .stuck)
    (hQ : ∀ f ρ' σ' fl s' μ', forLoop (tgtP k k') (fun ρ σ => evSs X.ns C ρ σ tb) n it ρ σ = .ok f ρ' σ' → StepE X env s₀ μ₀ s' μ' σ' → FR X env cx ρ' s'.heap μ' → FlR X s'.heap μ' f fl → Q fl s')
    (hE : ∀ c ρ' σ' e s' μ', forLoop (tgtP k k') (fun ρ σ => evSs X.ns C ρ σ tb) n it ρ σ = .exc c ρ' σ' → StepE X env s₀ μ₀ s' μ' σ' → FR X env cx ρ' s'.heap μ' → XS X env s₀.heap c e s'.heap → E e s')
    (S : StepE X env s₀ μ₀ s μ σ) (F : FR X env cx ρ s.heap μ) (j : JR X s.heap μ it J own) (hn₁ : n₁ ≤ s.heap.objs.size) :
    codeAny (Mo X) A (.forLoop (.Tuple [.Name x px, .Name y py] tk tp) (.ref J) body [] env) (fun r s' => match r with | .ok f => Q f s' | .error e => cameBackBy (Mo X) A env E e s') s := by
  refine for_loop (n := n) (n₁ := n₁) hC hB₀ hno ho hne hown (fun v u ρ ρ' s μ σ et c F r Q E h => pair_assign c F lo ho hk hk' et r h) (fun _ => True) (fun s μ σ it r c j _ hr ht Q E h => sm_nextP c j hr (fun v it' e => ?_) fun q s' hq => h q s' hq fun _ _ _ => trivial) (fun ρ s μ σ c F => hB cx body h4 A env ρ s μ σ c F lo ho) hQ hE ⟨S, F, j, rfl, trivial, hn₁⟩
  obtain ⟨ρ, ρ', et⟩ := ht v it' e
  obtain ⟨a, b, rfl, _⟩ := tgtP_some et
  exact ⟨_, rfl⟩

theorem sim_forP {k k' : Nat} {src : Src} {tb : List S} (L : Leaf X G C d hn) (hP : Parts X C G d hn src) (hB : ∀ b, SimSs (X.wb b) C G d hn tb) : SimS X C G d hn (.forP k k' src tb) := by
  intro cx st hT A env ρ s μ σ c F lo ho
  obtain ⟨x, px, y, py, tk, tp, iter, body, p, he, hk, hk', h3, h4⟩ := hT
  subst he
  show SmS X env cx _ (RS.ofE (evSrc X.ns C ρ src σ) ρ fun q σ' => if C.hn then (forLoop (tgtP k k') (fun ρ σ => evSs X.ns C ρ σ tb) q.2 q.1 ρ σ') else .stuck) s μ
  intro hne Q E hQ hE
  refine wpAny_For ?_ (src_fold h3 env)
  -- what follows once the source has its answer
  have go : ∀ (pr : It × Nat) σ₁ s₁ μ₁ s₂ J own, evSrc X.ns C ρ src σ = .ok pr σ₁ → Step X s μ s₁ μ₁ σ₁ → Step X s μ s₂ μ₁ σ₁ → JR X s₂.heap μ₁ pr.1 J own → (∀ b ∈ own, s.heap.objs.size ≤ b) →
      codeAny (Mo X) A (.forLoop (.Tuple [.Name x px, .Name y py] tk tp) (.ref J) body [] env) (fun r s' => match r with | .ok f => Q f s' | .error e => cameBackBy (Mo X) A env E e s') s₂ := by
    intro pr σ₁ s₁ μ₁ s₂ J own e1 _ S2 j hown
    have eq1 := ofE_ok (ρ := ρ) (k := fun (q : It × Nat) σ' => if C.hn then (forLoop (tgtP k k') (fun ρ σ => evSs X.ns C ρ σ tb) q.2 q.1 ρ σ') else .stuck) e1
    rw [eq1] at hne hQ hE
    cases hhn : C.hn with
    | false => rw [hhn] at hne; exact absurd rfl hne
    | true =>
      cases hn_of L hhn
      rw [hhn] at hne hQ hE
      exact forP_run (n₁ := 0) hk hk' h4 (hB X.bad) lo ho (fun _ _ _ _ S F _ => c.stepE S F ho) c.base (own_new F hown) hown hne hQ hE S2.e (F.step c.hr S2) j (Nat.zero_le _)
  cases hps : plainSrc src with
  | true =>
    refine hP.i L cx iter hps h3 A env ρ s μ σ c F (fun e => hne (ofE_stuck e)) _ _ (fun pr σ₁ u s₁ μ₁ e1 S1 i1 => ?_) fun k σ₁ y s₁ μ₁ e1 S1 xr => hE k ρ σ₁ y s₁ μ₁ (ofE_exc e1) S1.e (F.step c.hr S1) xr.s
    exact sm_iter (c.step S1) S1.size i1 fun J own s₂ _ j2 S2 hown => go pr σ₁ s₁ μ₁ s₂ J own e1 S1 (S1.trans S2) j2 hown
  | false =>
    cases src with
    | of t => cases hps
    | range t => cases hps
    | enum t =>
      obtain ⟨q, z, p', he, hg, h1⟩ := h3
      subst he
      refine call_bi1 (fv := .type "enumerate") L c F hg (by decide +kernel) rfl h1 ?_
      have hst : evE X.ns C ρ t σ ≠ .stuck := fun e => hne (ofE_stuck (bnd_stuck e))
      refine hP cx z h1 A env ρ s μ σ c F hst _ _ (fun v σ₁ u s₁ μ₁ e1 S1 r1 => ?_) fun k σ₁ y s₁ μ₁ e1 S1 xr => hE k ρ σ₁ y s₁ μ₁ (ofE_exc (bnd_exc e1)) S1.e (F.step c.hr S1) xr.s
      have c1 := c.step S1
      cases hl : listN v σ₁ with
      | none => exact absurd (ofE_stuck ((bnd_ok e1).trans (by show pick ((listN v σ₁).map _) σ₁ = _; rw [hl]; rfl))) hne
      | some pr =>
        have e2 : evSrc X.ns C ρ (.enum t) σ = .ok (.enum pr.1 0, pr.2) σ₁ := (bnd_ok e1).trans (by show pick ((listN v σ₁).map _) σ₁ = _; rw [hl]; rfl)
        obtain ⟨a, l, n, rfl, hm, e⟩ := listN_at c1 hl r1
        have Lh : s₁.heap.IsList a l.toArray := ⟨_, e, rfl, _, rfl⟩
        refine call_enumerate_list Lh fun h' q1 q2 q3 q4 => ?_
        have S2 : Step X s₁ μ₁ { s₁ with heap := h' } μ₁ σ₁ := Step.grow c1 q4 (by show _ ≤ h'.objs.size; rw [q3]; exact Nat.le_add_right _ _) rfl rfl
        refine wpAny_pyIter_enum q1 (go _ σ₁ s₁ μ₁ _ _ [s₁.heap.objs.size + 1, s₁.heap.objs.size] e2 S1 (S1.trans S2) (.enum hm (Nat.succ_ne_self _) q1 q2) ?_)
        exact priv_all ⟨Nat.le_trans S1.size (Nat.le_succ _), S1.size, trivial⟩
    | zip ta tb' =>
      obtain ⟨q, z, z', p', he, hg, h1, h2⟩ := h3
      subst he
      have hts : Ts G [ta, tb'] cx [z, z'] := ⟨z, [z'], rfl, h1, z', [], rfl, h2, rfl⟩
      refine call_bi (fv := .type "zip") L c F hg (by decide +kernel) rfl hts ?_
      refine args_cons ?_ (h1.facts.star _ _)
      have hst : evE X.ns C ρ ta σ ≠ .stuck := fun e => hne (ofE_stuck (bnd_stuck e))
      refine hP.1 cx z h1 A env ρ s μ σ c F hst _ _ (fun v σ₁ u s₁ μ₁ e1 S1 r1 => ?_) fun k σ₁ y s₁ μ₁ e1 S1 xr => hE k ρ σ₁ y s₁ μ₁ (ofE_exc (bnd_exc e1)) S1.e (F.step c.hr S1) xr.s
      have c1 := c.step S1
      have F1 := F.step c.hr S1
      refine args_cons ?_ (h2.facts.star _ _)
      have hst2 : evE X.ns C ρ tb' σ₁ ≠ .stuck := fun e => hne (ofE_stuck ((bnd_ok e1).trans (bnd_stuck e)))
      refine hP.2 cx z' h2 A env ρ s₁ μ₁ σ₁ c1 F1 hst2 _ _ (fun w σ₂ u' s₂ μ₂ e2 S2 r2 => ?_) fun k σ₂ y s₂ μ₂ e2 S2 xr => hE k ρ σ₂ y s₂ μ₂ (ofE_exc ((bnd_ok e1).trans (bnd_exc e2))) (S1.trans S2).e (F1.step c1.hr S2) (xr.le S1.pers).s
      refine args_nil ?_
      have c2 := c1.step S2
      have F2 := F1.step c1.hr S2
      cases hl : listN v σ₂ with
      | none => exact absurd (ofE_stuck ((bnd_ok e1).trans ((bnd_ok e2).trans (by show pick ((listN v σ₂).bind _) σ₂ = _; rw [hl]; rfl)))) hne
      | some pr =>
        cases hl' : listN w σ₂ with
        | none => exact absurd (ofE_stuck ((bnd_ok e1).trans ((bnd_ok e2).trans (by show pick ((listN v σ₂).bind fun p => (listN w σ₂).map _) σ₂ = _; rw [hl, hl']; rfl)))) hne
        | some pr' =>
          have e3 : evSrc X.ns C ρ (.zip ta tb') σ = .ok (.zip pr.1 pr'.1 0, pr.2) σ₂ := (bnd_ok e1).trans ((bnd_ok e2).trans (by show pick ((listN v σ₂).bind fun p => (listN w σ₂).map _) σ₂ = _; rw [hl, hl']; rfl))
          obtain ⟨a, l, n, rfl, hm, e⟩ := listN_at c2 hl (S2.vr c1.hr r1)
          obtain ⟨a', l', n', rfl, hm', e'⟩ := listN_at c2 hl' r2
          have Lh : s₂.heap.IsList a l.toArray := ⟨_, e, rfl, _, rfl⟩
          have Lh' : s₂.heap.IsList a' l'.toArray := ⟨_, e', rfl, _, rfl⟩
          have S02 := S1.trans S2
          refine call_zip_2 Lh Lh' fun h' q1 q2 q3 q4 q5 q6 q7 => wpAny_pyIter_zip q1 ?_
          have eq1 := ofE_ok (ρ := ρ) (k := fun (q : It × Nat) σ' => if C.hn then (forLoop (tgtP k k') (fun ρ σ => evSs X.ns C ρ σ tb) q.2 q.1 ρ σ') else .stuck) e3
          rw [eq1] at hne hQ hE
          cases hhn : C.hn with
          | false => rw [hhn] at hne; exact absurd rfl hne
          | true =>
            cases hn_of L hhn
            rw [hhn] at hne hQ hE
            have hz : s₂.heap.objs.size ≤ h'.objs.size := by rw [q6]; exact Nat.le_add_right _ _
            have S3 : Step X s₂ μ₂ { s₂ with heap := h' } μ₂ σ₂ := Step.grow c2 q7 hz rfl rfl
            let b : Addr → Prop := fun t => X.bad t ∨ t = s₂.heap.objs.size + 2 ∨ t = s₂.heap.objs.size + 3
            have hb0 : ∀ t o, s₂.heap.get? t = some o → ¬ X.bad t → ¬ b t := fun t o et hx q => by
              have := Heap.lt_size et
              rcases q with q | q | q
              · exact hx q
              · subst q; exact absurd this (Nat.not_lt.mpr (Nat.le_add_right _ _))
              · subst q; exact absurd this (Nat.not_lt.mpr (Nat.le_add_right _ _))
            have R0 : HR (X.wb b) μ₂ σ₂ s₂.heap := c2.hr.wb hb0
            have S3' : Step (X.wb b) s₂ μ₂ { s₂ with heap := h' } μ₂ σ₂ := ⟨R0.keeps q7, S3.keep, S3.base.wb, S3.size, S3.ext, S3.gens, S3.os⟩
            have F3 : FR (X.wb b) env cx ρ h' μ₂ := FR.step (s' := { s₂ with heap := h' }) (FR.wb hb0 F2) R0 S3'
            have back : ∀ (h : Heap) t o, h.get? t = some o → ¬ (X.wb b).bad t → ¬ X.bad t := fun _ t o _ hx q => hx (.inl q)
            have hlt : ∀ {t : Addr} {o : Obj}, s₂.heap.get? t = some o → t < s₂.heap.objs.size := fun e => Heap.lt_size e
            have D : ZipApart (s₂.heap.objs.size + 4) (s₂.heap.objs.size + 2) (s₂.heap.objs.size + 3) s₂.heap.objs.size (s₂.heap.objs.size + 1) a a' := by
              have ne : ∀ i j : Nat, i ≠ j → s₂.heap.objs.size + i ≠ s₂.heap.objs.size + j := fun i j h q => h (Nat.add_left_cancel q)
              have lt : ∀ {t : Nat}, t < s₂.heap.objs.size → ∀ i, t ≠ s₂.heap.objs.size + i := fun h i => Nat.ne_of_lt (Nat.lt_of_lt_of_le h (Nat.le_add_right _ _))
              have k1 := lt (hlt e)
              have k2 := lt (hlt e')
              exact ⟨ne 2 4 (by decide), ne 3 4 (by decide), ne 0 4 (by decide), ne 1 4 (by decide), ne 2 3 (by decide), ne 2 0 (by decide), ne 2 1 (by decide), ne 3 0 (by decide), ne 3 1 (by decide), ne 0 1 (by decide), k1 4, k1 3, k1 0, k1 1, k2 4, k2 3, k2 0, k2 1⟩
            have lo' : Lo (X.wb b) env := ⟨lo.l, lo.c⟩
            have Ssz := S02.size
            refine forP_run (X := X.wb b) (s₀ := s₂) (μ₀ := μ₂) (own := [s₂.heap.objs.size + 4, s₂.heap.objs.size + 2, s₂.heap.objs.size + 3, s₂.heap.objs.size, s₂.heap.objs.size + 1]) (n₁ := h'.objs.size) hk hk' h4 (hB b) lo' ho ?_ c2.base.wb ?_ ?_ hne
              (fun f ρ' σ' fl s' μ' e' S' F' r' => hQ f ρ' σ' fl s' μ' e' (S02.e.trans (StepE.wb (X := X.wb b) (b := X.bad) (back _) S')) (FR.wb (X := X.wb b) (b := X.bad) (back _) F') (FlR.wb (X := X.wb b) (b := X.bad) (back _) r'))
              (fun cc ρ' σ' y s' μ' e' S' F' x' => hE cc ρ' σ' y s' μ' e' (S02.e.trans (StepE.wb (X := X.wb b) (b := X.bad) (back _) S')) (FR.wb (X := X.wb b) (b := X.bad) (back _) F') (XS.le (X := X) x' S02.pers)) S3'.e F3 (.zip hm hm' D (.inr (.inl rfl)) (.inr (.inr rfl)) q1 q2 q3 q4 q5) (Nat.le_refl _)
            · intro s' μ' σ' ρ' S' F' hbig
              have cX := c2.stepE (StepE.wb (X := X.wb b) (b := X.bad) (back _) S') (FR.wb (X := X.wb b) (b := X.bad) (back _) F') ho
              refine ⟨cX.rm, S'.hr, S'.base, (let ⟨fs, e, f⟩ := cX.fs; ⟨fs, e, f.wb⟩), cX.scr, fun t ht => ?_⟩
              rcases ht with q | q | q
              · exact cX.bad t q
              · rw [q]; exact Nat.lt_of_lt_of_le (by rw [q6]; exact Nat.add_lt_add_left (by decide) _) hbig
              · rw [q]; exact Nat.lt_of_lt_of_le (by rw [q6]; exact Nat.add_lt_add_left (by decide) _) hbig
            · exact own_new F2 (priv_all ⟨Nat.le_add_right _ _, Nat.le_add_right _ _, Nat.le_add_right _ _, Nat.le_refl _, Nat.le_add_right _ _, trivial⟩)
            · exact priv_all ⟨Nat.le_add_right _ _, Nat.le_add_right _ _, Nat.le_add_right _ _, Nat.le_refl _, Nat.le_add_right _ _, trivial⟩
end
end Mine

set_option maxRecDepth 100000
set_option linter.all false
set_option genSizeOf false
set_option genSizeOfSpec false
set_option genInjectivity false
namespace Mine
open PySem PyProof.Rows PySem.Calls

/-! exceptions -/
noncomputable def bmV : List Value := [.type "ValueError", .type "Exception", .type "BaseException", .type "object"]
/-- an exception's class of the text -/
structure ClsAt (X : W) (c : Nat) (bm : List Value) : Prop where
  obj : ∃ N nm q bs hdct sn sub ab col dd k0 k1 k2 k3 k5 mN, X.h₀.get? (X.ca c) = some (excClassObj nm q (X.ca c) N bs bm hdct sn sub ab col dd k0 k1 k2 k3 k5 "ValueError.__new__") ∧ X.h₀.Ns N mN ∧ mN "__init__" = none ∧ OwnTail X.h₀ bmV bm
/-- which classes are raised, and what is above them -/
structure SLeaf (X : W) (G : GT) (sub : Nat → Nat → Bool) : Prop where
  cls : ∀ c, ∃ bm, ClsAt X c bm ∧ ∀ c', c' < G.cls.length → sub c c' = (Value.ref (X.ca c) :: bm).contains (.ref (X.ca c'))

section
variable {X : W} {A : Around} {d : Nat} {hn : Bool} {s s' s'' s₀ : Shared} {μ μ' μ'' μ₀ : List Addr} {σ σ' σ'' σ₀ : H} {env : PySem.Env} {cx cx' : Cx} {ρ ρ' ρ₀ : Env} {C : Calls} {G : GT} {own : List Addr} {it : It} {J : Addr}

/-- a heap that has grown -/
theorem Step.more (S : Step X s μ s' μ' σ') (hB : Base X s.heap) {h' : Heap} (k : ∀ b o, s'.heap.get? b = some o → h'.get? b = some o) (z : s.heap.objs.size ≤ h'.objs.size) : Step X s μ { s' with heap := h' } μ' σ' where
  hr := S.hr.keeps k
  keep := fun b o hb e => let ⟨sl, e1, q⟩ := S.keep b o hb e; ⟨sl, k _ _ e1, q⟩
  base := ⟨fun b o e => k _ _ (S.base.keep b o e), Nat.le_trans hB.size z, S.base.low⟩
  size := z
  ext := S.ext
  gens := S.gens
  os := S.os

theorem sim_raise (L : Leaf X G C d hn) (T : SLeaf X G C.sub) {k : Nat} : SimS X C G d hn (.raise k) := by
  intro cx st hT A env ρ s μ σ c F lo ho
  obtain ⟨x, np, m, i, ap, cp, p, he, hg, hix, hlen⟩ := hT
  subst he
  show SmS X env cx _ (if C.hn then .exc k ρ σ else .stuck) s μ
  cases hhn : C.hn with
  | false => exact SmS.stuck
  | true =>
    cases hn_of L hhn
    intro hne Q E hQ hE
    obtain ⟨bm, ⟨N, nm, q, bs, hdct, sn, sub, ab, col, dd, k0, k1, k2, k3, k5, mN, hC, hN, hni, hT⟩, _⟩ := T.cls k
    obtain ⟨mg, mb, n1, n2, hcls, _⟩ := L.nm.ns
    have hl : Mine.T G (.lit (.str (codes m))) cx (.Constant (.str m) i ap) := ⟨_, _, _, rfl, if_pos hlen⟩
    have hts : Ts G [.lit (.str (codes m))] cx [.Constant (.str m) i ap] := ⟨_, _, rfl, hl, rfl⟩
    refine sized ?_
    refine wpAny_Raise_call_subT (C := X.ca k) (nm := nm) (q := q) (N := N) (bs := bs) (bm := bm) (hdct := hdct) (sn := sn) (sub := sub) (ab := ab) (col := col) (dd := dd) (k0 := k0) (k1 := k1) (k2 := k2) (k3 := k3) (k5 := k5)
      PySem.F.excBase_ValueError (mN := mN) (hT.hasType PySem.F.excBase_ValueError.hasBase) (c.rm.handled rfl) (tr_plain hts) hni ?_
    refine sim_global c F n1 hg (hcls x k hix) ⟨rfl, ?_⟩
    refine args_of hts ?_
    have hev : evEs X.ns C ρ [.lit (.str (codes m))] σ = .ok [.str (codes m)] σ := rfl
    refine sim_args (p := cp) (sim_alls L _) hts c F (by rw [hev]; intro q; cases q) _ _ (fun vs σ₁ us s₁ μ₁ e1 S1 r1 => ?_) fun k' σ₁ y s₁ μ₁ e1 _ _ => by rw [hev] at e1; cases e1
    rw [hev] at e1; cases e1
    have hul : us.length = 1 := by rw [← r1.length]; rfl
    refine ⟨rfl, by show us.length ≤ _; rw [hul]; decide, S1.base.keep _ _ hC, hN.keeps S1.base.keep, hT.keeps S1.base.keep, fun h' e hm hz => ?_⟩
    have S2 := S1.more c.base hm.keeps hz
    obtain ⟨tt, h1, h2, h3⟩ := hm.there
    exact hE k ρ σ (.ref e) _ μ₁ rfl S2.e (F.step c.hr S2) ⟨e, none, rfl, ⟨S1.pers _ hm.new, _, _, .ref tt, h1, ⟨rfl, rfl⟩, rfl, rfl, rfl⟩, .inl rfl⟩

section
variable {M : Model} {A : Around} {E : Value → Shared → Prop}
theorem excMatches_own {h : Heap} {g : Array GenState} {d : Drawn} {t : Nat} {os : OsState} {e C C' N N' : Addr} {oe : Obj} {nm q nm' q' : Str} {bs bm bs' bm' : List Value} {hdct hdct' : Bool} {sn sn' : List Str} {sub sub' : List Value} {ab ab' : Bool} {col col' : Option Bool} {dd dd' : Option Addr} {k0 k1 k2 k3 k5 k0' k1' k2' k3' k5' : Option Value} {newId newId' : String} {Q : Bool → Shared → Prop}
    (hC : h.get? C = some (excClassObj nm q C N bs bm hdct sn sub ab col dd k0 k1 k2 k3 k5 newId)) (hD : h.get? C' = some (excClassObj nm' q' C' N' bs' bm' hdct' sn' sub' ab' col' dd' k0' k1' k2' k3' k5' newId')) (he : h.get? e = some oe) (hcls : oe.cls = .ref C)
    (hbase : bm'.contains (.type "BaseException") = true) (hq : Q ((Value.ref C :: bm).contains (.ref C')) ⟨h, g, d, t, os⟩) : wpAny M A (excMatches (.ref e) (.ref C')) Q E ⟨h, g, d, t, os⟩ := by
  have hcB : (Value.ref C' :: bm').contains (.type "BaseException") = true := by rw [List.contains_cons, hbase, Bool.or_true]
  have f := tc_notTuple
  generalize hb : (Value.ref C :: bm).contains (.ref C') = b at hq
  unfold excMatches
  repeat (first | (with_reducible refine wpAny_loadPart_at he ?_; rw [hcls]) | with_reducible refine wpAny_loadPart_at hD ?_ | (with_reducible refine wpAny_isSubtype_exc hD ?_; rw [hcB]) | (with_reducible refine wpAny_isSubtype_exc hC ?_; rw [hb]) | wp_step)
  all_goals (cases b <;> (wp_walk; exact hq))
end
theorem Cn.mark (c : Cn X A d true s μ σ) (a : Addr) : Cn X (A.mark (some (.ref a))) d false s μ σ := ⟨⟨c.rm.depth, c.rm.units, (fun h => nomatch h), by intro q; cases q⟩, c.hr, c.base, c.fs, c.scr, c.bad⟩
theorem FrOk.mark (h : FrOk A env) (a : Addr) : FrOk (A.mark (some (.ref a))) env := h
/-- what a handler's body leaves -/
noncomputable def hdRes (j : Option Nat) : RS → RS
  | .ok f ρ' σ' => .ok f (match j with | some _ => ρ'.map fun _ => .none | .none => ρ') σ'
  | _ => .stuck
noncomputable def hdEnv (j : Option Nat) (k : Nat) (ρ : Env) : Env := match j with
  | some j => ρ.set j (some (.exc k))
  | .none => ρ
theorem evHs_yes {k k' : Nat} {j : Option Nat} {tb : List Mine.S} {r : List Hd} (h : C.sub k k' = true) (hj : ∀ i, j = some i → i < ρ.length) : evHs X.ns C k ρ σ (.mk k' j tb :: r) = hdRes j (evSs X.ns C (hdEnv j k ρ) σ tb) := by
  show (if C.sub k k' then _ else _) = _
  rw [if_pos h]
  cases j with
  | none =>
    show _ = hdRes none (evSs X.ns C ρ σ tb)
    cases evSs X.ns C ρ σ tb <;> rfl
  | some i =>
    show (if i < ρ.length then _ else _) = _
    rw [if_pos (hj i rfl)]
    show _ = hdRes (some i) (evSs X.ns C (ρ.set i (some (.exc k))) σ tb)
    cases evSs X.ns C (ρ.set i (some (.exc k))) σ tb <;> rfl
theorem evHs_no {k k' : Nat} {j : Option Nat} {tb : List Mine.S} {r : List Hd} (h : C.sub k k' = false) : evHs X.ns C k ρ σ (.mk k' j tb :: r) = evHs X.ns C k ρ σ r := by
  show (if C.sub k k' then _ else _) = _
  rw [if_neg (by rw [h]; decide)]
theorem hdRes_ne {j : Option Nat} {r : RS} (h : hdRes j r ≠ .stuck) : ∃ f ρ' σ', r = .ok f ρ' σ' := by
  cases r with
  | ok f ρ' σ' => exact ⟨f, ρ', σ', rfl⟩
  | exc => exact absurd rfl h
  | stuck => exact absurd rfl h
/-- the handlers' bodies -/
noncomputable def SimHs (X : W) (C : Calls) (G : GT) (d : Nat) : List Hd → Prop
  | [] => True
  | .mk _ _ b :: r => SimSs X C G d false b ∧ SimHs X C G d r
/-- the handlers of a try -/
theorem sim_handlers (Lc : Leaf X G C.calm d false) (T : SLeaf X G C.sub) {k : Nat} (hB : Base X s₀.heap) (lo : Lo X env) (ho : FrOk A env) : ∀ {ths : List Hd}, SimHs X C.calm G d ths → ∀ {hs : List ExceptHandler}, THs G ths cx hs →
    ∀ {s : Shared} {μ : List Addr} {σ : H} {ρ : Env} {a : Addr}, Cn X A d true s μ σ → FR X env cx ρ s.heap μ → StepE X env s₀ μ₀ s μ σ → Fly s₀.heap (.ref (X.ca k)) a (some .none) s.heap →
    evHs X.ns C.calm k ρ σ ths ≠ .stuck → ∀ {Q : Flow → Shared → Prop} {E : Value → Shared → Prop},
    (∀ f ρ' σ' fl s' μ', evHs X.ns C.calm k ρ σ ths = .ok f ρ' σ' → StepE X env s₀ μ₀ s' μ' σ' → FR X env cx ρ' s'.heap μ' → FlR X s'.heap μ' f fl → Q fl s') → wpAny (Mo X) A (handleBy (.ref a) env hs) Q E s
  | [], _, _, _, _, _, _, _, _, _, _, _, _, hne, _, _, _ => absurd rfl hne
  | .mk k' j tb :: ths, hsim, _, ht, s, μ, σ, ρ, a, c, F, S, f, hne, Q, E, hQ => by
    obtain ⟨_, hs, rfl, ⟨x, p, nm, body, pos, rfl, hg, hix, hb0, hbody, hnm⟩, ht'⟩ := ht
    obtain ⟨mg, mb, n1, n2, hcls, _⟩ := Lc.nm.ns
    obtain ⟨bm, ⟨N, nm1, q, bs, hdct, sn, sub, ab, col, dd, k0, k1, k2, k3, k5, mN, hC, hN, hni, hT⟩, hsub⟩ := T.cls k
    obtain ⟨bm', ⟨N', nm2, q', bs', hdct', sn', sub', ab', col', dd', k0', k1', k2', k3', k5', mN', hC', hN', hni', hT'⟩, _⟩ := T.cls k'
    have hs' := hsub k' (List.getElem?_eq_some_iff.mp hix).1
    obtain ⟨b₀, br, rfl⟩ := List.exists_cons_of_ne_nil hb0
    have c' := c.mark a
    have ho' := ho.mark a
    obtain ⟨hnew, oe, vs, a0, g1, g2, g3, g4, grest⟩ := id f
    refine wpAny_handleBy_cons (codeAny_handlers_test (sim_global c' F n1 hg (hcls x k' hix) ?_)) (by intro q; cases q)
    obtain ⟨hp, gn, dr, tk, os⟩ := s
    refine excMatches_own (c.base.keep _ _ hC) (c.base.keep _ _ hC') g1 g2.1 (hT'.hasType PySem.F.excBase_ValueError.hasBase) ?_
    rw [← hs']
    cases hb : C.sub k k' with
    | false =>
      have hcs : C.calm.sub k k' = false := hb
      rw [evHs_no hcs] at hne hQ
      exact sim_handlers Lc T hB lo ho hsim.2 ht' c F S f hne hQ
    | true =>
      have hcs : C.calm.sub k k' = true := hb
      rcases hnm with ⟨rfl, rfl⟩ | ⟨j, y, rfl, rfl, hy, hloc⟩
      · rw [evHs_yes (j := none) hcs (fun _ h => by cases h)] at hne hQ
        obtain ⟨ff, ρ', σ', e'⟩ := hdRes_ne hne
        have e' : evSs X.ns C.calm ρ σ tb = .ok ff ρ' σ' := e'
        refine codeAny_handlers_suite (xs_set c' F ho' S hB rfl f none fun s₁ S1 F1 c1 f1 => ?_)
        refine hsim.1 cx _ hbody _ env ρ s₁ μ σ c1 F1 lo ho' (by rw [e']; intro q; cases q) _ _ (fun ff' ρ'' σ'' fl s' μ' e'' S' F' r' => ?_) fun cc ρ'' σ'' y s' μ' e'' _ _ _ => by rw [e'] at e''; cases e''
        exact hQ ff' ρ'' σ'' fl s' μ' (by show hdRes none (evSs X.ns C.calm ρ σ tb) = _; rw [e'']; rfl) (S1.trans S') F' r'
      · have hyk : cx.slot y = some j := by unfold Cx.slot; rw [hloc]; exact hy
        have hj : j < ρ.length := slot_lt F hyk
        rw [evHs_yes (j := some j) hcs (fun i e => by cases e; exact hj)] at hne hQ
        obtain ⟨ff, ρ', σ', e'⟩ := hdRes_ne hne
        have e' : evSs X.ns C.calm (ρ.set j (some (.exc k))) σ tb = .ok ff ρ' σ' := e'
        refine codeAny_handlers_suite_as (xs_set c' F ho' S hB rfl f none fun s₁ S1 F1 c1 f1 => ?_)
        obtain ⟨_, oe1, vs1, a1, w1, w2, w3, _⟩ := id f1
        refine sm_store c1 F1 lo hyk (v := .exc k) (.exc w1 w2 w3) fun s₂ S2 F2 _ => ?_
        have c2 := c1.stepE S2 F2 ho'
        refine hsim.1 cx _ hbody _ env _ s₂ μ σ c2 F2 lo ho' (by rw [e']; intro q; cases q) _ _ (fun ff' ρ'' σ'' fl s' μ' e'' S' F' r' => ?_) fun cc ρ'' σ'' y s' μ' e'' _ _ _ => by rw [e'] at e''; cases e''
        have hQ' := hQ ff' (ρ''.map fun _ => .none) σ''
        have S3 := (S1.trans S2).trans S'
        obtain ⟨m, nn, hm⟩ := F'.ns
        refine wpAny_nameGoes (by rw [F'.kindOf]; exact hloc) nn (by rw [F'.kind]; rfl) fun h₅ m₅ n₅ sb => ?_
        have M : Move [env.locals] s' { s' with heap := h₅, toks := s'.toks + 1 } := ⟨fun b o hb e => (sb.2 b fun q => hb (by simp [q])).trans e, Nat.le_of_eq sb.1.symm, rfl, rfl⟩
        have c5 : Cn X (A.mark (some (.ref a))) d false s' μ' σ'' := c2.stepE S' F' ho'
        have hsf : Soft X s'.heap μ' env.locals := softC nn F'.offL _ (List.mem_singleton.mpr rfl)
        have S5 : StepE X env s' μ' { s' with heap := h₅, toks := s'.toks + 1 } μ' σ'' := .of_move c5 M (.inl rfl) lo hsf (let ⟨o, _, _, e, _⟩ := n₅; ⟨o, e⟩)
        have hnone : ∀ {i : Nat} {v : V}, (ρ''.map fun _ => (none : Option V))[i]? = some (some v) → False := by
          intro i v hv
          rw [List.getElem?_map] at hv
          cases hh : ρ''[i]? <;> simp [hh] at hv
        refine hQ' fl _ μ' (by show hdRes (some j) (evSs X.ns C.calm (ρ.set j (some (.exc k))) σ tb) = _; rw [e'']; rfl) (S3.trans S5) { F' with
          ns := ⟨m₅, n₅, fun z i v _ _ hv => (hnone hv).elim⟩
          cell := fun z i a1 a2 => by
            obtain ⟨cc, w, b1, b2, b3⟩ := F'.cell z i a1 a2
            exact ⟨cc, w, b1, b2.sameBut sb (F'.offC z cc b1).2.1, fun v hv => (hnone hv).elim⟩
          offC := fun z cc h => ⟨(F'.offC z cc h).1, (F'.offC z cc h).2.1, Nat.lt_of_lt_of_le (F'.offC z cc h).2.2 M.size⟩
          len := by rw [List.length_map]; exact F'.len } ?_
        cases r' with
        | next => exact .next
        | ret r => exact .ret (M.vr (fun b hb => by rw [List.mem_singleton.mp hb]; exact hsf) r)
theorem sim_try (L : Leaf X G C d hn) (Lc : Leaf X G C.calm d false) (T : SLeaf X G C.sub) {tb : List Mine.S} {ths : List Hd} (hb : SimSs X C G d hn tb) (hh : SimHs X C.calm G d ths) : SimS X C G d hn (.try tb ths) := by
  intro cx st hT A env ρ s μ σ c F lo ho
  obtain ⟨body, hs, p, he, h1, h2, h3⟩ := hT
  subst he
  obtain ⟨h0, hs, rfl⟩ := List.exists_cons_of_ne_nil h3
  have hev : ∀ r, evSs X.ns C ρ σ tb = r → evS X.ns C ρ σ (.try tb ths) = match r with | .exc c ρ' σ' => (if C.hn then evHs X.ns C.calm c ρ' σ' ths else .stuck) | r => r := fun r e => by subst e; rfl
  intro hne Q E hQ hE
  refine wpAny_Try_except (hb cx body h1 A env ρ s μ σ c F lo ho (fun e => hne (hev _ e)) _ _ (fun f ρ' σ' fl s' μ' e' S' F' r' => ?_) fun k ρ' σ' y s' μ' e' S' F' x' => ?_)
  · cases r' with
    | next => exact wpAny_execs_nil (hQ _ ρ' σ' _ s' μ' (hev _ e') S' F' .next)
    | ret r => exact hQ _ ρ' σ' _ s' μ' (hev _ e') S' F' (.ret r)
  · rw [hev _ e'] at hne hQ
    cases hhn : C.hn with
    | false => simp [hhn] at hne
    | true =>
      cases hn_of L hhn
      simp only [hhn, if_true] at hne hQ
      have c1 := c.stepE S' F' ho
      refine xs_note c1 F' ho S' c.base rfl x' fun s₁ a he S1 F1 c1' f1 => ?_
      subst he
      exact xs_set c1' F1 ho S1 c.base rfl f1 none fun s₂ S2 F2 c2 f2 => sim_handlers Lc T c.base lo ho hh h2 c2 F2 S2 f2 hne hQ
end
end Mine

set_option maxRecDepth 100000
set_option linter.all false
namespace Mine
open PySem PyProof.Rows PySem.Calls

section
variable {X : W} {d : Nat} {G : GT}
/-- the leaves, whatever tuples are kept back -/
structure LL (X : W) (G : GT) (C : Calls) (d : Nat) (hn : Bool) : Prop where
  l : ∀ b, Leaf (X.wb b) G C d hn
  c : ∀ b, Leaf (X.wb b) G C.calm d false
  t : ∀ b, SLeaf (X.wb b) G C.sub
theorem LL.here {C : Calls} {hn : Bool} (L : LL X G C d hn) : Leaf X G C d hn := L.l X.bad
theorem LL.calm {C : Calls} {hn : Bool} (L : LL X G C d hn) : LL X G C.calm d false := ⟨L.c, L.c, L.t⟩
theorem LL.wb {C : Calls} {hn : Bool} (L : LL X G C d hn) (b : Addr → Prop) : LL (X.wb b) G C d hn := ⟨fun b' => L.l b', fun b' => L.c b', fun b' => L.t b'⟩
mutual
theorem sim_stmt : ∀ (t : S) {X : W} {C : Calls} {hn : Bool}, LL X G C d hn → SimS X C G d hn t
  | .assign k e, X, C, hn, L => by
    cases hc : isComp e with
    | false => exact sim_assign (sim_all L.here e).ev hc
    | true =>
      cases e <;> first | (cases hc; done) | skip
      · exact sim_assignC L.here (cond := none) ⟨(sim_parts L.here _).i L.here, (sim_all L.here _).ev, fun _ h => nomatch h⟩
      · exact sim_assignC L.here (cond := some _) ⟨(sim_parts L.here _).i L.here, (sim_all L.here _).ev, fun _ h => Option.some.inj h ▸ (sim_all L.here _).tr⟩
  | .setitem a i e, X, C, hn, L => sim_setitem (sim_all L.here a).ev (sim_all L.here i).ev (sim_all L.here e).ev
  | .expr e, X, C, hn, L => sim_expr (sim_all L.here e).ev
  | .ret e, X, C, hn, L => sim_ret (sim_all L.here e).ev
  | .ite c a b, X, C, hn, L => sim_ite (sim_all L.here c).tr (sim_stmts a L) (sim_stmts b L)
  | .forN k src b, X, C, hn, L => sim_forN L.here ((sim_parts L.here src).i L.here) (sim_stmts b L)
  | .forP k k' src b, X, C, hn, L => sim_forP L.here (sim_parts L.here src) fun q => sim_stmts b (L.wb q)
  | .raise c, X, C, hn, L => sim_raise L.here (L.t X.bad)
  | .dead, X, C, hn, L => sim_dead
  | .try b hs, X, C, hn, L => sim_try L.here (L.c X.bad) (L.t X.bad) (sim_stmts b L) (sim_hds hs L.calm)
theorem sim_stmts : ∀ (ts : List S) {X : W} {C : Calls} {hn : Bool}, LL X G C d hn → SimSs X C G d hn ts
  | [], _, _, _, _ => sim_nil
  | t :: ts, X, C, hn, L => sim_cons (sim_stmt t L) (sim_stmts ts L)
theorem sim_hds : ∀ (hs : List Hd) {X : W} {C : Calls}, LL X G C d false → SimHs X C G d hs
  | [], _, _, _ => trivial
  | .mk _ _ b :: hs, X, C, L => ⟨sim_stmts b L, sim_hds hs L⟩
end
end
end Mine

set_option maxRecDepth 100000
set_option linter.all false
namespace Mine
open PySem PyProof.Rows PySem.Calls

theorem slotsOf_ge : ∀ {l : List (Str × NameKind)} {i : Nat} {x : Str} {k : Nat}, (x, k) ∈ slotsOf l i → i ≤ k
  | [], _, _, _, h => nomatch h
  | (y, kd) :: r, i, x, k, h => by
    cases kd <;> simp only [slotsOf] at h
    all_goals first
      | (rcases List.mem_cons.mp h with q | q
         · cases q; exact Nat.le_refl _
         · exact Nat.le_of_succ_le (slotsOf_ge q))
      | exact slotsOf_ge h
theorem slotsOf_at : ∀ {l : List (Str × NameKind)} {i : Nat} {x : Str} {k : Nat}, (x, k) ∈ slotsOf l i → (slotsOf l i)[k - i]? = some (x, k)
  | [], _, _, _, h => nomatch h
  | (y, kd) :: r, i, x, k, h => by
    cases kd <;> simp only [slotsOf] at h ⊢
    all_goals first
      | (rcases List.mem_cons.mp h with q | q
         · cases q; simp
         · have h1 := slotsOf_ge q
           have h2 := slotsOf_at q
           rw [show k - i = (k - (i + 1)) + 1 by (first | lia | omega), List.getElem?_cons_succ]
           exact h2)
      | exact slotsOf_at h
theorem slotsOf_names : ∀ {l : List (Str × NameKind)} {i : Nat} {x : Str} {k : Nat}, (x, k) ∈ slotsOf l i → (x, NameKind.local) ∈ l ∨ (x, NameKind.cell) ∈ l
  | [], _, _, _, h => nomatch h
  | (y, kd) :: r, i, x, k, h => by
    cases kd <;> simp only [slotsOf] at h
    all_goals first
      | (rcases List.mem_cons.mp h with q | q
         · cases q; first | exact .inl List.mem_cons_self | exact .inr List.mem_cons_self
         · rcases slotsOf_names q with w | w
           · exact .inl (List.mem_cons_of_mem _ w)
           · exact .inr (List.mem_cons_of_mem _ w))
      | (rcases slotsOf_names h with w | w
         · exact .inl (List.mem_cons_of_mem _ w)
         · exact .inr (List.mem_cons_of_mem _ w))

theorem cells_some : ∀ {l : List (Str × NameKind)} {n : Nat} {acc : List (Str × Addr)} {x : Str}, ((x, NameKind.cell) ∈ l ∨ (acc.lookup x).isSome = true) → ((cellsFrom n l acc).lookup x).isSome = true
  | [], _, _, _, h => by rcases h with h | h; cases h; exact h
  | (y, kd) :: r, n, acc, x, h => by
    unfold cellsFrom
    split
    · rename_i hk
      refine cells_some ?_
      rw [List.lookup_cons]
      cases hx : x == y with
      | true => exact .inr rfl
      | false =>
        rcases h with h | h
        · rcases List.mem_cons.mp h with q | q
          · cases q; simp at hx
          · exact .inl q
        · exact .inr h
    · rename_i hk
      refine cells_some ?_
      rcases h with h | h
      · rcases List.mem_cons.mp h with q | q
        · cases q; simp at hk
        · exact .inl q
      · exact .inr h
theorem cells_of : ∀ {l : List (Str × NameKind)} {n : Nat} {acc : List (Str × Addr)} {x : Str} {c : Addr}, (cellsFrom n l acc).lookup x = some c → acc.lookup x = some c ∨ n ≤ c
  | [], _, _, _, _, h => .inl h
  | (y, kd) :: r, n, acc, x, c, h => by
    unfold cellsFrom at h
    split at h
    · rcases cells_of h with q | q
      · rw [List.lookup_cons] at q
        cases hx : x == y with
        | true => rw [hx] at q; cases q; exact .inr (Nat.le_refl _)
        | false => rw [hx] at q; exact .inl q
      · exact .inr (Nat.le_of_succ_le q)
    · exact cells_of h

theorem bindL_off {kd : Str → Option NameKind} {x : Str} : ∀ {names : List Str} {us : List Value} {m : Str → Option Value}, x ∉ names → bindL kd (names.zip us) m x = m x
  | [], _, _, _ => by simp [bindL]
  | n :: names, [], _, _ => by simp [bindL]
  | n :: names, u :: us, m, h => by
    rw [List.zip_cons_cons, bindL, bindL_off (fun q => h (List.mem_cons_of_mem _ q))]
    have hx : x ≠ n := fun e => h (e ▸ List.mem_cons_self)
    split
    · show (if x = n then _ else _) = _
      rw [if_neg hx]
    · rfl
theorem bindC_off {kd : Str → Option NameKind} {x : Str} : ∀ {names : List Str} {us : List Value} {m : Str → Option Value}, x ∉ names → bindC kd (names.zip us) m x = m x
  | [], _, _, _ => by simp [bindC]
  | n :: names, [], _, _ => by simp [bindC]
  | n :: names, u :: us, m, h => by
    rw [List.zip_cons_cons, bindC, bindC_off (fun q => h (List.mem_cons_of_mem _ q))]
    have hx : x ≠ n := fun e => h (e ▸ List.mem_cons_self)
    split
    · rfl
    · show (if x = n then _ else _) = _
      rw [if_neg hx]
theorem bindL_at {kd : Str → Option NameKind} {x : Str} {u : Value} (hk : kd x = some .local) : ∀ {names : List Str} {us : List Value} {m : Str → Option Value} {k : Nat}, names.Nodup → names[k]? = some x → us[k]? = some u → bindL kd (names.zip us) m x = some u
  | [], _, _, _, _, h, _ => by simp at h
  | n :: names, [], _, _, _, _, h => by simp at h
  | n :: names, v :: us, m, 0, hn, h1, h2 => by
    simp at h1 h2
    subst h1 h2
    rw [List.zip_cons_cons, bindL, bindL_off (List.nodup_cons.mp hn).1, if_pos hk]; simp
  | n :: names, v :: us, m, k + 1, hn, h1, h2 => by
    rw [List.zip_cons_cons, bindL]
    exact bindL_at hk (List.nodup_cons.mp hn).2 (by simpa using h1) (by simpa using h2)
theorem bindC_at {kd : Str → Option NameKind} {x : Str} {u : Value} (hk : kd x ≠ some .local) : ∀ {names : List Str} {us : List Value} {m : Str → Option Value} {k : Nat}, names.Nodup → names[k]? = some x → us[k]? = some u → bindC kd (names.zip us) m x = some u
  | [], _, _, _, _, h, _ => by simp at h
  | n :: names, [], _, _, _, _, h => by simp at h
  | n :: names, v :: us, m, 0, hn, h1, h2 => by
    simp at h1 h2
    subst h1 h2
    rw [List.zip_cons_cons, bindC, bindC_off (List.nodup_cons.mp hn).1, if_neg hk]; simp
  | n :: names, v :: us, m, k + 1, hn, h1, h2 => by
    rw [List.zip_cons_cons, bindC]
    exact bindC_at hk (List.nodup_cons.mp hn).2 (by simpa using h1) (by simpa using h2)

/-- a def of the text is what its small one says -/
noncomputable def FnOk (X : W) (G : GT) (i : Nat) (fn : Fn) : Prop := ∃ o fd body, X.h₀.get? (X.fa i) = some o ∧ o.data = .func fd ∧ X.h₀.CodeRec fd.code fd.qualname ∧ fd.body = .stmts body ∧ fd.closure = [] ∧ fd.globals = mainGlobals ∧ fd.builtins = builtinsNs ∧
  (∀ vals : List Value, vals.length = fd.params.args.length → bindArgs fd ⟨vals, []⟩ = pure ((fd.params.args.map (·.arg)).zip vals)) ∧ TFn G fn fd.params body fd.scope

section
variable {X : W} {A : Around} {d : Nat} {hn : Bool} {s s' s'' s₀ : Shared} {μ μ' μ'' μ₀ : List Addr} {σ σ' σ'' σ₀ : H} {env : PySem.Env} {cx cx' : Cx} {ρ ρ' ρ₀ : Env} {C : Calls} {G : GT}

theorem FF.lt {h : Heap} : ∀ {l : List PySem.Env}, FF X h μ l → ∀ e ∈ l, ∀ L, e.frame = some L → L < h.objs.size
  | [], _, _, hm, _, _ => nomatch hm
  | e0 :: l, hf, e, hm, L, hL => by
    obtain ⟨⟨_, L0, o0, es0, n0, k1, _, _, k4, _⟩, hr0⟩ := hf
    rcases List.mem_cons.mp hm with rfl | hm
    · rw [k1] at hL; cases hL; exact Heap.lt_size k4
    · exact FF.lt hr0 e hm L hL
/-- back from a frame -/
theorem Step.close (S : Step X s₀ μ₀ s μ σ) (S' : StepE X env s μ s' μ' σ') (h : ∀ b, Own env b → s₀.heap.objs.size ≤ b) : Step X s₀ μ₀ s' μ' σ' := by
  obtain ⟨ν, rfl, hν⟩ := S.ext
  obtain ⟨ν', rfl, hν'⟩ := S'.ext
  refine ⟨S'.hr, fun b o hb e => ?_, S'.base, Nat.le_trans S.size S'.size, ⟨ν ++ ν', by rw [List.append_assoc], fun a ha => ?_⟩, S'.gens.trans S.gens, S'.os.trans S.os⟩
  · obtain ⟨sl, e1, q1⟩ := S.keep b o hb e
    have hlt := Heap.lt_size e
    have hb' : b ∉ μ₀ ++ ν := fun hm => by
      rcases List.mem_append.mp hm with h1 | h1
      · exact hb h1
      · exact absurd hlt (Nat.not_lt.mpr (hν b h1))
    obtain ⟨sl', e2, q2⟩ := S'.keep b _ hb' (fun hO => absurd hlt (Nat.not_lt.mpr (h b hO))) e1
    exact ⟨sl', e2, fun hd => (q2 hd).trans (q1 hd)⟩
  · rcases List.mem_append.mp ha with h1 | h1
    · exact hν a h1
    · exact Nat.le_trans S.size (hν' a h1)

theorem sim_fn {i : Nat} {fn : Fn} (hf : FnOk X G i fn) (hlim : X.h₀.NoLimit) (hB : SimSs X C G d hn fn.body) (c : Cn X A (d + 1) hn s μ σ) {vs : List V} {us : List Value} (r : VRs X s.heap μ vs us) :
    Sm X (Wp X A (PySem.call (.ref (X.fa i)) us)) (evF X.ns C fn vs σ) (Rl X) s μ := by
  obtain ⟨o, fd, body, h1, h2, h3, h4, h5, h6, h7, h8, h9⟩ := hf
  obtain ⟨t1, t2, t3, t4, t5, t6, t7, t8⟩ := h9
  unfold evF
  rw [t7, t8]
  split
  · rename_i hlen
    intro hne Q E hQ hE
    have hul : us.length = fd.params.args.length := by rw [← r.length]; exact hlen
    have hbind := h8 us hul
    generalize hnm : fd.params.args.map (·.arg) = names at hbind t1
    have hnl : names.length = fd.params.args.length := by rw [← hnm, List.length_map]
    have hnat : ∀ x k, (x, k) ∈ slotsOf fd.scope.names 0 → k < names.length → names[k]? = some x := fun x k hm hk => by
      rw [← t1, List.getElem?_take, if_pos (by rw [← hnl]; exact hk), List.getElem?_map]
      have := slotsOf_at hm
      simp only [Nat.sub_zero] at this
      rw [this]; rfl
    have hmem : ∀ x ∈ names, ∃ k, (x, k) ∈ slotsOf fd.scope.names 0 := fun x hxm => by
      rw [← t1] at hxm
      obtain ⟨p, hp, rfl⟩ := List.mem_map.mp (List.mem_of_mem_take hxm)
      exact ⟨p.2, hp⟩
    have hnd : names.Nodup := by
      rw [← t1]
      refine List.Nodup.sublist (List.take_sublist _ _) ?_
      have : ∀ (l : List (Str × NameKind)) (i : Nat), ((slotsOf l i).map (·.1)).Sublist (l.map (·.1)) := by
        intro l
        induction l with
        | nil => intro i; exact List.Sublist.refl _
        | cons p l ih =>
          intro i
          obtain ⟨y, kd⟩ := p
          cases kd <;> simp only [slotsOf, List.map_cons] <;> first | exact (ih _).cons_cons _ | exact (ih _).cons _
      exact List.Nodup.sublist (this _ _) t2
    have hkindof : ∀ x ∈ names, fd.scope.names.lookup x = some .local ∨ (fd.scope.names.lookup x = some .cell ∧ ((cellsFrom (s.heap.objs.size + 1) fd.scope.names []).lookup x).isSome = true) := fun x hxm => by
      obtain ⟨k, hk⟩ := hmem x hxm
      rcases slotsOf_names hk with q | q
      · exact .inl (mem_lookup t2 q)
      · exact .inr ⟨mem_lookup t2 q, cells_some (.inl q)⟩
    refine wpAny_call (codeAny_call_cells (by have := c.rm.depth; (first | lia | omega)) (c.base.keep _ _ h1) h2 (hlim.keeps c.base.keep) (h3.keeps c.base.keep) h4 hbind h5 (fun x hxm => ?_) (fun s₁ I => ?_) t5 t4 t3)
    · obtain ⟨a, b'⟩ := x
      exact hkindof a (List.of_mem_zip hxm).1
    · generalize hE' : callEnvC fd s.heap.objs.size (X.fa i) = env at I
      have eL : env.locals = s.heap.objs.size := by rw [← hE']; rfl
      have eS : env.scope = fd.scope := by rw [← hE']; rfl
      have eC : env.cells = cellsFrom (s.heap.objs.size + 1) fd.scope.names [] := by rw [← hE']; rfl
      have eG : env.globals = mainGlobals := by rw [← hE']; exact h6
      have eB : env.builtins = builtinsNs := by rw [← hE']; exact h7
      have eF : env.frame = some s.heap.objs.size := by rw [← hE']; rfl
      have hns := I.toInCall.ns
      obtain ⟨h', tk, rfl⟩ := I.toInCall.same
      have hsz : s.heap.objs.size ≤ h'.objs.size := by
        have := hns.lt
        rw [eL] at this
        exact Nat.le_of_lt this
      have S1 : Step X s μ { s with heap := h', toks := tk } μ σ := Step.grow c I.toInCall.keep hsz rfl rfl
      have hLm : env.locals ∉ μ := fun hm => by rw [eL] at hm; exact Nat.lt_irrefl _ (c.hr.lt hm)
      have hcell : ∀ x cc, env.cells.lookup x = some cc → s.heap.objs.size < cc := fun x cc hc => by
        rw [eC] at hc
        rcases cells_of hc with q | q
        · cases q
        · exact q
      have hown : ∀ bb, Own env bb → s.heap.objs.size ≤ bb := fun bb hb => by
        rcases hb with rfl | ⟨x, hb⟩
        · rw [eL]; exact Nat.le_refl _
        · exact Nat.le_of_lt (hcell x bb hb)
      have hz : ∀ a o, X.h₀.get? a = some o → a < s.heap.objs.size := fun a o e => Heap.lt_size (c.base.keep a o e)
      have r1 : VRs X h' μ vs us := S1.vrs c.hr r
      have hkd : ∀ x, env.kindOf x = fd.scope.names.lookup x := fun x => by show env.scope.names.lookup x = _; rw [eS]
      have hval : ∀ (k : Nat) (v : V), (vs.map some ++ List.replicate ((slotsOf fd.scope.names 0).length - fd.params.args.length) (none : Option V))[k]? = some (some v) → k < names.length ∧ ∃ u, us[k]? = some u ∧ VR X h' μ v u := fun k v hv => by
        by_cases hk : k < vs.length
        · rw [List.getElem?_append_left (by rw [List.length_map]; exact hk), List.getElem?_map] at hv
          obtain ⟨w, hw, e⟩ := Option.map_eq_some_iff.mp hv
          cases e
          exact ⟨by rw [hnl, ← hlen]; exact hk, r1.get hw⟩
        · rw [List.getElem?_append_right (by rw [List.length_map]; exact Nat.le_of_not_lt hk)] at hv
          rw [List.getElem?_replicate] at hv
          split at hv <;> cases hv
      have F1 : FR X env ⟨fd.scope.names, slotsOf fd.scope.names 0, (slotsOf fd.scope.names 0).length⟩ (vs.map some ++ List.replicate ((slotsOf fd.scope.names 0).length - fd.params.args.length) none) h' μ := {
        kind := by rw [eS]; exact t3
        globals := eG
        builtins := eB
        names := by rw [eS]
        ns := ⟨_, hns, fun x k v e1 e2 e3 => by
          obtain ⟨hk, u, hu, rv⟩ := hval k v e3
          exact ⟨u, bindL_at (by rw [hkd]; exact e1) hnd (hnat x k (lookup_mem e2) hk) hu, rv⟩⟩
        cell := fun x k e1 e2 => by
          obtain ⟨cc, hc⟩ := Option.isSome_iff_exists.mp (cells_some (n := s.heap.objs.size + 1) (acc := []) (.inl (lookup_mem e1)))
          rw [← eC] at hc
          refine ⟨cc, _, hc, I.cell x cc hc, fun v hv => ?_⟩
          obtain ⟨hk, u, hu, rv⟩ := hval k v hv
          exact ⟨u, bindC_at (by rw [hkd]; rw [show List.lookup x fd.scope.names = some NameKind.cell from e1]; simp) hnd (hnat x k (lookup_mem e2) hk) hu, rv⟩
        cells := fun x e1 => by rw [eC]; exact cells_some (.inl (lookup_mem e1))
        apart := fun x y cc a1 a2 => name_of_addr I.apart (lookup_mem a1) (lookup_mem a2)
        offL := hLm
        offC := fun x cc hc => ⟨fun hm => absurd (c.hr.lt hm) (Nat.not_lt.mpr (Nat.le_of_lt (hcell x cc hc))), by rw [eL]; exact Nat.ne_of_gt (hcell x cc hc), (I.cell x cc hc).lt⟩
        slots := fun x y k a1 a2 => by
          have b1 := slotsOf_at (lookup_mem a1)
          have b2 := slotsOf_at (lookup_mem a2)
          rw [b1] at b2; cases b2; rfl
        bound := fun x k a1 => by
          have b1 := slotsOf_at (lookup_mem a1)
          have := (List.getElem?_eq_some_iff.mp b1).1
          simpa using this
        len := by
          rw [List.length_append, List.length_map, List.length_replicate, hlen]
          have : fd.params.args.length ≤ (slotsOf fd.scope.names 0).length := by
            have e := congrArg List.length t1
            rw [hnl, List.length_take, List.length_map] at e
            (first | lia | omega)
          show fd.params.args.length + ((slotsOf fd.scope.names 0).length - fd.params.args.length) = (slotsOf fd.scope.names 0).length
          (first | lia | omega) }
      obtain ⟨fs, hfs, hff⟩ := c.fs
      have c1 : Cn X (A.deeper env) d hn { s with heap := h', toks := tk } μ σ := {
        rm := {
          depth := by have := c.rm.depth; show A.depth + 1 + 4 * d + 4 < _; (first | lia | omega)
          units := by have := c.rm.units; show A.units + 3 + 40 * d + 40 < _; (first | lia | omega)
          handled := c.rm.handled
          nb := c.rm.nb }
        hr := S1.hr
        base := S1.base
        fs := by
          refine ⟨env :: fs, by show A.frames.map _ = _; rw [hfs]; rfl, ⟨by rw [eS, t3]; simp, ?_⟩, S1.ff hff⟩
          obtain ⟨oL, es, ep, e1, e2, _⟩ := hns
          refine ⟨env.locals, oL, es, ep, by rw [eF, eL], ?_, hLm, e1, e2⟩
          cases hg : X.h₀.get? env.locals with
          | none => rfl
          | some oo => have := hz _ _ hg; rw [eL] at this; exact absurd this (Nat.lt_irrefl _)
        scr := c.scr
        bad := fun a h => Nat.lt_of_lt_of_le (c.bad a h) S1.size }
      have lo : Lo X env := ⟨by rw [eL]; exact c.base.size, fun x a ha => Nat.le_of_lt (Nat.lt_of_le_of_lt c.base.size (hcell x a ha))⟩
      have ho : FrOk (A.deeper env) env := ⟨by rw [eF, eL], fs, by show A.frames.map _ = _; rw [hfs]; rfl, fun en hm L hL hO => by
        have : L < s.heap.objs.size := hff.lt en hm L hL
        exact absurd this (Nat.not_lt.mpr (hown L hO))⟩
      refine hB ⟨fd.scope.names, slotsOf fd.scope.names 0, _⟩ body t6 (A.deeper env) env _ _ μ σ c1 F1 lo ho (fun e => by rw [e] at hne; exact hne rfl) _ _ (fun f ρ' σ' fl s' μ' e' S' F' r' => ?_) fun cc ρ' σ' y s' μ' e' S' F' x' => ?_
      · have SS := S1.close S' hown
        rw [e'] at hQ
        cases r' with
        | next => exact hQ .none σ' .none s' μ' rfl SS .none
        | ret rr => exact hQ _ σ' _ s' μ' rfl SS rr
      · rw [e'] at hE
        exact xs_leave (c1.stepE S' F' ho) F' ho S' c1.base rfl x' fun s₂ S2 xr => hE cc σ' y s₂ μ' rfl (S1.close S2 hown) (xr.le S1.pers)
  · exact Sm.stuck
end
end Mine

set_option maxRecDepth 100000
set_option linter.all false
set_option genSizeOf false
set_option genSizeOfSpec false
set_option genInjectivity false
namespace Mine
open PySem PyProof.Rows PySem.Calls PySem.SeqAt

theorem slot_ga : Slot "ValueError" "__getattribute__" "BaseException.__getattribute__" := PySem.F.attrBase_ValueError.ga
section
open PySem.W
variable {prog : Program} {w : World} {A : Around} {E : Value → Shared → Prop} {s : Shared} {K : PySem.W.Frag} {C e : Addr} {o : Obj}
theorem x_check {M : Model} {nameV : Value} {Q : Unit → Shared → Prop} (X : K.In s.heap) (I : InstAt s.heap e o C none) (hb : mroIn K C (.type "BaseException") = some true) (hq : Q () s) : wpAny M A (checkBuiltinCall "BaseException.__getattribute__" ⟨[.ref e, nameV], []⟩) Q E s := by
  have hk : builtinKind "BaseException.__getattribute__" = some .slot := by decide +kernel
  have hsplit : splitId "BaseException.__getattribute__" = some ("BaseException", "__getattribute__") := by decide +kernel
  have L0 := I.type (M := M)
  have L1 := looks_mroIn (M := M) X hb
  have ha := F.args_bexc_ga (.ref e) nameV
  simp only [checkBuiltinCall, hk, hsplit]
  refine wpAny_bind ?_
  unfold isInstance
  refine wpAny_bind (L0.at (L1.at ?_))
  rw [if_neg (by decide)]
  cases hsig : Manifest.signature? "BaseException.__getattribute__" with
  | none => exact wpAny_pure hq
  | some sig =>
    simp only [argsOk, hsig] at ha
    exact wpAny_of_eq ha hq
theorem x_class {Q : Option Value → Shared → Prop} (X : K.In s.heap) (I : InstAt s.heap e o C none) (hga : findIn K (.ref C) "__getattribute__" = some (some (.builtin "BaseException.__getattribute__"))) (hgn : findIn K (.ref C) "__getattr__" = some none)
    (hb : mroIn K C (.type "BaseException") = some true) (hf : findObj K C none "__class__" = some (.bind (.builtin "getset_descriptor.__get__") (.builtin "object.__class__"))) (hm : mroIn K C (.type "object") = some true)
    (h : Q (some (.ref C)) { s with toks := s.toks + 1 }) : wpAny (model prog w) A (getAttr? (.ref e) "__class__") Q E s := by
  obtain ⟨hh, g, d, t, os⟩ := s
  have L0 := I.type (M := model prog w)
  have L1 := looks_findIn (M := model prog w) X hga
  have L2 := looks_findIn (M := model prog w) X hgn
  have L3 := looks_find (M := model prog w) X I hf
  unfold getAttr? getAttrBy? getAttrBy
  refine wpAny_bind (wpAny_mkText (wpAny_bind (wpAny_attempt (wpAny_holding (wpAny_bind (L0.at (wpAny_bind (L1.at ?_))))))))
  have hne : ¬ (onTheHeap (.ref C) && Value.builtin "BaseException.__getattribute__" == .builtin "object.__getattribute__") = true := by
    have : (Value.builtin "BaseException.__getattribute__" == Value.builtin "object.__getattribute__") = false := by decide +kernel
    rw [this]; intro q; cases q
  show wpAny _ _ (if (onTheHeap (.ref C) && Value.builtin "BaseException.__getattribute__" == .builtin "object.__getattribute__") = true then _ else getAttrByItsOwn _ _ _ _ _ _) _ _ _
  rw [if_neg hne]
  unfold getAttrByItsOwn
  refine wpAny_bind (L2.at (wpAny_bind (wpAny_attempt (wpAny_holding ?_))))
  show wpAny _ _ (boundAndCalled (.builtin "BaseException.__getattribute__") (.ref e) _) _ _ _
  unfold boundAndCalled
  refine wpAny_bind (wpAny_of_eq (slot_ga.bind (.ref e)) ?_)
  refine wpAny_call (codeAny_call_builtin slot_ga.plain F.entry_bexc_ga (x_check X I hb ?_))
  refine wpAny_bind (wpAny_pure (wpAny_bind (wpAny_pure (wpAny_bind (L0.at (wpAny_bind (L3.at ?_)))))))
  show wpAny _ _ (holding [.builtin "object.__class__"] (PySem.call (.builtin "getset_descriptor.__get__") [.builtin "object.__class__", .ref e, .ref C]) >>= ret) _ _ _
  refine wpAny_bind (wpAny_holding (wpAny_call (class_get X I hm ?_)))
  refine wpAny_pure ?_

  exact wpAny_pure (wpAny_pure h)
end
section
variable {X : W} {A : Around} {d : Nat} {hn : Bool} {s s' s'' s₀ : Shared} {μ μ' μ'' μ₀ : List Addr} {σ σ' σ'' σ₀ : H} {env : PySem.Env} {cx cx' : Cx} {ρ ρ' ρ₀ : Env} {C : Calls} {G : GT}

theorem Cn.ok0 (c : Cn X A d hn s μ σ) {v : V} {u : Value} {t : Sem Value} (r : VR X s.heap μ v u) (h : ∀ (Q : Value → Shared → Prop) (E : Value → Shared → Prop), (∀ tk, Q u { s with toks := tk }) → wpAny (Mo X) A t Q E s) : Sm X (Wp X A t) (.ok v σ) (Rl X) s μ :=
  Sm.ok fun Q E hQ => h Q E fun tk => hQ _ _ _ (c.same tk) r
/-- what is made without a change to what was -/
theorem Cn.ok1 (c : Cn X A d hn s μ σ) {v : V} {u : Value} {t : Sem Value} (r : VR X s.heap μ v u) (h : ∀ (Q : Value → Shared → Prop) (E : Value → Shared → Prop), (∀ h' tk, (∀ b o, s.heap.get? b = some o → h'.get? b = some o) → Q u { s with heap := h', toks := tk }) → wpAny (Mo X) A t Q E s) : Sm X (Wp X A t) (.ok v σ) (Rl X) s μ :=
  Sm.ok fun Q E hQ => sized (h _ _ fun h' tk k hz => by
    have S : Step X s μ { s with heap := h', toks := tk } μ σ := Step.grow c k hz rfl rfl
    exact hQ _ _ _ S (S.vr c.hr r))
/-- a list that was made, all else as it was -/
theorem Cn.madeL (c : Cn X A d hn s μ σ) {xs : List V} {t : Sem Value} (hl : xs.length ≤ lim) (h : ∀ (Q : Value → Shared → Prop) (E : Value → Shared → Prop), (∀ D h' tk n l, s.heap.objs.size ≤ D → (∀ b o, s.heap.get? b = some o → h'.get? b = some o) → h'.get? D = some { cls := .type "list", data := .seq (List.toArray l) n } → VRs X h' μ xs l → Q (.ref D) { s with heap := h', toks := tk }) → wpAny (Mo X) A t Q E s) :
    Sm X (Wp X A t) (.ok (.ref σ.length) (σ ++ [.list xs])) (Rl X) s μ :=
  Sm.ok fun Q E hQ => sized (h _ _ fun D h' tk n l hD k e r hz => by
    have S : Step X s μ { s with heap := h', toks := tk } μ σ := Step.grow c k hz rfl rfl
    have hno : D ∉ μ := fun hm => absurd (c.hr.lt hm) (Nat.not_lt.mpr hD)
    exact hQ _ _ (μ ++ [D]) (S.adopt c.base hno hD (.list e (by rw [← r.length]; exact hl) (r.mono (fun _ _ e _ => e) ext_get))) (.ref (c.newRef D)))

open IsiPair in
theorem sm_isi0 (c : Cn X A d hn s μ σ) {v : V} {u : Value} (r : VR X s.heap μ v u) (t : Ty) (ht : plainTy t = true) {k : Ty} (hk : tyIs σ v = some k) :
    Sm X (Wp X A (PySem.call (.builtin "isinstance") [u, tyVal X t])) (.ok (.bool (tyHas t k)) σ) (Rl X) s μ := by
  cases r with
  | none => cases hk; cases t <;> first | (cases ht; done) | (refine c.ok0 (.bool _) fun Q E h => ?_; first | exact NoneType_int (h _) | exact NoneType_bool (h _) | exact NoneType_str (h _) | exact NoneType_list (h _) | exact NoneType_tuple (h _))
  | bool b => cases hk; cases t <;> first | (cases ht; done) | (refine c.ok0 (.bool _) fun Q E h => ?_; first | exact bool_int (h s.toks) | exact bool_bool (h s.toks) | exact bool_str (h _) | exact bool_list (h _) | exact bool_tuple (h _))
  | int i tk => cases hk; cases t <;> first | (cases ht; done) | (refine c.ok0 (.bool _) fun Q E h => ?_; first | exact int_int (h s.toks) | exact int_bool (h _) | exact int_str (h _) | exact int_list (h _) | exact int_tuple (h _))
  | str x tk z => cases hk; cases t <;> first | (cases ht; done) | (refine c.ok0 (.bool _) fun Q E h => ?_; first | exact str_int (h _) | exact str_bool (h _) | exact str_str (h s.toks) | exact str_list (h _) | exact str_tuple (h _))
  | tup e b z rr => cases hk; cases t <;> first | (cases ht; done) | (refine c.ok0 (.bool _) fun Q E h => ?_; first | exact tuple_int e rfl (h _) | exact tuple_bool e rfl (h _) | exact tuple_str e rfl (h _) | exact tuple_list e rfl (h _) | exact tuple_tuple e rfl (h s.toks))
  | ref hm =>
    obtain ⟨xs, h1, rfl⟩ := Option.map_eq_some_iff.mp hk
    obtain ⟨l, n, e, _, _⟩ := c.list (listAt_eq h1) hm
    cases t <;> first | (cases ht; done) | (refine c.ok0 (.bool _) fun Q E h => ?_; first | exact list_int e rfl (h _) | exact list_bool e rfl (h _) | exact list_str e rfl (h _) | exact list_list e rfl (h s.toks) | exact list_tuple e rfl (h _))
  | _ => cases hk

/-- what is known of an exception's class: enough for `isinstance` -/
structure XIs (X : W) (sub : Nat → Nat → Bool) (n : Nat) (c : Nat) : Prop where
  ga : PySem.W.findIn X.K (.ref (X.ca c)) "__getattribute__" = some (some (.builtin "BaseException.__getattribute__"))
  gn : PySem.W.findIn X.K (.ref (X.ca c)) "__getattr__" = some none
  mb : PySem.W.mroIn X.K (X.ca c) (.type "BaseException") = some true
  cl : ∃ cd, PySem.W.clsIn X.K (X.ca c) = some cd
  a : PySem.W.findIn X.K (.ref (X.ca c)) "__class__" = some (some (.builtin "object.__class__"))
  gt : PySem.W.specialIn X.K (.builtin "object.__class__") "__get__" = some (some (.builtin "getset_descriptor.__get__"))
  tk : PySem.W.takesIn X.K (.builtin "object.__class__") = some true
  m : PySem.W.mroIn X.K (X.ca c) (.type "object") = some true
  k : ∀ c', c' < n → PySem.W.kitOne X.K (.ref (X.ca c)) (.ref (X.ca c')) = some (sub c c')
  v : PySem.W.kitOne X.K (.ref (X.ca c)) (.type "ValueError") = some true
theorem XIs.kitx {sub : Nat → Nat → Bool} {n c : Nat} (x : XIs X sub n c) (e : Addr) : PySem.W.KitX X.K (.ref e) (.ref (X.ca c)) (fun h => ∃ o, PySem.W.InstAt h e o (X.ca c) none) where
  ty := fun M h _ ⟨o, I⟩ => I.type
  it := fun M h K _ => by
    obtain ⟨cd, hc⟩ := x.cl
    unfold PySem.W.clsIn at hc
    split at hc
    · rename_i ho
      intro A' Q' E' s' k q
      unfold isType loadHead
      exact wpAny_bind (wpAny_loadPart (k _ _ (K _ _ ho)) (wpAny_pure q))
    · cases hc
  ne := fun h tp dd its n sl K htp => by
    obtain ⟨cd, hc⟩ := x.cl
    unfold PySem.W.clsIn at hc
    split at hc
    · rename_i ho
      have h1 := K _ _ ho
      refine beq_eq_false_iff_ne.mpr fun q => ?_
      injection q with q
      subst q
      rw [htp] at h1; cases h1
    · cases hc
  ca := fun {prog w A E Q s} K ⟨o, I⟩ h => by
    have hf : PySem.W.findObj X.K (X.ca c) none "__class__" = some (.bind (.builtin "getset_descriptor.__get__") (.builtin "object.__class__")) := by
      obtain ⟨cd, hc⟩ := x.cl
      unfold PySem.W.findObj
      rw [hc, Option.bind_some, x.a, Option.bind_some]
      simp [x.gt, x.tk]
    exact x_class K I x.ga x.gn x.mb hf x.m h
theorem sm_isi (c : Cn X A d hn s μ σ) (kin : X.K.In s.heap) {sub : Nat → Nat → Bool} {n : Nat} (hx : ∀ k, XIs X sub n k) {t : Ty} (ht : ∀ k, t = .cls k → k < n) {v : V} {u : Value} (r : VR X s.heap μ v u) :
    Sm X (Wp X A (PySem.call (.builtin "isinstance") [u, tyVal X t])) (isiV sub t v σ) (Rl X) s μ := by
  have plain : (∀ k, v ≠ .exc k) → Sm X (Wp X A (PySem.call (.builtin "isinstance") [u, tyVal X t])) (if plainTy t then (match tyIs σ v with | some k => R.ok (V.bool (tyHas t k)) σ | .none => .stuck) else .stuck) (Rl X) s μ := fun _ => by
    split
    · rename_i hp
      cases hk : tyIs σ v with
      | none => exact Sm.stuck
      | some k => exact sm_isi0 c r t hp hk
    · exact Sm.stuck
  cases r with
  | @exc k a o fs e q hd =>
    have I : PySem.W.InstAt s.heap a o (X.ca k) none := ⟨e, q.1, (by obtain ⟨oc, od, dt, sl⟩ := o; cases hd; rfl), by rw [q.2]; trivial⟩
    cases t with
    | cls k' =>
      exact c.ok0 (.bool _) fun Q E h => PySem.W.kia_one ((hx k).kitx a) kin ⟨_, I⟩ ((hx k).k k' (ht k' rfl)) (by intro q; cases q) h
    | valueError => exact c.ok0 (.bool _) fun Q E h => PySem.W.kia_one ((hx k).kitx a) kin ⟨_, I⟩ (hx k).v (by intro q; cases q) h
    | _ => exact Sm.stuck
  | _ => exact plain (by intro k q; cases q)

theorem sm_len (c : Cn X A d hn s μ σ) {v : V} {u : Value} (r : VR X s.heap μ v u) : Sm X (Wp X A (PySem.call (.builtin "len") [u])) (lenV X.ns v σ) (Rl X) s μ := by
  have hl : lim = 16777216 := rfl
  cases r with
  | ref hm =>
    refine sm_onL c hm fun xs l n ho e rr hz => ?_
    exact c.ok0 (u := .int l.toArray.size (s.toks + 1)) (by rw [List.size_toArray, ← rr.length]; exact .int _ _) fun Q E h => call_len_list ⟨_, e, rfl, _, rfl⟩ (by rw [List.size_toArray]; (first | lia | omega)) (h _)
  | @tup vs a l n e b z rr => exact c.ok0 (v := .int vs.length) (u := .int l.toArray.size (s.toks + 1)) (by rw [List.size_toArray, ← rr.length]; exact .int _ _) fun Q E h => PyProof.Rows.len_tuple ⟨_, e, rfl, _, rfl⟩ (by rw [List.size_toArray]; (first | lia | omega)) (h _)
  | str x tk z => exact c.ok0 (v := .int (codes x).length) (u := .int x.length (s.toks + 1)) (by rw [← codes_length]; exact .int _ _) fun Q E h => len_str (by (first | lia | omega)) (h _)
  | scr =>
    obtain ⟨vs, L, hi, hz⟩ := c.scr
    exact c.ok0 (v := .int X.ns.length) (u := .int vs.toArray.size (s.toks + 1)) (by rw [List.size_toArray, hi.length]; exact .int _ _) fun Q E h => call_len_list (c.isScr L) (by rw [List.size_toArray]; (first | lia | omega)) (h _)
  | _ => exact Sm.stuck

theorem newL_ok {xs : List V} {P : PT Value} {rel : Heap → List Addr → V → Value → Prop} (h : xs.length ≤ lim → Sm X P (.ok (.ref σ.length) (σ ++ [.list xs])) rel s μ) : Sm X P (newL xs σ) rel s μ := by
  unfold newL
  split
  · exact h ‹_›
  · exact Sm.stuck
theorem sm_listOf (c : Cn X A d hn s μ σ) {a : Addr} {xs : List V} {l : List Value} {T : String} {n : Nat} (hT : T = "list" ∨ T = "tuple") (e : s.heap.get? a = some { cls := .type T, data := .seq l.toArray n }) (rr : VRs X s.heap μ xs l) :
    Sm X (Wp X A (PySem.call (.type "list") [.ref a])) (newL xs σ) (Rl X) s μ :=
  newL_ok fun hz => c.madeL hz fun Q E h => call_list_seq a hT e rfl rfl (fun h' c' k hD => h _ h' s.toks c' l (Nat.le_refl _) k hD (rr.mono (fun _ _ e _ => k _ _ e) fun _ _ e => e)) (by rw [List.size_toArray, ← rr.length]; exact hz)
theorem ERs.at {h : Heap} {kvs : List (List Nat × V)} {l : List (Str × Value)} (r : ERs X h μ kvs l) (j : Nat) (k : Str) (x : Value) (e : l[j]? = some (k, x)) : (kvs.map fun p => V.str p.1)[j]? = some (.str (codes k)) ∧ k.length ≤ Mine.lim := by
  have h1 : (kvs.map (·.1))[j]? = some (codes k) := by rw [r.keys, List.getElem?_map, e]; rfl
  rw [List.getElem?_map] at h1 ⊢
  obtain ⟨p, hp, q⟩ := Option.map_eq_some_iff.mp h1
  rw [hp, ← q]
  exact ⟨rfl, r.lim _ (List.mem_of_getElem? e)⟩
theorem VRs.of_get {h : Heap} : ∀ {xs : List V} {l : List Value}, xs.length = l.length → (∀ (j : Nat) (u : Value), l[j]? = some u → ∃ x, xs[j]? = some x ∧ VR X h μ x u) → VRs X h μ xs l
  | [], [], _, _ => .nil
  | [], _ :: _, e, _ => nomatch e
  | _ :: _, [], e, _ => nomatch e
  | x :: xs, u :: l, e, hg => by
    obtain ⟨y, h1, h2⟩ := hg 0 u rfl
    cases h1
    exact .cons h2 (VRs.of_get (Nat.succ.inj e) fun j w hw => hg (j + 1) w hw)
/-- the keys of a dict, as values -/
theorem keys_vrs {h : Heap} {kvs : List (List Nat × V)} {l : List (Str × Value)} {acc : Array Value} (rr : ERs X h μ kvs l) (hI : ItemsOf (fun i v => ∃ k x, l[i]? = some (k, x) ∧ (strKind X.prog X.w).is k v = true) acc l.length) (h' : Heap) : VRs X h' μ (kvs.map fun p => V.str p.1) acc.toList := by
  refine VRs.of_get (by rw [List.length_map, rr.length, Array.length_toList]; exact hI.1.symm) fun j u hu => ?_
  obtain ⟨k', x', h1, h2⟩ := hI.2 j u (by rw [← Array.getElem?_toList]; exact hu)
  obtain ⟨h3, h4⟩ := rr.at j k' x' h1
  obtain ⟨tk', rfl⟩ := Value.isStrOf_shape h2
  exact ⟨_, h3, .str _ _ h4⟩
theorem sm_listDict (c : Cn X A d true s μ σ) {i : Nat} {a : Addr} {kvs : List (List Nat × V)} (ho : σ[i]? = some (.dict kvs)) (hm : μ[i]? = some a) :
    Sm X (Wp X A (PySem.call (.type "list") [.ref a])) (newL (kvs.map fun p => V.str p.1) σ) (Rl X) s μ := by
  obtain ⟨l, D, rr, hz⟩ := c.dict ho hm
  obtain ⟨ep, DA⟩ := D.dictAt
  refine newL_ok fun hl => c.madeL hl fun Q E h => PySem.W.kdl_call (PySem.W.kdl_dict (ep := ep) (c.noSys hm)) (c.rm.handled rfl) DA hz fun h' tk acc c' k hD hI => ?_
  exact h _ h' tk c' acc.toList (Nat.le_refl _) k (by simpa using hD) (keys_vrs rr hI h')
theorem sm_list (c : Cn X A d true s μ σ) {v : V} {u : Value} (r : VR X s.heap μ v u) : Sm X (Wp X A (PySem.call (.type "list") [u])) (biV X.ns .list v σ) (Rl X) s μ := by
  cases r with
  | @ref i a hm =>
    show Sm X _ ((pick (match σ[i]? with | some (.list xs) => some xs | some (.dict kvs) => some (kvs.map fun p => V.str p.1) | none => none)).bnd newL σ) _ _ _
    rcases ho : σ[i]? with _ | ⟨xs⟩ | ⟨kvs⟩
    · exact Sm.stuck
    · obtain ⟨l, n, e, rr, hz⟩ := c.list ho hm
      exact sm_listOf c (.inl rfl) e rr
    · exact sm_listDict c ho hm
  | tup e b z rr => exact sm_listOf c (.inr rfl) e rr
  | _ => exact Sm.stuck
theorem sm_dict (c : Cn X A d hn s μ σ) {v : V} {u : Value} (r : VR X s.heap μ v u) : Sm X (Wp X A (PySem.call (.type "dict") [u])) (biV X.ns .dict v σ) (Rl X) s μ := by
  cases r <;> first | exact Sm.stuck | skip
  rename_i i a hm
  refine sm_onD c hm fun kvs l ho D rr hz => ?_
  show Sm X _ (newD kvs σ) _ _ _
  unfold newD
  split
  · refine Sm.ok fun Q E hQ => kt_call_dict (c.noSys hm) D hz fun h' hD hs => ?_
    have k : ∀ b o, s.heap.get? b = some o → h'.get? b = some o := fun b o e => (hs.2 b (Nat.ne_of_lt (Heap.lt_size e))).trans (Heap.get?_push_of_some _ e)
    have S1 : Step X s μ { s with heap := h' } μ σ := Step.grow c k (by show _ ≤ h'.objs.size; rw [hs.1, Heap.size_push]; exact Nat.le_succ _) rfl rfl
    have hno : s.heap.objs.size ∉ μ := fun hm => Nat.lt_irrefl _ (c.hr.lt hm)
    exact hQ _ _ (μ ++ [s.heap.objs.size]) (S1.adopt c.base hno (Nat.le_refl _) (.dict hD hz (rr.like fun q => (S1.vrs c.hr q).mono (fun _ _ e _ => e) ext_get))) (.ref (c.newRef _))
  · exact Sm.stuck
theorem sm_int (c : Cn X A d hn s μ σ) {v : V} {u : Value} (r : VR X s.heap μ v u) : Sm X (Wp X A (PySem.call (.type "int") [u])) (biV X.ns .int v σ) (Rl X) s μ := by
  cases r <;> first | exact Sm.stuck | skip
  exact c.ok0 (.int _ s.toks) fun Q E h => call_int_bool (h _)
end
end Mine

set_option maxRecDepth 100000
set_option linter.all false
set_option genSizeOf false
set_option genSizeOfSpec false
set_option genInjectivity false
namespace Mine
open PySem PyProof.Rows PySem.Calls PySem.SeqAt

/-! Sorting: what the machine hands back is the sorted row. -/
theorem lexLe_lt : ∀ (a b : List Nat), lexLe a b = !Spec.ltCps b a
  | [], [] => rfl
  | [], _ :: _ => rfl
  | _ :: _, [] => rfl
  | a :: x, b :: y => by
    show (if a < b then true else if b < a then false else lexLe x y) = !(decide (b < a) || (b == a && Spec.ltCps y x))
    rw [lexLe_lt x y]
    rcases Nat.lt_trichotomy a b with h | h | h
    · rw [if_pos h, decide_eq_false (Nat.lt_asymm h), beq_eq_false_iff_ne.mpr (Nat.ne_of_gt h)]; rfl
    · subst h; rw [if_neg (Nat.lt_irrefl _), if_neg (Nat.lt_irrefl _), decide_eq_false (Nat.lt_irrefl _), beq_self_eq_true]; rfl
    · rw [if_neg (Nat.lt_asymm h), if_pos h, decide_eq_true h]; rfl
theorem lexLe_cons {a b : Nat} {x y : List Nat} : lexLe (a :: x) (b :: y) = true ↔ a < b ∨ a = b ∧ lexLe x y = true := by
  show (if a < b then true else if b < a then false else lexLe x y) = true ↔ _
  rcases Nat.lt_trichotomy a b with h | h | h
  · rw [if_pos h]; exact ⟨fun _ => .inl h, fun _ => rfl⟩
  · subst h; rw [if_neg (Nat.lt_irrefl _), if_neg (Nat.lt_irrefl _)]; exact ⟨fun q => .inr ⟨rfl, q⟩, fun q => q.elim (fun q => absurd q (Nat.lt_irrefl _)) fun q => q.2⟩
  · rw [if_neg (Nat.lt_asymm h), if_pos h]
    exact ⟨fun q => (nomatch q), fun q => q.elim (fun q => absurd q (Nat.lt_asymm h)) fun q => absurd h (by rw [q.1]; exact Nat.lt_irrefl _)⟩
theorem lexLe_trans : ∀ {a b c : List Nat}, lexLe a b = true → lexLe b c = true → lexLe a c = true
  | [], _, _, _, _ => rfl
  | _ :: _, [], _, h, _ => nomatch h
  | _ :: _, _ :: _, [], _, h => nomatch h
  | a :: x, b :: y, c :: z, h1, h2 => by
    rw [lexLe_cons] at h1 h2 ⊢
    rcases h1 with h1 | ⟨rfl, h1⟩
    · rcases h2 with h2 | ⟨rfl, h2⟩
      · exact .inl (Nat.lt_trans h1 h2)
      · exact .inl h1
    · rcases h2 with h2 | ⟨rfl, h2⟩
      · exact .inl h2
      · exact .inr ⟨rfl, lexLe_trans h1 h2⟩
theorem lexLe_anti : ∀ {a b : List Nat}, lexLe a b = true → lexLe b a = true → a = b
  | [], [], _, _ => rfl
  | [], _ :: _, _, h => nomatch h
  | _ :: _, [], h, _ => nomatch h
  | a :: x, b :: y, h1, h2 => by
    rw [lexLe_cons] at h1 h2
    rcases h1 with h1 | ⟨rfl, h1⟩
    · rcases h2 with h2 | ⟨h2, _⟩
      · exact absurd h2 (Nat.lt_asymm h1)
      · exact absurd h1 (by rw [h2]; exact Nat.lt_irrefl _)
    · rcases h2 with h2 | ⟨_, h2⟩
      · exact absurd h2 (Nat.lt_irrefl _)
      · rw [lexLe_anti h1 h2]
theorem lexLe_total : ∀ (a b : List Nat), lexLe a b = true ∨ lexLe b a = true
  | [], _ => .inl rfl
  | _ :: _, [] => .inr rfl
  | a :: x, b :: y => by
    rw [lexLe_cons, lexLe_cons]
    rcases Nat.lt_trichotomy a b with h | h | h
    · exact .inl (.inl h)
    · subst h; exact (lexLe_total x y).imp (fun q => .inr ⟨rfl, q⟩) fun q => .inr ⟨rfl, q⟩
    · exact .inr (.inl h)
noncomputable abbrev Up (l : List (List Nat)) : Prop := l.Pairwise fun a b => lexLe a b = true
theorem ins_perm (x : List Nat) : ∀ l, (ins lexLe x l).Perm (x :: l)
  | [] => .refl _
  | y :: r => by
    show (if lexLe x y then x :: y :: r else y :: ins lexLe x r).Perm _
    split
    · exact .refl _
    · exact ((ins_perm x r).cons y).trans (.swap x y r)
theorem sort_perm : ∀ l : List (List Nat), (sort lexLe l).Perm l
  | [] => .refl _
  | x :: l => (ins_perm x _).trans ((sort_perm l).cons x)
theorem ins_up (x : List Nat) : ∀ {l : List (List Nat)}, Up l → Up (ins lexLe x l)
  | [], _ => List.pairwise_singleton _ _
  | y :: r, h => by
    obtain ⟨h1, h2⟩ := List.pairwise_cons.mp h
    show Up (if lexLe x y then x :: y :: r else y :: ins lexLe x r)
    split
    · rename_i q
      refine List.pairwise_cons.mpr ⟨fun z hz => ?_, h⟩
      rcases List.mem_cons.mp hz with rfl | hz
      · exact q
      · exact lexLe_trans q (h1 z hz)
    · rename_i q
      refine List.pairwise_cons.mpr ⟨fun z hz => ?_, ins_up x h2⟩
      rcases List.mem_cons.mp ((ins_perm x r).mem_iff.mp hz) with rfl | hz
      · exact (lexLe_total z y).resolve_left q
      · exact h1 z hz
theorem sort_up : ∀ l : List (List Nat), Up (sort lexLe l)
  | [] => List.Pairwise.nil
  | x :: l => ins_up x (sort_up l)
theorem up_eq {l l' : List (List Nat)} (h : l.Perm l') (h1 : Up l) (h2 : Up l') : l = l' :=
  h.eq_of_pairwise (fun a b _ _ x y => lexLe_anti x y) h1 h2
theorem up_of_rising : ∀ (p : Str) (l : List Str), risingS p l = true → Up ((p :: l).map codes)
  | p, [], _ => List.pairwise_singleton _ _
  | p, x :: r, h => by
    obtain ⟨h1, h2⟩ := (Bool.and_eq_true _ _).mp (h : (!Spec.ltCps x.cps.toList p.cps.toList && risingS x r) = true)
    have ih := up_of_rising x r h2
    have hpx : lexLe (codes p) (codes x) = true := (lexLe_lt _ _).trans h1
    refine List.pairwise_cons.mpr ⟨fun z hz => ?_, ih⟩
    rcases List.mem_cons.mp hz with rfl | hz
    · exact hpx
    · exact lexLe_trans hpx ((List.pairwise_cons.mp ih).1 z hz)
theorem up_of_sorted : ∀ (l : List Str), sortedS l = true → Up (l.map codes)
  | [], _ => List.Pairwise.nil
  | x :: r, h => up_of_rising x r h
theorem sorted_codes {ss ss' : List Str} (hp : ss'.Perm ss) (hs : sortedS ss' = true) : ss'.map codes = sort lexLe (ss.map codes) :=
  up_eq ((hp.map codes).trans (sort_perm _).symm) (up_of_sorted _ hs) (sort_up _)

section
variable {X : W} {A : Around} {d : Nat} {hn : Bool} {s s' s'' s₀ : Shared} {μ μ' μ'' μ₀ : List Addr} {σ σ' σ'' σ₀ : H}

theorem strs_as {h : Heap} : ∀ {xs : List V} {l : List Value} {ss : List (List Nat)}, strsOf xs = some ss → VRs X h μ xs l → ∃ ys, StrsAre l ys ∧ ss = ys.map codes ∧ ∀ y ∈ ys, y.length ≤ Mine.lim
  | [], _, _, e, .nil => by cases e; exact ⟨[], .nil, rfl, fun _ h => nomatch h⟩
  | x :: xs, _, _, e, .cons r rs => by
    cases r <;> first | (cases e; done) | skip
    rename_i x t z
    obtain ⟨b, hb, rfl⟩ := Option.map_eq_some_iff.mp e
    obtain ⟨ys, h1, rfl, h3⟩ := strs_as hb rs
    exact ⟨x :: ys, .cons x t h1, rfl, fun y hy => (List.mem_cons.mp hy).elim (fun q => q ▸ z) (h3 y)⟩
theorem strs_to {h : Heap} : ∀ {l : List Value} {ys : List Str}, StrsAre l ys → (∀ y ∈ ys, y.length ≤ Mine.lim) → VRs X h μ ((ys.map codes).map V.str) l
  | _, _, .nil, _ => .nil
  | _, _, .cons x t r, h => .cons (.str x t (h x (List.mem_cons_self ..))) (strs_to r fun y hy => h y (List.mem_cons_of_mem _ hy))
/-- a row of strings is put in order -/
theorem list_sort_strs {D : Addr} {n : Nat} {vs : List Value} {ss : List Str} {Q : Value → Shared → Prop} {E : Value → Shared → Prop} (ho : s.heap.get? D = some (seqObj "list" vs.toArray n)) (hS : StrsAre vs ss) (h64 : vs.length < 64)
    (h : ∀ (out : Array Value) (ss' : List Str), StrsAre out.toList ss' → ss'.Perm ss → sortedS ss' = true → Q .none { s with heap := sortedHeap s.heap D vs out }) :
    wpAny (Mo X) A (PySem.call (.builtin "list.sort") [.ref D]) Q E s :=
  wpAny_call_entry slot_list_sort ⟨_, ho, rfl⟩ entry_list_sort (list_sort_treeK strKind_oneLt ho hS.keysOf (fun v₁ v₂ rest e => keyKind_strs (by rw [← e]; exact hS)) h64 fun st' a1 a2 => by
    obtain ⟨ss', h1, h2, h3⟩ := sorted_out_str hS a1 a2
    exact ⟨_, rfl, h _ ss' h1 h2 h3⟩) (args_list_sort _)
theorem sm_sorted (c : Cn X A d true s μ σ) {v : V} {u : Value} (r : VR X s.heap μ v u) : Sm X (Wp X A (PySem.call (.builtin "sorted") [u])) (biV X.ns .sorted v σ) (Rl X) s μ := by
  cases r <;> first | exact Sm.stuck | skip
  rename_i i a hm
  have go : ∀ xs : List V, itemsV σ (.ref i) = some xs → (∀ ss, strsOf xs = some ss → xs.length < 64 → Sm X (Wp X A (PySem.call (.builtin "sorted") [.ref a])) (newL ((sort lexLe ss).map V.str) σ) (Rl X) s μ) →
      Sm X (Wp X A (PySem.call (.builtin "sorted") [.ref a])) ((pick ((itemsV σ (.ref i)).bind sortV)).bnd newL σ) (Rl X) s μ := fun xs e h => by
    rw [e]
    show Sm X _ ((pick (if xs.length < 64 then (strsOf xs).map fun ss => (sort lexLe ss).map V.str else none)).bnd newL σ) _ _ _
    split
    · cases hs : strsOf xs with
      | none => exact Sm.stuck
      | some ss => exact h ss hs ‹_›
    · exact Sm.stuck
  show Sm X _ ((pick ((itemsV σ (.ref i)).bind sortV)).bnd newL σ) _ _ _
  rcases ho : σ[i]? with _ | ⟨xs⟩ | ⟨kvs⟩
  · have e : itemsV σ (.ref i) = none := by unfold itemsV; simp only [ho]
    rw [e]; exact Sm.stuck
  · have e : itemsV σ (.ref i) = some xs := by unfold itemsV; simp only [ho]
    refine go xs e fun ss hs h64 => ?_
    obtain ⟨l, n, el, rr, hz⟩ := c.list ho hm
    obtain ⟨ys, h1, rfl, h3⟩ := strs_as hs rr
    refine newL_ok fun hl => c.madeL hl fun Q E h => sorted_strs ⟨_, el, rfl, _, rfl⟩ h1 (by rw [← rr.length]; exact h64) fun out ss' a1 a2 a3 => ?_
    obtain ⟨e, he⟩ := sortedAll_at s.heap l out
    refine h _ _ s.toks e out.toList (Nat.le_succ _) (fun _ _ => sortedAll_old) (by simpa [seqObj] using he) ?_
    rw [← sorted_codes a2 a3]
    exact strs_to a1 fun y hy => h3 y (a2.mem_iff.mp hy)
  · have e : itemsV σ (.ref i) = some (kvs.map fun p => V.str p.1) := by unfold itemsV; simp only [ho]
    refine go _ e fun ss hs h64 => ?_
    obtain ⟨l, D, rr, hz⟩ := c.dict ho hm
    obtain ⟨ep, DA⟩ := D.dictAt
    refine newL_ok fun hl => c.madeL hl fun Q E h => ?_
    refine call_function_entry kind_sorted plain_sorted entry_sorted (args_sorted1 _) ?_
    unfold Builtin.«sorted»
    refine wpAny_bind (m := checkCount "sorted" 1 1 _) (wpAny_pure ?_)
    refine wpAny_bind (sized (PySem.W.kdu_collect (A := A.in1) (PySem.W.kdl_dict (ep := ep) (c.noSys hm)) (c.rm.handled rfl) DA hz fun h' tk acc hk hacc hsz => ?_))
    have rk := keys_vrs (h' := h') rr hacc
    obtain ⟨ys, h1, rfl, h3⟩ := strs_as hs rk
    have hlen : acc.toList.length < 64 := by rw [← rk.length]; exact h64
    refine wpAny_bind (wpAny_newList ?_ (by have : sizeLine = 16777216 := rfl; (first | lia | omega)))
    have hoL : (h'.push (seqObj "list" acc.toList.toArray 0)).get? h'.objs.size = some (seqObj "list" acc.toList.toArray 0) := Heap.get?_push_size _ rfl
    refine wpAny_bind (wpAny_holding (list_sort_strs (s := { s with heap := h'.push (seqObj "list" acc.toList.toArray 0), toks := tk }) hoL h1 hlen fun out ss' a1 a2 a3 => ?_))
    refine wpAny_pure ⟨_, rfl, ?_⟩
    obtain ⟨e, he⟩ := sortedHeap_at (vs := acc.toList) (out := out) hoL
    refine h _ _ tk e out.toList hsz (fun b o eb => ?_) (by simpa [seqObj] using he) ?_
    · have := Heap.lt_size (hk b o eb)
      exact (sortedHeap_old (Nat.ne_of_lt this) (by rw [Heap.size_push]; exact Nat.lt_succ_of_lt this)).trans (Heap.get?_push_of_some _ (hk b o eb))
    · rw [← sorted_codes a2 a3]
      exact strs_to a1 fun y hy => h3 y (a2.mem_iff.mp hy)
end
end Mine

set_option maxRecDepth 100000
set_option linter.all false
set_option genSizeOf false
set_option genSizeOfSpec false
set_option genInjectivity false
namespace Mine
open PySem PyProof.Rows PySem.Calls PySem.SeqAt

theorem str_digs : ∀ n : Nat, n < 1000 → codes (Str.ofString (toString (n : Int))) = digs n := by decide +kernel

section
open Builtin.Str StrLaws
theorem occ_one (x y : Str) (hi f : Nat) (k : Nat) : ∀ l : List Nat, (forIn l (#[k], f) (occBody x y hi 1)).run.fst = #[k]
  | [] => rfl
  | a :: l => by
    rw [List.forIn_cons]
    unfold occBody
    rw [if_neg (fun h => absurd h.1.1.1 (by simp))]
    exact occ_one x y hi f k l
noncomputable def hitOf (l : List Nat) : Int := match l with | i :: _ => (i : Int) | [] => -1
theorem find_at (x : Str) (c : Nat) : ∀ (m k : Nat), k + m = x.length + 1 → hitOf (forIn (List.range' k m) (#[], 0) (occBody x ⟨#[c]⟩ x.length 1)).run.fst.toList = findN c ((codes x).drop k) k
  | 0, k, e => by
    rw [List.drop_eq_nil_of_le (by rw [codes_length]; (first | lia | omega))]; rfl
  | m + 1, k, e => by
    rw [List.range'_succ, List.forIn_cons]
    have hs := subAt_one x c k
    by_cases h : x.cps.toList[k]? = some c
    · have h1 := hs.mpr h
      have hd : (codes x).drop k = c :: (codes x).drop (k + 1) := by
        obtain ⟨hk, e⟩ := List.getElem?_eq_some_iff.mp h
        exact (List.drop_eq_getElem_cons hk).trans (by rw [e]; rfl)
      unfold occBody
      rw [if_pos ⟨⟨⟨by simp, Nat.zero_le _⟩, h1.1⟩, h1.2⟩, hd]
      show hitOf (forIn (List.range' (k + 1) m) (#[k], _) (occBody x ⟨#[c]⟩ x.length 1)).run.fst.toList = _
      rw [occ_one]
      show (k : Int) = if c = c then (k : Int) else _
      rw [if_pos rfl]
    · unfold occBody
      rw [if_neg (fun q => h (hs.mp ⟨q.1.2, q.2⟩))]
      refine (find_at x c m (k + 1) (by (first | lia | omega))).trans ?_
      by_cases hk : k < (codes x).length
      · rw [List.drop_eq_getElem_cons hk]
        show _ = if (codes x)[k] = c then (k : Int) else findN c ((codes x).drop (k + 1)) (k + 1)
        rw [if_neg (show ¬ (codes x)[k] = c from fun q => h (List.getElem?_eq_some_iff.mpr ⟨hk, q⟩))]
      · rw [List.drop_eq_nil_of_le (by (first | lia | omega)), List.drop_eq_nil_of_le (by (first | lia | omega))]; rfl
theorem find_one (x : Str) (c : Nat) : (match occurrences x ⟨#[c]⟩ 0 x.length 1 with | i :: _ => (i : Int) | [] => -1) = findN c (codes x) 0 := by
  have := find_at x c (x.length + 1) 0 (by (first | lia | omega))
  rw [occ_eq]
  exact this
end

section
variable {X : W} {A : Around} {d : Nat} {hn : Bool} {s s' s'' s₀ : Shared} {μ μ' μ'' μ₀ : List Addr} {σ σ' σ'' σ₀ : H}

theorem sm_str (c : Cn X A d hn s μ σ) {v : V} {u : Value} (r : VR X s.heap μ v u) : Sm X (Wp X A (PySem.call (.type "str") [u])) (biV X.ns .str v σ) (Rl X) s μ := by
  cases r <;> first | exact Sm.stuck | skip
  rename_i i t
  show Sm X _ ((if 0 ≤ i ∧ i < 1000 then M.ret (V.str (digs i.toNat)) else stuck : M V) σ) _ _ _
  split
  · rename_i hi
    obtain ⟨n, rfl⟩ := Int.eq_ofNat_of_zero_le hi.1
    have hn : n < 1000 := by (first | lia | omega)
    have e := str_digs n hn
    have hl : lim = 16777216 := rfl
    have hd : (digs n).length ≤ 3 := by unfold digs; split <;> (try split) <;> simp
    refine c.ok0 (v := .str (digs n)) (u := .str (Str.ofString (toString (n : Int))) s.toks) (by rw [← e]; exact .str _ _ (by rw [← codes_length, e]; (first | lia | omega))) fun Q E h => P.str_of_int ?_ (h _)
    show (n : Int).natAbs.log2 < 1920
    rw [Int.natAbs_natCast]
    have := Nat.log2_le_self n
    (first | lia | omega)
  · exact Sm.stuck

theorem hint_rev {I : Addr} {Q : Bool → Shared → Prop} {E : Value → Shared → Prop} (hT : s.TypeIs (.ref I) "list_reverseiterator") (h : Q false s) : wpAny (Mo X) A (Builtin.List.listLengthHint (.ref I)) Q E s := by
  have n1 : typeLookup (.type "list_reverseiterator") "__len__" = pure none := by rw [typeLookup_type, builtinLookup_eq_fast]; kernel_rfl
  have n2 : typeLookup (.type "list_reverseiterator") "__length_hint__" = pure (some (.builtin "list_reverseiterator.__length_hint__")) := by rw [typeLookup_type, builtinLookup_eq_fast]; kernel_rfl
  unfold Builtin.List.listLengthHint
  refine wpAny_bind (wpAny_specialOf hT n1 ?_)
  show wpAny _ A (specialOf (Value.ref I) (Str.ofString "__length_hint__") >>= _) _ _ _
  refine wpAny_bind (wpAny_specialOf hT n2 ?_)
  generalize hid : ("list_reverseiterator.__length_hint__" : String) = id0
  wp_delta
  rw [show splitId id0 = some ("list_reverseiterator", "__length_hint__") from by subst hid; decide +kernel]
  subst hid
  refine wpAny_bind (wpAny_isInstance (T := "list_reverseiterator") (b := true) hT (by rw [isSubtype_type]; kernel_rfl) ?_)
  refine wpAny_ite_split (fun hab => absurd hab (by decide)) (fun _ => ?_)
  refine wpAny_ite_split (fun _ => ?_) (fun hab => absurd (by decide +kernel) hab)
  refine wpAny_ite_split (fun hab => absurd hab (by decide +kernel)) (fun _ => ?_)
  exact wpAny_pure h
theorem extend_rev {S I l : Addr} {items : Array Value} {res : Value} {c₀ : Nat} {R : Result → Shared → Prop} (hh : A.handled = none) (hSI : S ≠ I) (hSl : S ≠ l) (hlI : l ≠ I) (hI : s.heap.IsRevIter I l ((items.size : Int) - 1)) (hL : s.heap.IsList l items) (hn : items.size ≤ sizeLine)
    (hS : s.heap.get? S = some { cls := .type "list", data := .seq #[] c₀ })
    (hR : ∀ h' tk acc' c', (∀ b o, b ≠ S → b ≠ I → s.heap.get? b = some o → h'.get? b = some o) → h'.get? S = some { cls := .type "list", dict := none, data := .seq acc' c', slots := #[] } → ItemsOf (fun i v => items[items.size - 1 - i]? = some v) acc' items.size → R (.ok (.ret res)) { s with heap := h', toks := tk }) :
    wpAny (Mo X) A.in1 (Builtin.List.listExtendWith (.ref S) (.ref I) res)
      (fun fin s' => match fin with | .done f => R (.ok f) s' | .again c' => c'.quiet = true ∧ codeAny (Mo X) A c' R s') (fun e s' => R (.error e) s') s := by
  have W := Walks.listRev (prog := X.prog) (w := X.w) (A := A.in1) hh I l hlI items
  have hSf : S ∉ [I, l] := by simp only [List.mem_cons, List.not_mem_nil, or_false, not_or]; exact ⟨hSI, hSl⟩
  have st : (fun i (h : Heap) => i ≤ items.size ∧ h.IsRevIter I l ((items.size : Int) - 1 - (i : Int)) ∧ h.IsList l items) 0 s.heap := ⟨Nat.zero_le _, by simpa using hI, hL⟩
  have key : ∀ (h : Heap) (c₁ tk : Nat), (0 ≤ items.size ∧ h.IsRevIter I l ((items.size : Int) - 1 - ((0 : Nat) : Int)) ∧ h.IsList l items) → (∀ b o, b ≠ S → s.heap.get? b = some o → h.get? b = some o) →
      h.get? S = some { cls := .type "list", data := .seq #[] c₁ } → codeAny (Mo X) A (.builtin "list.extend.loop" ⟨[.ref S, .ref I, res], []⟩) R { s with heap := h, toks := tk } := by
    intro h c₁ tk hst hk hS₁
    refine codeAny_extend_loopS W.toS hn S hSf res _ 0 _ #[] c₁ rfl (Nat.zero_le _) hst hS₁ (ItemsOf.nil _) fun s' acc' c' hm hS' hacc => ?_
    rw [Moved.eq_with hm]
    refine hR s'.heap s'.toks acc' c' (fun b o hb hb' e => hm.heap b o (fun hmem => ?_) (hk b o hb e)) hS' hacc
    rcases List.mem_cons.mp hmem with e' | hmem
    · exact hb e'
    · exact hb' (List.mem_singleton.mp hmem)
  unfold Builtin.List.listExtendWith
  refine wpAny_bind (wpAny_typeOf (T := "list_reverseiterator") hI.typeIs ?_)
  have h1 : Builtin.List.listSameRef (.ref S) (.ref I) = false := by simp [Builtin.List.listSameRef, hSI]
  have h2 : (Value.type "list_reverseiterator" == Value.type "list") = false := by decide
  have h3 : (Value.type "list_reverseiterator" == Value.type "tuple") = false := by decide
  simp only [h1, h2, h3, Bool.or_false, Bool.false_eq_true, if_false]
  refine wpAny_bind (wpAny_pyIter_revIter hI ?_)
  refine wpAny_bind (wpAny_holding (hint_rev hI.typeIs ?_))
  refine wpAny_ite_split (fun _ => ?_) (fun _ => wpAny_pure ⟨plainId_quiet PySem.F.plain_extend_loop _, key _ c₀ _ st (fun b o _ e => e) hS⟩)
  refine wpAny_bind (wpAny_rule ?_)
  refine wpAny_bind ?_
  show wpAny _ _ (updateSeq S (·.push .none) >>= fun _ => updateSeq S (·.pop)) _ _ _
  refine wpAny_bind (wpAny_updateSeq hS rfl ?_)
  have hS₂ := Heap.get?_update_self (Obj.mapSeq (·.push Value.none)) hS rfl
  refine wpAny_updateSeq (hz := by seq_fits) hS₂ rfl ?_
  have hS₃ := Heap.get?_update_self (Obj.mapSeq (·.pop)) hS₂ rfl
  have oth : ∀ b o, b ≠ S → s.heap.get? b = some o → ((s.heap.update S (Obj.mapSeq (·.push Value.none))).update S (Obj.mapSeq (·.pop))).get? b = some o :=
    fun b o hb e => (Heap.get?_update_other _ _ (Ne.symm hb)).trans ((Heap.get?_update_other _ _ (Ne.symm hb)).trans e)
  exact wpAny_pure ⟨plainId_quiet PySem.F.plain_extend_loop _, key _ _ _ (W.frame 0 _ _ st fun b hb o e => oth b o (fun h => hSf (h ▸ hb)) e) oth hS₃⟩
theorem list_of_rev {I l : Addr} {items : Array Value} {Q : Value → Shared → Prop} {E : Value → Shared → Prop} (hh : A.handled = none) (hlI : l ≠ I) (hI : s.heap.IsRevIter I l ((items.size : Int) - 1)) (hL : s.heap.IsList l items) (hn : items.size ≤ sizeLine)
    (hQ : ∀ h' tk acc' c', (∀ b o, b ≠ I → s.heap.get? b = some o → h'.get? b = some o) → h'.get? s.heap.objs.size = some { cls := .type "list", dict := none, data := .seq acc' c', slots := #[] } → ItemsOf (fun i v => items[items.size - 1 - i]? = some v) acc' items.size → Q (.ref s.heap.objs.size) { s with heap := h', toks := tk }) :
    wpAny (Mo X) A (PySem.call (.type "list") [.ref I]) Q E s := by
  refine callType_codes (Q₁ := fun obj s₁ => obj = .ref s.heap.objs.size ∧ s₁ = { s with heap := s.heap.push { cls := .type "list", data := .seq #[] } }) PySem.F.called_list (PySem.F.typeCall_list_1 _) PySem.F.entry_list_init
    (code_list_new _ ⟨rfl, rfl⟩) fun obj s₁ h₁ => ?_
  obtain ⟨rfl, rfl⟩ := h₁
  have hS : (s.heap.push { cls := .type "list", data := .seq #[] }).get? s.heap.objs.size = some { cls := .type "list", data := .seq #[] } := Heap.get?_push_size _ rfl
  have ltI : I < s.heap.objs.size := by obtain ⟨_, e, _⟩ := hI; exact Heap.lt_size e
  have ltl : l < s.heap.objs.size := by obtain ⟨_, e, _⟩ := hL; exact Heap.lt_size e
  refine ⟨⟨_, hS, rfl⟩, PySem.F.args_list_init_2 _ _, ?_⟩
  have hlt : ∀ b o, s.heap.get? b = some o → b ≠ s.heap.objs.size := fun b o e => Nat.ne_of_lt (Heap.lt_size e)
  generalize s.heap.objs.size = S at *
  show wpAny _ _ (do let old ← Builtin.List.listItems (.ref S); Builtin.List.listUpdate (.ref S) (fun _ => #[]); letGo old.toList.reverse; Builtin.List.listExtendWith (.ref S) (.ref I) .none) _ _ _
  refine wpAny_bind ?_
  unfold Builtin.List.listItems
  refine wpAny_bind (wpAny_seqItems hS rfl (wpAny_pure ?_))
  show wpAny _ _ (updateSeq S (fun _ => #[]) >>= fun _ => letGo (#[] : Array Value).toList.reverse >>= fun _ => Builtin.List.listExtendWith (.ref S) (.ref I) .none) _ _ _
  refine wpAny_bind (wpAny_updateSeq hS rfl ?_)
  have hS₂ := Heap.get?_update_self (Obj.mapSeq (fun _ => (#[] : Array Value))) hS rfl
  have oth : ∀ b o, b ≠ S → s.heap.get? b = some o → ((s.heap.push { cls := .type "list", data := .seq #[] }).update S (Obj.mapSeq (fun _ => (#[] : Array Value)))).get? b = some o :=
    fun b o hb e => (Heap.get?_update_other _ _ (Ne.symm hb)).trans (Heap.get?_push_of_some _ e)
  refine wpAny_bind (wpAny_letGo ?_)
  refine extend_rev (A := A.in1) hh (Nat.ne_of_gt ltI) (Nat.ne_of_gt ltl) hlI (hI.at fun o e => oth _ o (Nat.ne_of_lt ltI) e) (hL.at fun o e => oth _ o (Nat.ne_of_lt ltl) e) hn hS₂ fun h' tk acc' c' hk hS' hacc => ⟨rfl, ?_⟩
  exact hQ h' tk acc' c' (fun b o hb e => hk b o (hlt b o e) hb (oth b o (hlt b o e) e)) hS' hacc
theorem rev_items {h : Heap} {xs : List V} {l : List Value} {acc : Array Value} (rr : VRs X h μ xs l) (hI : ItemsOf (fun i v => l.toArray[l.toArray.size - 1 - i]? = some v) acc l.toArray.size) : VRs X h μ xs.reverse acc.toList := by
  have e : acc.toList = l.reverse := by
    have h1 : acc.toList.length = l.length := by rw [Array.length_toList]; simpa using hI.1
    refine List.ext_getElem? fun j => ?_
    by_cases hj : j < l.length
    · have := hI.2 j acc.toList[j] (by rw [← Array.getElem?_toList]; exact List.getElem?_eq_getElem _)
      change l.toArray[l.toArray.size - 1 - j]? = some acc.toList[j] at this
      rw [List.getElem?_toArray, List.size_toArray] at this
      rw [List.getElem?_reverse hj, this, List.getElem?_eq_getElem]
    · rw [List.getElem?_eq_none (by (first | lia | omega)), List.getElem?_eq_none (by simp; (first | lia | omega))]
  rw [e]
  exact rr.reverse
theorem sm_rev (c : Cn X A d true s μ σ) {v : V} {u : Value} (r : VR X s.heap μ v u) :
    Sm X (fun Q E s => wpAny (Mo X) A (PySem.call (.type "reversed") [u]) (fun w s' => wpAny (Mo X) A (PySem.call (.type "list") [w]) Q E s') E s) (revV v σ) (Rl X) s μ := by
  cases r <;> first | exact Sm.stuck | skip
  rename_i i a hm
  refine sm_onL c hm fun xs l n ho e rr hz => newL_ok fun hl => Sm.ok fun Q E hQ => call_reversed_list (items := l.toArray) ⟨_, e, rfl, _, rfl⟩ ?_
  have hlt : a < s.heap.objs.size := Heap.lt_size e
  have hL : (s.heap.push (revObj a ((l.toArray.size : Int) - 1))).IsList a l.toArray := ⟨_, Heap.get?_push_of_some _ e, rfl, _, rfl⟩
  refine sized (list_of_rev (s := { s with heap := s.heap.push (revObj a ((l.toArray.size : Int) - 1)) }) (I := s.heap.objs.size) (l := a) (items := l.toArray) (c.rm.handled rfl) (Nat.ne_of_lt hlt) ⟨_, Heap.get?_push_size _ rfl, rfl, rfl⟩ hL (by rw [List.size_toArray]; exact hz) fun h' tk acc c' k eD hI hs => ?_)
  have hs1 : (s.heap.push (revObj a ((l.toArray.size : Int) - 1))).objs.size = s.heap.objs.size + 1 := Heap.size_push ..
  have k' : ∀ b o, s.heap.get? b = some o → h'.get? b = some o := fun b o eb => k b o (Nat.ne_of_lt (Heap.lt_size eb)) (Heap.get?_push_of_some _ eb)
  have S : Step X s μ { s with heap := h', toks := tk } μ σ := Step.grow c k' (Nat.le_trans (by rw [hs1]; exact Nat.le_succ _) hs) rfl rfl
  have hD : s.heap.objs.size ≤ (s.heap.push (revObj a ((l.toArray.size : Int) - 1))).objs.size := by rw [hs1]; exact Nat.le_succ _
  have hno : (s.heap.push (revObj a ((l.toArray.size : Int) - 1))).objs.size ∉ μ := fun hm => absurd (c.hr.lt hm) (Nat.not_lt.mpr hD)
  have r2 := rev_items (S.vrs c.hr rr) hI
  exact hQ _ _ (μ ++ [_]) (S.adopt c.base hno hD (.list (l := acc.toList) (n := c') (by simpa using eD) (by rw [← r2.length]; exact hl) (r2.mono (fun _ _ e _ => e) ext_get))) (.ref (c.newRef _))
end
end Mine

set_option maxRecDepth 100000
set_option linter.all false
set_option genSizeOf false
set_option genSizeOfSpec false
set_option genInjectivity false
namespace Mine
open PySem PyProof.Rows PySem.Calls PySem.SeqAt

noncomputable def MeL (m : Me) (id : String) : Prop := match m with | .append => id = "list.append" | .count => id = "list.count" | _ => False
noncomputable def MeD (m : Me) (id : String) : Prop := match m with | .get => id = "dict.get" | .update => id = "dict.update" | _ => False
theorem pre_starts : ∀ (y x : List Nat), pre y x = true ↔ ∃ z, x = y ++ z
  | [], x => ⟨fun _ => ⟨x, rfl⟩, fun _ => rfl⟩
  | a :: y, [] => ⟨fun h => (nomatch h), fun ⟨_, h⟩ => (nomatch h)⟩
  | a :: y, b :: x => by
    show (a == b && pre y x) = true ↔ _
    rw [Bool.and_eq_true, beq_iff_eq, pre_starts y x]
    constructor
    · rintro ⟨rfl, z, rfl⟩; exact ⟨z, rfl⟩
    · rintro ⟨z, h⟩; injection h with h1 h2; exact ⟨h1.symm, z, h2⟩
theorem stored_nodup {l : List (Str × Value)} (hn : (l.map (·.1)).Nodup) (k : Str) (v : Value) : ((stored l k v).map (·.1)).Nodup := by
  unfold stored
  split
  · rw [List.map_map]
    have : l.map ((fun p : Str × Value => p.1) ∘ fun kv => if kv.1 = k then (kv.1, v) else kv) = l.map (·.1) := List.map_congr_left fun p _ => by
      show (if p.1 = k then (p.1, v) else p).1 = p.1
      split <;> rfl
    rw [this]; exact hn
  · rename_i h
    rw [List.map_append, List.nodup_append]
    refine ⟨hn, List.pairwise_singleton _ _, fun a ha b hb e => h (List.any_eq_true.mpr ?_)⟩
    obtain ⟨p, hp, q⟩ := List.mem_map.mp ha
    exact ⟨p, hp, decide_eq_true (q.trans (e.trans (List.mem_singleton.mp hb)))⟩

section
variable {X : W} {A : Around} {d : Nat} {hn : Bool} {s s' s'' s₀ : Shared} {μ μ' μ'' μ₀ : List Addr} {σ σ' σ'' σ₀ : H} {env : PySem.Env} {cx cx' : Cx} {ρ ρ' ρ₀ : Env} {C : Calls} {G : GT}

theorem ERs.puts {h : Heap} : ∀ {qs : List (List Nat × V)} {m : List (Str × Value)} {kvs : List (List Nat × V)} {l : List (Str × Value)}, ERs X h μ qs m → ERs X h μ kvs l → (l.map (·.1)).Nodup → ERs X h μ (dputs kvs qs) (merged l m)
  | [], [], _, _, _, r, _ => r
  | [], _ :: _, _, _, ⟨e, _, _⟩, _, _ => nomatch e
  | _ :: _, [], _, _, ⟨e, _, _⟩, _, _ => nomatch e
  | (k, v) :: qs, (x, u) :: m, _, l, ⟨e, hl, hv⟩, r, hn => by
    injection e with e1 e2
    obtain rfl : k = codes x := e1
    cases hv with
    | cons r1 r2 =>
      show ERs X h μ (dputs (dput _ (codes x) v) qs) (merged (stored l x u) m)
      exact ERs.puts ⟨e2, fun p hp => hl p (List.mem_cons_of_mem _ hp), r2⟩ (r.put hn x (hl _ (List.mem_cons_self ..)) r1) (stored_nodup hn x u)
theorem put_dict (c : Cn X A d hn s μ σ) {i : Nat} {a : Addr} (hi : μ[i]? = some a) {kvs : List (List Nat × V)} {l l' : List (Str × Value)} (hd : s.heap.DictOf (strKind X.prog X.w) a l) (r : ERs X s.heap μ kvs l') (hz : kvs.length ≤ lim)
    {h' : Heap} {t : Nat} (hd' : h'.DictOf (strKind X.prog X.w) a l') (hs : Heap.SameBut a s.heap h') : Step X s μ { s with heap := h', toks := t } μ (σ.set i (.dict kvs)) := by
  have hk' : ∀ b o, s.heap.get? b = some o → Solid X b o → h'.get? b = some o := fun b o eb hS => (hs.2 b fun q => by
    obtain ⟨od, _, _, e, hc, _⟩ := hd
    rw [q, e] at eb; cases eb; exact hS.offList (.inr hc.1)).trans eb
  exact Step.put c (s' := { s with heap := h', toks := t }) hi hs rfl rfl (o := .dict kvs) (.dict hd' (by rw [← r.length]; exact hz) (r.like fun q => q.mono hk' fun _ _ e => e))

theorem sm_meth {T id : String} {name : Str} {es : List Expr} {ts : List E} {p : Pos} {u : Value} {k : List V → M V} (pa : PlainAttrs T) (slot : Slot T name id) (hty : typeOf (.builtin id) = pure (.type "method_descriptor")) (c : Cn X A d hn s μ σ) (F : FR X env cx ρ s.heap μ)
    (hT : s.TypeIs u T) (hd : ∀ a, u = .ref a → ∃ ob, s.heap.get? a = some ob ∧ ob.dict = none) (ht : Ts G ts cx es)
    (ha : ∀ (s : Shared) (μ : List Addr) (σ : H), Cn X A d hn s μ σ → FR X env cx ρ s.heap μ → Sm X (Wp X A (spliced (backTo p (starEach es env)))) (evEs X.ns C ρ ts σ) (Rls X) s μ)
    (h : ∀ vs us s₁ μ₁ σ₁, Cn X A d hn s₁ μ₁ σ₁ → Step X s μ s₁ μ₁ σ₁ → VRs X s₁.heap μ₁ vs us → Sm X (Wp X A (PySem.call (.builtin id) ([u] ++ us))) (k vs σ₁) (Rl X) s₁ μ₁) :
    Sm X (fun Q E s => MethodOnS X.prog X.w A E name u p (backTo p (starEach es env)) Q s) ((evEs X.ns C ρ ts).bnd k σ) (Rl X) s μ :=
  (Sm.go c F (ha s μ σ c F) fun vs σ₁ us s₁ μ₁ c1 _ S1 r => h vs us s₁ μ₁ σ₁ c1 S1 r).imp fun Q E hq => ⟨T, id, pa, slot, hty, hT, hd, callWith_free ht rfl hq⟩

/-! strings -/
theorem sm_starts (c : Cn X A d hn s μ σ) {x y : Str} {t u : Tok} : Sm X (Wp X A (PySem.call (.builtin "str.startswith") [.str x t, .str y u])) (.ok (.bool (pre (codes y) (codes x))) σ) (Rl X) s μ := by
  have e : (decide (0 + y.length ≤ x.length) && Builtin.Str.subAt x y 0) = pre (codes y) (codes x) := by
    rw [StrLaws.subAt_eq, Bool.eq_iff_iff, pre_starts, Bool.and_eq_true, decide_eq_true_eq, beq_iff_eq, List.drop_zero, Nat.zero_add]
    have hx : x.cps.toList = codes x := rfl
    have hy : y.cps.toList = codes y := rfl
    rw [hx, hy, ← codes_length, ← codes_length]
    constructor
    · rintro ⟨_, h⟩
      exact ⟨(codes x).drop (codes y).length, by conv => lhs; rw [← List.take_append_drop (codes y).length (codes x), h]⟩
    · rintro ⟨z, h⟩
      rw [h, List.length_append]; exact ⟨Nat.le_add_right _ _, List.take_left⟩
  refine c.ok0 (.bool _) fun Q E h => ?_
  refine call_gives PySem.F.slot_str_startswith (typeIs_str _ _ _) PySem.F.entry_str_startswith (PySem.F.args_str_startswith_2 _ _) (gives_str_startswith x y t u) ?_
  rw [e]; exact h _
theorem sm_find (c : Cn X A d hn s μ σ) {x y : Str} {t u : Tok} {k : Nat} (hy : codes y = [k]) : Sm X (Wp X A (PySem.call (.builtin "str.find") [.str x t, .str y u])) (.ok (.int (findN k (codes x) 0)) σ) (Rl X) s μ := by
  obtain rfl : y = ⟨#[k]⟩ := by
    obtain ⟨⟨l⟩⟩ := y
    exact congrArg (fun l => Str.mk (Array.mk l)) hy
  refine c.ok0 (.int _ s.toks) fun Q E h => ?_
  refine call_gives PySem.F.slot_str_find (typeIs_str _ _ _) PySem.F.entry_str_find (PySem.F.args_str_find_2 _ _) (gives_str_find x ⟨#[k]⟩ t u) ?_
  exact Eq.mpr (congrArg (fun z => (Made.int z).post Q s) (find_one x k)) (h _)
theorem sm_meS {x : Str} {t : Tok} (hz : x.length ≤ lim) {m : Me} {ts : List E} {es : List Expr} {p : Pos} (c : Cn X A d hn s μ σ) (F : FR X env cx ρ s.heap μ) (ht : Ts G ts cx es)
    (ha : ∀ (s : Shared) (μ : List Addr) (σ : H), Cn X A d hn s μ σ → FR X env cx ρ s.heap μ → Sm X (Wp X A (spliced (backTo p (starEach es env)))) (evEs X.ns C ρ ts σ) (Rls X) s μ) :
    Sm X (fun Q E s => MethodOnS X.prog X.w A E (meName m) (.str x t) p (backTo p (starEach es env)) Q s) ((meK m (.str (codes x))).bnd (fun _ => (evEs X.ns C ρ ts).bnd fun vs => meV (.str (codes x)) m vs) σ) (Rl X) s μ := by
  cases m <;> first | exact Sm.stuck | skip
  · refine sm_meth PySem.F.plainAttrs_str PySem.F.slot_str_find PySem.F.type_str_find c F (typeIs_str _ _ _) (fun b hb => by cases hb) ht ha fun vs us s₁ μ₁ σ₁ c1 S1 r1 => ?_
    rcases r1 with _ | ⟨r1, _ | ⟨_, _⟩⟩
    · exact Sm.stuck
    · cases r1 <;> first | exact Sm.stuck | skip
      rename_i y u hy
      show Sm X _ (meS (codes x) .find [.str (codes y)] σ₁) _ _ _
      rcases e : codes y with _ | ⟨k, _ | ⟨_, _⟩⟩
      · exact Sm.stuck
      · exact sm_find c1 e
      · exact Sm.stuck
    · cases r1 <;> first | exact Sm.stuck | skip
      rename_i y u hy
      show Sm X _ (meS (codes x) .find (.str (codes y) :: _ :: _) σ₁) _ _ _
      rcases codes y with _ | ⟨k, _ | ⟨_, _⟩⟩ <;> exact Sm.stuck
  · refine sm_meth PySem.F.plainAttrs_str PySem.F.slot_str_startswith PySem.F.type_str_startswith c F (typeIs_str _ _ _) (fun b hb => by cases hb) ht ha fun vs us s₁ μ₁ σ₁ c1 S1 r1 => ?_
    rcases r1 with _ | ⟨r1, _ | ⟨_, _⟩⟩
    · exact Sm.stuck
    · cases r1 <;> first | exact Sm.stuck | exact sm_starts c1
    · cases r1 <;> exact Sm.stuck

/-! lists -/
theorem count_at {h : Heap} : ∀ {xs : List V} {l : List Value} {n : Nat}, countT xs = some n → VRs X h μ xs l → (∀ y ∈ l, ∀ A s, EqAt A s y (.bool true) (ceq y (.bool true))) ∧ l.countP (fun y => ceq y (.bool true)) = n
  | [], _, _, e, .nil => by cases e; exact ⟨fun _ h => (nomatch h), rfl⟩
  | x :: xs, _, _, e, .cons r rs => by
    cases r <;> first | (cases e; done) | skip
    rename_i l b
    obtain ⟨n, hn, rfl⟩ := Option.map_eq_some_iff.mp e
    obtain ⟨h1, h2⟩ := count_at hn rs
    refine ⟨fun y hy A s => ?_, ?_⟩
    · rcases List.mem_cons.mp hy with rfl | hy
      · exact EqAt.bool_bool _ _
      · exact h1 y hy A s
    · rw [List.countP_cons, h2]; cases b <;> rfl
theorem upd_list {h : Heap} {a : Addr} {l : List Value} {n : Nat} (e : IsL h a l.toArray n) (f : Array Value → Array Value) {l' : List Value} (hf : f l.toArray = l'.toArray) :
    ∃ n', IsL (h.update a (Obj.mapSeq f)) a l'.toArray n' := ⟨_, hf ▸ e.update f⟩
theorem sm_meL (c : Cn X A d hn s μ σ) {i : Nat} {a : Addr} {xs : List V} (ho : σ[i]? = some (.list xs)) (hm : μ[i]? = some a) {m : Me} {id : String} (hid : MeL m id)
    {vs : List V} {us : List Value} (r : VRs X s.heap μ vs us) : Sm X (Wp X A (PySem.call (.builtin id) ([.ref a] ++ us))) (meL i xs m vs σ) (Rl X) s μ := by
  obtain ⟨l, n, e, rr, hz⟩ := c.list ho hm
  have hl : lim = 16777216 := rfl
  cases m <;> first | exact hid.elim | skip
  · -- append
    cases hid
    rcases r with _ | ⟨r, _ | ⟨_, _⟩⟩ <;> first | exact Sm.stuck | skip
    rename_i v w
    refine sm_putL c hm e (rr.append (.cons r .nil)) (fun _ _ => .none) fun hz' Q E h => call_meets PySem.F.slot_list_append ⟨_, e, rfl⟩ PySem.F.entry_list_append (PySem.F.args_list_append_2 _ _) (list_append a l.toArray n w (by rw [List.size_toArray]; exact hz)) ⟨e, ?_⟩
    obtain ⟨n', e'⟩ := upd_list e (fun x => x.push w) (l' := l ++ [w]) (by simp)
    exact h _ _ _ e' (Heap.SameBut.update ..)
  · -- count
    cases hid
    rcases r with _ | ⟨r, _ | ⟨_, _⟩⟩ <;> first | exact Sm.stuck | (cases r <;> first | exact Sm.stuck | (rename_i b; cases b <;> exact Sm.stuck)) | skip
    cases r <;> first | exact Sm.stuck | skip
    rename_i b
    cases b with
    | false => exact Sm.stuck
    | true =>
      refine sm_pick fun w hw => ?_
      obtain ⟨k, hk, rfl⟩ := Option.map_eq_some_iff.mp hw
      obtain ⟨h1, h2⟩ := count_at hk rr
      refine c.ok0 (.int k s.toks) fun Q E h => ?_
      refine call_meets PySem.F.slot_list_count ⟨_, e, rfl⟩ PySem.F.entry_list_count (PySem.F.args_list_count_2 _ _) (list_countAt a l.toArray n none #[] (.bool true) (fun y => ceq y (.bool true))) ⟨e, fun y hy => h1 y (by simpa using hy) _ _, ?_⟩
      rw [h2]; exact h _

/-! dicts -/
theorem sm_meD (c : Cn X A d hn s μ σ) {i : Nat} {a : Addr} {kvs : List (List Nat × V)} (ho : σ[i]? = some (.dict kvs)) (hm : μ[i]? = some a) {m : Me} {id : String} (hid : MeD m id)
    {vs : List V} {us : List Value} (r : VRs X s.heap μ vs us) : Sm X (Wp X A (PySem.call (.builtin id) ([.ref a] ++ us))) (meD i kvs m vs σ) (Rl X) s μ := by
  obtain ⟨l, D, rr, hz⟩ := c.dict ho hm
  have hl : lim = 16777216 := rfl
  cases m <;> first | exact hid.elim | skip
  · -- get
    cases hid
    rcases r with _ | ⟨r, _ | ⟨r2, _ | ⟨_, _⟩⟩⟩ <;> first | exact Sm.stuck | (cases r <;> exact Sm.stuck) | skip
    · cases r <;> first | exact Sm.stuck | skip
      rename_i x t hx
      have hg : VR X s.heap μ ((dget kvs (codes x)).getD .none) ((valueAt l x).getD .none) := by
        rcases rr.get x with ⟨h1, h2⟩ | ⟨v, u, h1, h2, h3⟩
        · rw [h1, h2]; exact .none
        · rw [h1, h2]; exact h3
      exact c.ok0 hg fun Q E h => call_meetsIn PySem.F.slot_dict_get D.typeIs PySem.F.entry_dict_get (PySem.F.args_dict_get_2 _ _) (meets_dict_get _ a (strKind_is X.prog X.w x t) (c.noSys hm)) ⟨_, D.mapOf, h _⟩
    · cases r <;> first | exact Sm.stuck | skip
      rename_i v w x t hx
      have hg : VR X s.heap μ ((dget kvs (codes x)).getD v) ((valueAt l x).getD w) := by
        rcases rr.get x with ⟨h1, h2⟩ | ⟨v, u, h1, h2, h3⟩
        · rw [h1, h2]; exact r2
        · rw [h1, h2]; exact h3
      exact c.ok0 hg fun Q E h => call_meetsIn PySem.F.slot_dict_get D.typeIs PySem.F.entry_dict_get (PySem.F.args_dict_get_3 _ _ _) (meets_dict_get_default _ a (strKind_is X.prog X.w x t) (c.noSys hm) w) ⟨_, D.mapOf, h _⟩
  · -- update
    cases hid
    rcases r with _ | ⟨r, _ | ⟨_, _⟩⟩ <;> first | exact Sm.stuck | (cases r <;> exact Sm.stuck) | skip
    cases r <;> first | exact Sm.stuck | skip
    rename_i j b hj
    show Sm X _ ((if j = i then stuck else onD j fun qs => if kvs.length + qs.length ≤ lim then putD i (dputs kvs qs) else stuck : M V) σ) _ _ _
    split
    · exact Sm.stuck
    · rename_i hne
      refine sm_onD c hj fun qs m _ Do ro _ => ?_
      split
      · rename_i hlen
        unfold putD
        split
        · rename_i hz'
          have hab : a ≠ b := fun q => hne (getElem?_nodup c.hr.nodup (q ▸ hj) hm)
          refine Sm.ok (a := V.none) fun Q E hQ => ?_
          exact call_meetsIn PySem.F.slot_dict_update D.typeIs PySem.F.entry_dict_update (PySem.F.args_dict_update_2 _ _) (meets_dict_update _ a b hab (c.noSys hj)) ⟨l, m, D, Do, by rw [← rr.length, ← ro.length]; exact hlen, fun h' hd' _ hs => hQ _ _ _ (put_dict (t := s.toks) c hm D (ro.puts rr (dict_nodup D)) hz' hd' hs) .none⟩
        · exact Sm.stuck
      · exact Sm.stuck

theorem sm_me (m : Me) (x : V) (u : Value) (ts : List E) (es : List Expr) (p : Pos) (c : Cn X A d hn s μ σ) (F : FR X env cx ρ s.heap μ) (r : VR X s.heap μ x u) (ht : Ts G ts cx es)
    (ha : ∀ (s : Shared) (μ : List Addr) (σ : H), Cn X A d hn s μ σ → FR X env cx ρ s.heap μ → Sm X (Wp X A (spliced (backTo p (starEach es env)))) (evEs X.ns C ρ ts σ) (Rls X) s μ) :
    Sm X (fun Q E s => MethodOnS X.prog X.w A E (meName m) u p (backTo p (starEach es env)) Q s) ((meK m x).bnd (fun _ => (evEs X.ns C ρ ts).bnd fun vs => meV x m vs) σ) (Rl X) s μ := by
  cases r with
  | str x t hz => exact sm_meS hz c F ht ha
  | @ref i a hi =>
    rcases ho : σ[i]? with _ | ⟨xs⟩ | ⟨kvs⟩
    · rw [bnd_stuck (by unfold meK; simp only [ho])]; exact Sm.stuck
    · obtain ⟨l, n, e, _, _⟩ := c.list ho hi
      by_cases hk : meOn m = 1
      · rw [bnd_ok (a := V.none) (σ' := σ) (by unfold meK; simp only [ho, hk, if_true])]
        have go : ∀ {id : String} (slot : Slot "list" (meName m) id) (hty : typeOf (.builtin id) = pure (.type "method_descriptor")) (hid : MeL m id),
            Sm X (fun Q E s => MethodOnS X.prog X.w A E (meName m) (.ref a) p (backTo p (starEach es env)) Q s) ((evEs X.ns C ρ ts).bnd (fun vs => meV (.ref i) m vs) σ) (Rl X) s μ := fun slot hty hid => by
          refine sm_meth PySem.F.plainAttrs_list slot hty c F ⟨_, e, rfl⟩ (fun b hb => by cases hb; exact ⟨_, e, rfl⟩) ht ha fun vs us s₁ μ₁ σ₁ c1 S1 r1 => ?_
          show Sm X _ (match σ₁[i]? with | some (.list xs) => meL i xs m vs σ₁ | some (.dict kvs) => meD i kvs m vs σ₁ | none => .stuck) _ _ _
          rcases ho1 : σ₁[i]? with _ | ⟨ys⟩ | ⟨kvs⟩
          · exact Sm.stuck
          · exact sm_meL c1 ho1 (S1.get _ _ hi) hid r1
          · cases m <;> first | exact hid.elim | exact Sm.stuck
        cases m <;> first | (cases hk; done) | skip
        · exact go PySem.F.slot_list_append PySem.F.type_list_append rfl
        · exact go PySem.F.slot_list_count PySem.F.type_list_count rfl
      · rw [bnd_stuck (by unfold meK; simp only [ho, hk, if_false])]; exact Sm.stuck
    · obtain ⟨l, D, _, _⟩ := c.dict ho hi
      by_cases hk : meOn m = 2
      · rw [bnd_ok (a := V.none) (σ' := σ) (by unfold meK; simp only [ho, hk, if_true])]
        have go : ∀ {id : String} (slot : Slot "dict" (meName m) id) (hty : typeOf (.builtin id) = pure (.type "method_descriptor")) (hid : MeD m id),
            Sm X (fun Q E s => MethodOnS X.prog X.w A E (meName m) (.ref a) p (backTo p (starEach es env)) Q s) ((evEs X.ns C ρ ts).bnd (fun vs => meV (.ref i) m vs) σ) (Rl X) s μ := fun slot hty hid => by
          refine sm_meth PySem.F.plainAttrs_dict slot hty c F D.typeIs D.mapOf.noDict ht ha fun vs us s₁ μ₁ σ₁ c1 S1 r1 => ?_
          show Sm X _ (match σ₁[i]? with | some (.list xs) => meL i xs m vs σ₁ | some (.dict kvs) => meD i kvs m vs σ₁ | none => .stuck) _ _ _
          rcases ho1 : σ₁[i]? with _ | ⟨ys⟩ | ⟨kvs⟩
          · exact Sm.stuck
          · cases m <;> first | exact hid.elim | exact Sm.stuck
          · exact sm_meD c1 ho1 (S1.get _ _ hi) hid r1
        cases m <;> first | (cases hk; done) | skip
        · exact go PySem.F.slot_dict_get PySem.F.type_dict_get rfl
        · exact go PySem.F.slot_dict_update PySem.F.type_dict_update rfl
      · rw [bnd_stuck (by unfold meK; simp only [ho, hk, if_false])]; exact Sm.stuck
  | _ => exact Sm.stuck
end
end Mine

set_option maxRecDepth 100000
set_option linter.all false
set_option genSizeOf false
set_option genSizeOfSpec false
set_option genInjectivity false
namespace Mine
open PySem PyProof.Rows PySem.Calls PySem.SeqAt

/-- what is known of the text -/
structure Wd (X : W) (G : GT) (T : Tab) : Prop where
  nm : Nm X G
  fns : ∀ i fn, T.fns[i]? = some fn → FnOk X G i fn
  lim : X.h₀.NoLimit
  xs : ∀ k, XIs X T.sub G.cls.length k
  sl : SLeaf X G T.sub

section
variable {X : W} {A : Around} {d : Nat} {hn : Bool} {s s' s'' s₀ : Shared} {μ μ' μ'' μ₀ : List Addr} {σ σ' σ'' σ₀ : H} {env : PySem.Env} {cx cx' : Cx} {ρ ρ' ρ₀ : Env} {C : Calls} {G : GT} {T : Tab}

theorem sm_bi (c : Cn X A d true s μ σ) (b : Bi) {v : V} {u : Value} (r : VR X s.heap μ v u) : Sm X (Wp X A (PySem.call (biVal b) [u])) (biV X.ns b v σ) (Rl X) s μ := by
  cases b with
  | len => exact sm_len c r
  | list => exact sm_list c r
  | sorted => exact sm_sorted c r
  | dict => exact sm_dict c r
  | str => exact sm_str c r
  | int => exact sm_int c r
theorem leaf_of (w : Wd X G T) (h1 : C.hn = hn) (h2 : C.sub = T.sub)
    (hc : ∀ (f : Nat) (vs : List V) (us : List Value) (A : Around) (s : Shared) (μ : List Addr) (σ : H), Cn X A d hn s μ σ → VRs X s.heap μ vs us → Sm X (Wp X A (PySem.call (.ref (X.fa f)) us)) (C.call f vs σ) (Rl X) s μ) : Leaf X G C d hn where
  eqn := h1
  nm := w.nm
  call := hc
  bi := fun e b v u A s μ σ c r => by subst e; exact sm_bi c b r
  rev := fun e v u A s μ σ c r => by subst e; exact sm_rev c r
  me := fun m x u ts es p cx A env ρ s μ σ c F r ht ha => sm_me m x u ts es p c F r ht ha
  isi := fun t v u A s μ σ ht c r => by rw [h2]; exact sm_isi c (c.kin w.nm) w.xs ht r
theorem leaf_calm (w : Wd X G T) (h2 : C.sub = T.sub) : Leaf X G C.calm d false := leaf_of w rfl h2 (fun _ _ _ _ _ _ _ _ _ => Sm.stuck)
theorem sub_of (ns : List Int) (T : Tab) (n : Nat) : (callsOf ns T n).sub = T.sub := by cases n <;> rfl
theorem leafs {X : W} (w : ∀ b, Wd (X.wb b) G T) : ∀ (n : Nat) (b : Addr → Prop), Leaf (X.wb b) G (callsOf X.ns T n) n true
  | 0, b => leaf_of (w b) rfl rfl (fun _ _ _ _ _ _ _ _ _ => Sm.stuck)
  | n + 1, b => by
    have L : LL (X.wb b) G (callsOf X.ns T n) n true := ⟨fun b' => leafs w n b', fun b' => leaf_calm (w b') (sub_of _ _ _), fun b' => by rw [sub_of]; exact (w b').sl⟩
    have fn_ok : ∀ {f : Nat} {fn : Fn}, T.fns[f]? = some fn → ∀ (vs : List V) (us : List Value) (A : Around) (s : Shared) (μ : List Addr) (σ : H), Cn (X.wb b) A (n + 1) true s μ σ → VRs (X.wb b) s.heap μ vs us → Sm (X.wb b) (Wp (X.wb b) A (PySem.call (.ref (X.fa f)) us)) (evF X.ns (callsOf X.ns T n) fn vs σ) (Rl (X.wb b)) s μ :=
      fun hf vs us A s μ σ c r => sim_fn ((w b).fns _ _ hf) (w b).lim (sim_stmts _ L) c r
    refine leaf_of (w b) rfl rfl (fun f vs us A s μ σ c r => ?_)
    show Sm _ _ ((match T.fns[f]? with | some fn => evF X.ns (callsOf X.ns T n) fn vs | none => stuck : M V) σ) _ _ _
    cases hf : T.fns[f]? with
    | none => exact Sm.stuck
    | some fn => exact fn_ok hf vs us A s μ σ c r
end
end Mine

set_option maxRecDepth 100000
set_option linter.all false
set_option genSizeOf false
set_option genSizeOfSpec false
set_option genInjectivity false
namespace Mine
open PySem PyProof.Rows PySem.Calls PySem.SeqAt

/-! How arguments are bound. -/
theorem zip_lookup : ∀ {names : List Str} {vals : List Value}, vals.length = names.length → ∀ n ∈ names, ((names.zip vals).lookup n).isSome = true
  | [], _, _, _, h => nomatch h
  | m :: names, [], e, _, _ => nomatch e
  | m :: names, v :: vals, e, n, h => by
    rw [List.zip_cons_cons, List.lookup_cons]
    cases hx : n == m with
    | true => rfl
    | false => exact (List.mem_cons.mp h).elim (fun q => absurd (beq_iff_eq.mpr q) (by rw [hx]; exact Bool.false_ne_true)) fun q => zip_lookup (Nat.succ.inj e) n q
theorem zip_same : ∀ {names : List Str} {vals : List Value} {S : List (Str × Value)}, vals.length = names.length → (∀ (k : Nat) (n : Str) (v : Value), names[k]? = some n → vals[k]? = some v → S.lookup n = some v) → names.filterMap (fun n => (S.lookup n).map (n, ·)) = names.zip vals
  | [], [], _, _, _ => rfl
  | [], _ :: _, _, e, _ => nomatch e
  | m :: names, [], _, e, _ => nomatch e
  | m :: names, v :: vals, S, e, h => by
    rw [List.filterMap_cons, h 0 m v rfl rfl, List.zip_cons_cons]
    show (m, v) :: _ = _
    rw [zip_same (Nat.succ.inj e) fun k n w h1 h2 => h (k + 1) n w h1 h2]
theorem zip_at : ∀ {names : List Str} {vals : List Value}, names.Nodup → ∀ (k : Nat) (n : Str) (v : Value), names[k]? = some n → vals[k]? = some v → (names.zip vals).lookup n = some v
  | [], _, _, _, _, _, h, _ => nomatch h
  | m :: names, [], _, _, _, _, _, h => nomatch h
  | m :: names, w :: vals, hn, 0, n, v, h1, h2 => by
    cases h1; cases h2
    rw [List.zip_cons_cons, List.lookup_cons, beq_self_eq_true]
  | m :: names, w :: vals, hn, k + 1, n, v, h1, h2 => by
    rw [List.zip_cons_cons, List.lookup_cons]
    have hm : n ∈ names := List.mem_of_getElem? h1
    have hb : (n == m) = false := beq_eq_false_iff_ne.mpr fun q => (List.nodup_cons.mp hn).1 (q ▸ hm)
    rw [hb]
    exact zip_at (List.nodup_cons.mp hn).2 k n v h1 h2
theorem bind_plain {fd : FuncData} {vals : List Value} (h1 : fd.params.posonlyargs = []) (h2 : fd.params.vararg = none) (h3 : fd.params.kwonlyargs = []) (h4 : fd.params.kwarg = none) (h5 : fd.defaults = .none) (hl : vals.length = fd.params.args.length)
    (hnd : (fd.params.args.map (·.arg)).Nodup) : bindArgs fd ⟨vals, []⟩ = pure ((fd.params.args.map (·.arg)).zip vals) := by
  have hl' : vals.length = (fd.params.args.map (·.arg)).length := by rw [List.length_map]; exact hl
  have hmiss : ((fd.params.args.map (·.arg)).filter fun n => ((fd.params.args.map (·.arg)).zip vals |>.lookup n).isNone) = [] := by
    rw [List.filter_eq_nil_iff]
    intro n hn
    have := zip_lookup hl' n hn
    simp only [Option.isNone_iff_eq_none]
    intro q; rw [q] at this; cases this
  have hsame := zip_same hl' (zip_at (vals := vals) hnd)
  unfold bindArgs
  simp only [h1, h2, h3, h4, h5, List.map_nil, List.nil_append, List.append_nil]
  generalize fd.params.args.map (·.arg) = names at *
  have hg : ¬ (decide (vals.length > names.length) && true) = true := by simp; (first | lia | omega)
  have hs : seqItems? .none = pure none := rfl
  simp only [List.forIn_nil, pure_bind, hs, Option.getD_none, List.drop_nil, List.length_nil, Nat.sub_zero, List.take_length, hmiss, List.zip_nil_right]
  rw [if_neg (by simp; (first | lia | omega)), hsame]
  rfl
theorem slots_sub : ∀ (l : List (Str × NameKind)) (i : Nat), ((slotsOf l i).map (·.1)).Sublist (l.map (·.1))
  | [], _ => .refl _
  | (y, kd) :: l, i => by cases kd <;> first | exact (slots_sub l _).cons_cons _ | exact (slots_sub l _).cons _
theorem fn_nodup {G : GT} {fn : Fn} {a : Arguments} {body : List Stmt} {sc : Scope} (h : TFn G fn a body sc) : (a.args.map (·.arg)).Nodup := by
  rw [← h.1]
  exact .sublist (List.take_sublist _ _) (.sublist (slots_sub _ _) h.2.1)

/-! What the text's objects say. -/
noncomputable def FnAt (h : Heap) (G : GT) (a : Addr) (fn : Fn) : Prop := ∃ o fd body, h.get? a = some o ∧ o.data = .func fd ∧ h.CodeRec fd.code fd.qualname ∧ fd.body = .stmts body ∧ fd.closure = [] ∧ fd.globals = mainGlobals ∧ fd.builtins = builtinsNs ∧
  (∀ vals : List Value, vals.length = fd.params.args.length → bindArgs fd ⟨vals, []⟩ = pure ((fd.params.args.map (·.arg)).zip vals)) ∧ TFn G fn fd.params body fd.scope
noncomputable def nonV (v : Value) : Ok (v = .none) := match v with
  | .none => ⟨true, fun _ => rfl⟩
  | _ => .no
noncomputable def emp {α : Type} (l : List α) : Ok (l = []) := ⟨l.isEmpty, List.isEmpty_iff.mp⟩
noncomputable def non {α : Type} (o : Option α) : Ok (o = none) := ⟨o.isNone, Option.isNone_iff_eq_none.mp⟩
noncomputable def got {α : Type} (o : Option α) : Option { x : α // o = some x } := match o with
  | some x => some ⟨x, rfl⟩
  | .none => .none
noncomputable def fnData (d : Data) : Option { fd : FuncData // d = .func fd } := match d with
  | .func fd => some ⟨fd, rfl⟩
  | _ => .none
noncomputable def flData (d : Data) : Option { vs : Array Value // d = .fields vs } := match d with
  | .fields fd => some ⟨fd, rfl⟩
  | _ => .none
noncomputable def refV (v : Value) : Option { a : Addr // v = .ref a } := match v with
  | .ref a => some ⟨a, rfl⟩
  | _ => .none
noncomputable def isStrV (v : Value) (q : Str) : Ok (∃ t, v = .str q t) := match v with
  | .str q' t => .dec (q' = q) fun e => ⟨t, e ▸ rfl⟩
  | _ => .no
noncomputable def codeAt (K : PySem.W.Frag) (c : Value) (q : Str) : Ok (∀ h : Heap, K.In h → h.CodeRec c q) :=
  .on (refV c) fun a => .on (got (K.lookup a.1)) fun o => .on (flData o.1.data) fun vs => .on (got (vs.1[1]?)) fun v => (isStrV v.1 q).map fun ⟨t, e⟩ h kx => ⟨a.1, o.1, vs.1, t, a.2, kx _ _ o.2, vs.2, e ▸ v.2⟩
noncomputable def bodyOf (b : FuncBody) : Option { l : List Stmt // b = .stmts l } := match b with
  | .stmts l => some ⟨l, rfl⟩
  | _ => .none
noncomputable def kFnAt (K : PySem.W.Frag) (G : GT) (fn : Fn) (a : Addr) : Ok (∀ h : Heap, K.In h → FnAt h G a fn) :=
  .on (got (K.lookup a)) fun o => .on (fnData o.1.data) fun q => .on (bodyOf q.1.body) fun b => .iff (q.1.globals = mainGlobals ∧ q.1.builtins = builtinsNs) fun h =>
    ((codeAt K q.1.code q.1.qualname).and (kFn G fn q.1.params b.1 q.1.scope) And.intro).and
      (((emp q.1.closure).and (nonV q.1.defaults) And.intro).and (((emp q.1.params.posonlyargs).and (non q.1.params.vararg) And.intro).and ((emp q.1.params.kwonlyargs).and (non q.1.params.kwarg) And.intro) And.intro) And.intro)
      fun h1 h2 hp kx => ⟨o.1, q.1, b.1, kx _ _ o.2, q.2, h1.1 hp kx, b.2, h2.1.1, h.1, h.2, fun vals hl => bind_plain h2.2.1.1 h2.2.1.2 h2.2.2.1 h2.2.2.2 h2.1.2 hl (fn_nodup h1.2), h1.2⟩
end Mine

set_option maxRecDepth 100000
set_option linter.all false
set_option genSizeOf false
set_option genSizeOfSpec false
set_option genInjectivity false
namespace Mine
open PySem PyProof.Rows PySem.Calls PySem.SeqAt
open PySem.W (Frag)

noncomputable def kAll {α : Type} {P : Nat → α → Prop} (f : ∀ i x, Ok (P i x)) : (l : List α) → (k : Nat) → Ok (∀ i x, l[i]? = some x → P (k + i) x)
  | [], k => ⟨true, fun _ i x h => nomatch h⟩
  | a :: l, k => (f k a).and (kAll f l (k + 1)) fun h1 h2 i x h => match i, h with
    | 0, h => by cases h; exact h1
    | i + 1, h => by have := h2 i x h; rw [show k + (i + 1) = k + 1 + i by (first | lia | omega)]; exact this
noncomputable def kMem {α : Type} {P : α → Prop} (f : ∀ x, Ok (P x)) : (l : List α) → Ok (∀ x ∈ l, P x)
  | [] => ⟨true, fun _ x h => nomatch h⟩
  | a :: l => (f a).and (kMem f l) fun h1 h2 x h => (List.mem_cons.mp h).elim (fun e => e ▸ h1) (h2 x)
noncomputable def isLit (v : V) (u : Value) : Ok (∀ (X : W) (h : Heap) (μ : List Addr), VR X h μ v u) := match v with
  | .none => match u with | .none => ⟨true, fun _ _ _ _ => .none⟩ | _ => .no
  | .bool b => match u with | .bool c => .dec (b = c) fun e _ _ _ => e ▸ .bool _ | _ => .no
  | .int i => match u with | .int j t => .dec (i = j) fun e _ _ _ => e ▸ .int _ _ | _ => .no
  | .str x => match u with | .str y t => .dec (x = codes y ∧ y.length ≤ lim) fun e _ _ _ => e.1 ▸ .str _ _ e.2 | _ => .no
  | _ => .no
/-- the names of a text, as its objects have them -/
structure NmK (K : Frag) (G : GT) (fns cas cos : List Addr) : Prop where
  fns : ∀ i x, G.fns[i]? = some x → PySem.W.nsIn K mainGlobals x = some (some (.ref (fns.getD (0 + i) 0))) ∧ PySem.W.keepIn K (.ref (fns.getD (0 + i) 0)) = true
  cls : ∀ i x, G.cls[i]? = some x → PySem.W.nsIn K mainGlobals x = some (some (.ref (cas.getD (0 + i) 0)))
  own : ∀ i x, G.own[i]? = some x → PySem.W.nsIn K mainGlobals x = some (some (.ref (cos.getD (0 + i) 0))) ∧ PySem.W.keepIn K (.ref (cos.getD (0 + i) 0)) = true
  bi : ∀ p ∈ biTab, PySem.W.nsIn K mainGlobals p.1 = some none
  con : ∀ p ∈ G.con, ∃ u, PySem.W.nsIn K mainGlobals p.1 = some (some u) ∧ ∀ (X : W) (h : Heap) (μ : List Addr), VR X h μ p.2 u
noncomputable def oo {α : Type} (o : Option (Option α)) : Option { x : α // o = some (some x) } := match o with
  | some (some x) => some ⟨x, rfl⟩
  | _ => .none
noncomputable def kNm (K : Frag) (G : GT) (fns cas cos : List Addr) : Ok (NmK K G fns cas cos) :=
  (((kAll (fun i x => .dec (PySem.W.nsIn K mainGlobals x = some (some (.ref (fns.getD i 0))) ∧ PySem.W.keepIn K (.ref (fns.getD i 0)) = true) id) G.fns 0).and
    (kAll (fun i x => .dec (PySem.W.nsIn K mainGlobals x = some (some (.ref (cas.getD i 0)))) id) G.cls 0) And.intro).and
    ((kAll (fun i x => .dec (PySem.W.nsIn K mainGlobals x = some (some (.ref (cos.getD i 0))) ∧ PySem.W.keepIn K (.ref (cos.getD i 0)) = true) id) G.own 0).and
      (kMem (fun p => .dec (PySem.W.nsIn K mainGlobals p.1 = some none) id) biTab) And.intro) And.intro).and
    (kMem (fun p => .on (oo (PySem.W.nsIn K mainGlobals p.1)) fun u => (isLit p.2 u.1).map fun h => ⟨u.1, u.2, h⟩) G.con)
    fun h1 h2 => ⟨h1.1.1, h1.1.2, h1.2.1, h1.2.2, h2⟩
theorem boot_bi : ∀ p ∈ biTab, p.1 ≠ "__name__" ∧ bootBuiltins p.1 = some p.2 := by decide +kernel
theorem nm_of {X : W} {G : GT} {p : Program} {loose : List Str} {mg mb : Str → Option Value} {fns cas cos : List Addr} (k : NmK X.K G fns cas cos) (kx : X.K.In X.h₀) (t : PySem.W.TopRead p loose mg mb X.h₀) (hf : ∀ i, X.fa i = fns.getD i 0) (hc : ∀ i, i < G.cls.length → X.ca i = cas.getD i 0) (ho : ∀ i, X.co i = cos.getD i 0) : Nm X G where
  kin := kx
  ns := by
    refine ⟨mg, mb, t.g, t.b, fun x i e => ?_, fun x i e => ?_, fun x v e => ?_, fun x v e => ?_, fun x i e => ?_⟩
    · rw [hc i (List.getElem?_eq_some_iff.mp e).1]
      have := PySem.W.mg_of kx t.g (k.cls i x e); rw [Nat.zero_add] at this; exact this
    · rw [hf]
      have := k.fns i x e; rw [Nat.zero_add] at this
      exact ⟨PySem.W.mg_of kx t.g this.1, this.2⟩
    · obtain ⟨h1, h2⟩ := boot_bi _ e
      exact ⟨PySem.W.mg_none_of kx t.g (k.bi _ e), (t.builtins x h1).trans h2⟩
    · obtain ⟨u, h1, h2⟩ := k.con _ e
      exact ⟨u, PySem.W.mg_of kx t.g h1, fun h μ => h2 X h μ⟩
    · rw [ho]
      have := k.own i x e; rw [Nat.zero_add] at this
      exact ⟨PySem.W.mg_of kx t.g this.1, this.2⟩

/-! Exceptions: class 0 is above all others. -/
noncomputable def sub0 (a b : Nat) : Bool := a == b || b == 0
/-- one exception class, as the objects have it -/
structure XK (K : Frag) (cas : List Addr) (n c : Nat) : Prop where
  ga : PySem.W.findIn K (.ref (cas.getD c 0)) "__getattribute__" = some (some (.builtin "BaseException.__getattribute__"))
  gn : PySem.W.findIn K (.ref (cas.getD c 0)) "__getattr__" = some none
  mb : PySem.W.mroIn K (cas.getD c 0) (.type "BaseException") = some true
  cl : (PySem.W.clsIn K (cas.getD c 0)).isSome = true
  a : PySem.W.findIn K (.ref (cas.getD c 0)) "__class__" = some (some (.builtin "object.__class__"))
  m : PySem.W.mroIn K (cas.getD c 0) (.type "object") = some true
  v : PySem.W.kitOne K (.ref (cas.getD c 0)) (.type "ValueError") = some true
  k : ∀ c' ∈ List.range n, PySem.W.kitOne K (.ref (cas.getD c 0)) (.ref (cas.getD c' 0)) = some (sub0 c c') ∧ PySem.W.mroIn K (cas.getD c 0) (.ref (cas.getD c' 0)) = some (sub0 c c')
noncomputable def kX (K : Frag) (cas : List Addr) (n c : Nat) : Ok (XK K cas n c) :=
  (Ok.dec ((PySem.W.findIn K (.ref (cas.getD c 0)) "__getattribute__" = some (some (.builtin "BaseException.__getattribute__")) ∧ PySem.W.findIn K (.ref (cas.getD c 0)) "__getattr__" = some none ∧ PySem.W.mroIn K (cas.getD c 0) (.type "BaseException") = some true) ∧ (PySem.W.clsIn K (cas.getD c 0)).isSome = true ∧ PySem.W.findIn K (.ref (cas.getD c 0)) "__class__" = some (some (.builtin "object.__class__")) ∧
    PySem.W.mroIn K (cas.getD c 0) (.type "object") = some true ∧ PySem.W.kitOne K (.ref (cas.getD c 0)) (.type "ValueError") = some true) id).and
    (kMem (fun c' => .dec (PySem.W.kitOne K (.ref (cas.getD c 0)) (.ref (cas.getD c' 0)) = some (sub0 c c') ∧ PySem.W.mroIn K (cas.getD c 0) (.ref (cas.getD c' 0)) = some (sub0 c c')) id) (List.range n))
    fun h1 h2 => ⟨h1.1.1, h1.1.2.1, h1.1.2.2, h1.2.1, h1.2.2.1, h1.2.2.2.1, h1.2.2.2.2, h2⟩
noncomputable def XObj (h : Heap) (C : Addr) : Prop := ∃ bm N nm q bs hdct sn sub ab col dd k0 k1 k2 k3 k5 mN, h.get? C = some (excClassObj nm q C N bs bm hdct sn sub ab col dd k0 k1 k2 k3 k5 "ValueError.__new__") ∧ h.Ns N mN ∧ mN "__init__" = none ∧ OwnTailQ h bmV bm
theorem XObj.keeps {h h' : Heap} {C : Addr} (x : XObj h C) (k : ∀ b o, h.get? b = some o → h'.get? b = some o) : XObj h' C := by
  obtain ⟨bm, N, nm, q, bs, hdct, sn, sub, ab, col, dd, k0, k1, k2, k3, k5, mN, h1, h2, h3, h4⟩ := x
  exact ⟨bm, N, nm, q, bs, hdct, sn, sub, ab, col, dd, k0, k1, k2, k3, k5, mN, k _ _ h1, h2.keeps k, h3, h4.keeps k⟩
noncomputable def kXObj (h : Heap) (top : Str) (x : Str) (chain : List Str) (C : Addr) : Ok (XObj h C) :=
  .iff (h.nsMap mainGlobals x = some (.ref C) ∧ h.ownExcOk x chain bmV "ValueError.__new__" = true ∧ h.quietOk x = true) fun a => (kMem (fun n => Ok.dec (h.ownExcOk n [] bmV "ValueError.__new__" = true ∧ h.quietOk n = true) id) chain).map fun g => by
    obtain ⟨C', N, nm, q, bs, hdct, sn, sub, ab, col, dd, k0, k1, k2, k3, k5, hb, hC, hN, hq⟩ := Heap.ownExcQ_of_ok a.2.1 a.2.2
    rw [a.1] at hb
    cases hb
    exact ⟨_, N, nm, q, bs, hdct, sn, sub, ab, col, dd, k0, k1, k2, k3, k5, _, hC, hN, hq _ (.head _), .of_chain chain fun n hn => ⟨⟨_, _, _, (g n hn).1⟩, (g n hn).2⟩⟩
/-- the classes, and what the machine says of `__class__` -/
structure XsK (h : Heap) (K : Frag) (cas : List Addr) (n : Nat) : Prop where
  gt : PySem.W.specialIn K (.builtin "object.__class__") "__get__" = some (some (.builtin "getset_descriptor.__get__"))
  tk : PySem.W.takesIn K (.builtin "object.__class__") = some true
  pos : 0 < n
  x : ∀ c ∈ List.range n, XK K cas n c ∧ XObj h (cas.getD c 0)
noncomputable def chainOf (cls : List Str) (c : Nat) : List Str := if c = 0 then [] else [cls.getD 0 ""]
noncomputable def kXs (h : Heap) (K : Frag) (cls : List Str) (cas : List Addr) : Ok (XsK h K cas cls.length) :=
  (Ok.dec (PySem.W.specialIn K (.builtin "object.__class__") "__get__" = some (some (.builtin "getset_descriptor.__get__")) ∧ PySem.W.takesIn K (.builtin "object.__class__") = some true ∧ 0 < cls.length) id).and
    (kMem (fun c => (kX K cas cls.length c).and (kXObj h (cls.getD 0 "") (cls.getD c "") (chainOf cls c) (cas.getD c 0)) And.intro) (List.range cls.length)) fun h1 h2 => ⟨h1.1, h1.2.1, h1.2.2, h2⟩
noncomputable def ixc (n c : Nat) : Nat := if c < n then c else 0
theorem ixc_lt {n : Nat} (h : 0 < n) (c : Nat) : ixc n c < n := by unfold ixc; split; assumption; exact h
theorem sub_ix {n c c' : Nat} (h : c' < n) : sub0 c c' = sub0 (ixc n c) c' := by
  unfold ixc
  split
  · rfl
  · rename_i q
    unfold sub0
    have : (c == c') = false := beq_eq_false_iff_ne.mpr (by (first | lia | omega))
    rw [this, Bool.false_or]
    cases c' with
    | zero => rfl
    | succ k => rfl
section
variable {X : W} {G : GT} {cas : List Addr}
theorem xis_of {h : Heap} (x : XsK h X.K cas G.cls.length) (hc : ∀ i, X.ca i = cas.getD (ixc G.cls.length i) 0) (k : Nat) : XIs X sub0 G.cls.length k := by
  have hk := ixc_lt x.pos k
  obtain ⟨y, _⟩ := x.x _ (List.mem_range.mpr hk)
  refine ⟨by rw [hc]; exact y.ga, by rw [hc]; exact y.gn, by rw [hc]; exact y.mb, by rw [hc]; exact Option.isSome_iff_exists.mp y.cl, by rw [hc]; exact y.a, x.gt, x.tk, by rw [hc]; exact y.m, fun c' h' => ?_, by rw [hc]; exact y.v⟩
  rw [hc, hc, sub_ix h']
  have : ixc G.cls.length c' = c' := if_pos h'
  rw [this]
  exact (y.k c' (List.mem_range.mpr h')).1
theorem sl_of {h : Heap} (x : XsK h X.K cas G.cls.length) (kx : X.K.In X.h₀) (k : ∀ b o, h.get? b = some o → X.h₀.get? b = some o) (hc : ∀ i, X.ca i = cas.getD (ixc G.cls.length i) 0) : SLeaf X G sub0 where
  cls := fun c => by
    have hk := ixc_lt x.pos c
    obtain ⟨y, z⟩ := x.x _ (List.mem_range.mpr hk)
    obtain ⟨bm, N, nm, q, bs, hdct, sn, sub, ab, col, dd, k0, k1, k2, k3, k5, mN, h1, h2, h3, h4⟩ := z.keeps k
    rw [← hc] at h1
    refine ⟨bm, ⟨N, nm, q, bs, hdct, sn, sub, ab, col, dd, k0, k1, k2, k3, k5, mN, h1, h2, h3, h4.tail⟩, fun c' h' => ?_⟩
    have e := (y.k c' (List.mem_range.mpr h')).2
    rw [← hc, ← sub_ix h'] at e
    have e2 : cas.getD c' 0 = X.ca c' := by rw [hc, show ixc G.cls.length c' = c' from if_pos h']
    rw [e2] at e
    obtain ⟨cd, a1, a2⟩ := Option.bind_eq_some_iff.mp e
    unfold PySem.W.clsIn at a1
    split at a1
    · rename_i ho
      have := kx _ _ ho
      rw [h1] at this
      cases this
      cases a1
      split at a2
      · cases a2
      · exact (Option.some.inj a2).symm
    · cases a1
end
end Mine

set_option maxRecDepth 100000
set_option linter.all false
set_option genSizeOf false
set_option genSizeOfSpec false
set_option genInjectivity false
namespace Mine
open PySem PyProof.Rows PySem.Calls
open PySem.W

/-- the objects of a heap -/
noncomputable def fragOf (h : Heap) : Frag := (List.range h.objs.size).filterMap fun a => (h.get? a).map fun o => (a, o)
theorem lookup_memA : ∀ {l : Frag} {a : Addr} {o : Obj}, l.lookup a = some o → (a, o) ∈ l
  | [], _, _, e => nomatch e
  | (b, x) :: l, a, o, e => by
    rw [List.lookup_cons] at e
    cases hb : a == b with
    | true => rw [hb] at e; cases e; rw [beq_iff_eq.mp hb]; exact List.mem_cons_self
    | false => rw [hb] at e; exact List.mem_cons_of_mem _ (lookup_memA e)
theorem fragOf_in (h : Heap) : (fragOf h).In h := by
  intro a o e
  obtain ⟨b, _, e1⟩ := List.mem_filterMap.mp (lookup_memA e)
  obtain ⟨x, e2, e3⟩ := Option.map_eq_some_iff.mp e1
  cases e3; exact e2
noncomputable def globRef (K : Frag) (x : Str) : Addr := match nsIn K mainGlobals x with
  | some (some (.ref a)) => a
  | _ => 0
noncomputable def methRef (K : Frag) (p : Str × Str) : Addr := match clsIn K (globRef K p.1) with
  | some cd => match nsIn K cd.ns p.2 with
    | some (some (.ref a)) => a
    | _ => 0
  | .none => 0
/-- what the text's objects say -/
structure Said (G : GT) (T : Tab) (more : Frag → List Addr → List Addr → Bool) (K : Frag) (fns cas cos : List Addr) (h : Heap) : Prop where
  kx : K.In h
  nm : NmK K G fns cas cos
  fn : ∀ i fn, T.fns[i]? = some fn → ∀ h : Heap, K.In h → FnAt h G (fns.getD (0 + i) 0) fn
  xs : XsK h K cas G.cls.length
  mo : more K fns cos = true
noncomputable def kSaid (G : GT) (T : Tab) (more : Frag → List Addr → List Addr → Bool) (h : Heap) (K : Frag) (fns cas cos : List Addr) : Ok (K.In h → Said G T more K fns cas cos h) :=
  ((kNm K G fns cas cos).and (kXs h K G.cls cas) And.intro).and ((kAll (fun i fn => kFnAt K G fn (fns.getD i 0)) T.fns 0).and (Ok.dec (more K fns cos = true) id) And.intro) fun a b kx => ⟨kx, a.1, b.1, a.2, b.2⟩
noncomputable def lookAt (G : GT) (T : Tab) (ms : List (Str × Str)) (more : Frag → List Addr → List Addr → Bool) (h : Heap) (K : Frag) : Bool :=
  (kSaid G T more h K (G.fns.map (globRef K) ++ ms.map (methRef K)) (G.cls.map (globRef K)) (G.own.map (globRef K))).b
noncomputable def Says (G : GT) (T : Tab) (more : Frag → List Addr → List Addr → Bool) (h : Heap) : Prop := ∃ K fns cas cos, Said G T more K fns cas cos h
theorem says_of {G : GT} {T : Tab} {ms : List (Str × Str)} {more : Frag → List Addr → List Addr → Bool} {h : Heap} (e : lookAt G T ms more h (fragOf h) = true) : Says G T more h :=
  ⟨_, _, _, _, (kSaid G T more h (fragOf h) _ _ _).h e (fragOf_in h)⟩
theorem Says.keeps {G : GT} {T : Tab} {more : Frag → List Addr → List Addr → Bool} {h h' : Heap} (x : Says G T more h) (k : ∀ b o, h.get? b = some o → h'.get? b = some o) : Says G T more h' := by
  obtain ⟨K, fns, cas, cos, s⟩ := x
  exact ⟨K, fns, cas, cos, s.kx.keeps k, s.nm, s.fn, ⟨s.xs.gt, s.xs.tk, s.xs.pos, fun c hc => ⟨(s.xs.x c hc).1, (s.xs.x c hc).2.keeps k⟩⟩, s.mo⟩

/-- what a law gives back -/
theorem run_uni {prog p : Program} {w : World} {G : GT} {T : Tab} {more : Frag → List Addr → List Addr → Bool} {K : Frag} {fns cas cos : List Addr} {loose : List Str} {mg mb : Str → Option Value} {s : Shared} {scr : Addr} {vs : List Value} {ns : List Int} (S : Said G T more K fns cas cos s.heap) (t : TopRead p loose mg mb s.heap) (hg : s.gens = #[])
    (L : s.heap.IsList scr vs.toArray) (hi : IntsAre vs ns) (hn : ns.length ≤ 63) (hsub : T.sub = sub0) {law : Nat} {lx : Str} (hx : G.fns[law]? = some lx) {fa : Addr} (hlaw : mg lx = some (.ref fa)) {n : Nat} (hn12 : n ≤ 14) {σ : H}
    (hrun : (callsOf ns T n).call law [.scr] [] = .ok (.bool true) σ) :
    wpAny (model prog w) callerA (PySem.call (.ref fa) [.ref scr]) (fun v s' => v = .bool true ∧ (∀ b o, s.heap.get? b = some o → s'.heap.get? b = some o) ∧ s'.os = s.os ∧ s'.gens = #[]) (fun _ _ => False) s := by
  let X : W := ⟨prog, w, s.heap, scr, ns, fun i => cas.getD (ixc G.cls.length i) 0, fun i => cos.getD i 0, fun i => fns.getD i 0, K, fun _ => False⟩
  have wd : ∀ b, Wd (X.wb b) G T := fun b => by
    have nm : Nm (X.wb b) G := nm_of (X := X.wb b) S.nm S.kx t (fun _ => rfl) (fun i h => by show cas.getD (ixc _ i) 0 = _; rw [show ixc G.cls.length i = i from if_pos h]) fun _ => rfl
    exact {
      nm := nm
      fns := fun i fn e => by have := S.fn i fn e s.heap S.kx; rw [Nat.zero_add] at this; exact this
      lim := t.nolimit
      xs := fun k => by rw [hsub]; exact xis_of (X := X.wb b) S.xs (fun _ => rfl) k
      sl := by rw [hsub]; exact sl_of (X := X.wb b) S.xs S.kx (fun _ _ e => e) fun _ => rfl }
  have hfa : X.fa law = fa := by
    have := S.nm.fns law lx hx
    rw [Nat.zero_add] at this
    have := mg_of S.kx t.g this.1
    rw [hlaw] at this
    cases this; rfl
  have hlow : sysModules < s.heap.objs.size := by
    have e : ∃ o, K.lookup mainGlobals = some o := by
      have h6 := S.nm.bi ("len", .builtin "len") (by decide +kernel)
      unfold nsIn at h6
      cases ho : K.lookup mainGlobals with
      | none => rw [ho] at h6; cases h6
      | some o => exact ⟨o, rfl⟩
    obtain ⟨o, e⟩ := e
    exact Nat.lt_trans (by decide +kernel) (Heap.lt_size (S.kx _ _ e))
  have c : Cn (X.wb X.bad) callerA n true s [] [] := {
    rm := { depth := by show 1 + claimMargin + 4 * n + 4 < recursionLimit; simp only [claimMargin, recursionLimit]; (first | lia | omega)
            units := by show 4 + 40 * n + 40 < cLine; simp only [cLine]; (first | lia | omega)
            handled := fun _ => rfl
            nb := by intro h; cases h }
    hr := ⟨rfl, .nil, (fun _ h => nomatch h), (fun i o a e => nomatch e)⟩
    base := ⟨fun _ _ e => e, Nat.le_refl _, hlow⟩
    fs := ⟨[], rfl, trivial⟩
    scr := ⟨vs, L, hi, by rw [hi.length]; exact Nat.le_trans hn (by decide)⟩
    bad := fun a h => h.elim }
  subst hfa
  refine (leafs (X := X) wd n X.bad).call law [.scr] [.ref scr] callerA s [] [] c (.cons .scr .nil) (by rw [show (callsOf X.ns T n).call law [.scr] [] = _ from hrun]; intro q; cases q) _ _ (fun a σ' b s' μ' e S r => ?_) fun c σ' e s' μ' q => by rw [show (callsOf X.ns T n).call law [.scr] [] = _ from hrun] at q; cases q
  · rw [show (callsOf X.ns T n).call law [.scr] [] = _ from hrun] at e
    cases e
    cases r
    exact ⟨rfl, S.base.keep, S.os, S.gens.trans hg⟩

/-! The text's top, run on a tree of objects. -/
noncomputable def topRunT (tb : String → Option Builtin) (p : Program) (w : World) (n₀ : Nat) (ann : Option Value) : Nat → SharedT → Thread → Option SharedT
  | 0, _, _ => none
  | n + 1, s, t => match through t with
    | true => some s
    | false => match stepOk n₀ ann t with
      | false => none
      | true => match stepT (denote tb) p w s t with
        | some (s', t') => topRunT tb p w n₀ ann n s' t'
        | none => none
theorem topRun_of {tb : String → Option Builtin} {p : Program} {w : World} {n₀ : Nat} {ann : Option Value} : ∀ {n : Nat} {s s' : SharedT} {t : Thread}, topRunT tb p w n₀ ann n s t = some s' → topRun tb p w n₀ ann n s.abs t = some s'.abs
  | 0, _, _, _, h => nomatch h
  | n + 1, s, s', t, h => by
    unfold topRunT at h
    unfold topRun
    cases he : through t with
    | true => rw [he] at h; cases h; rfl
    | false =>
      rw [he] at h
      cases hk : stepOk n₀ ann t with
      | false => rw [hk] at h; cases h
      | true =>
        rw [hk] at h
        cases hs : stepT (denote tb) p w s t with
        | none => rw [hs] at h; cases h
        | some r => obtain ⟨s₂, t₂⟩ := r; rw [hs] at h; rw [stepT_spec hs]; exact topRun_of h
noncomputable def topRunQ (p : Program) (w : World) (n₀ : Nat) (ann : Option Value) : Nat → SharedT → Thread → Option SharedT
  | 0, _, _ => none
  | n + 1, s, t => match through t with
    | true => some s
    | false => match PySem.W.Fast.tw6613529449190102663 n₀ ann t with
      | false => none
      | true => match PySem.W.Fast.tw10156331382660048174 (PySem.W.Fast.tw11892475500146522536 PySem.W.Fast.tw14364793385576792824) p w s t with
        | some (s', t') => topRunQ p w n₀ ann n s' t'
        | none => none
theorem topRunQ_eq {p : Program} {w : World} {n₀ : Nat} {ann : Option Value} : ∀ (n : Nat) (s : SharedT) (t : Thread), topRunQ p w n₀ ann n s t = topRunT treeTable p w n₀ ann n s t
  | 0, _, _ => rfl
  | n + 1, s, t => by
    unfold topRunQ topRunT
    rw [← PySem.W.Fast.te6613529449190102663, ← PySem.W.Fast.te10156331382660048174, ← PySem.W.Fast.te11892475500146522536, ← PySem.W.Fast.te14364793385576792824]
    cases through t with
    | true => rfl
    | false =>
      cases stepOk n₀ ann t with
      | false => rfl
      | true =>
        cases stepT (denote treeTable) p w s t with
        | none => rfl
        | some r => obtain ⟨s', t'⟩ := r; exact topRunQ_eq n s' t'
/-- the machine's state at the start, as a tree -/
noncomputable def tree0 (P : Params) : BT := ((((((((((((BT.nil).ins 0 (boot_o_0 P)).ins 1 (boot_o_1 P)).ins 2 (boot_o_2 P)).ins 3 (boot_o_3 P)).ins 4 (boot_o_4 P)).ins 5 (boot_o_5 P)).ins 6 (boot_o_6 P)).ins 7 (boot_o_7 P)).ins 8 (boot_o_8 P)).ins 9 (boot_o_9 P)).ins 10 (boot_o_10 P))
noncomputable def start0 (P : Params) (os : OsState) : SharedT := ⟨tree0 P, 11, (boot_heap P).life, Array.mk [], boot_drawn, boot_toks, os⟩
theorem start0_abs (P : Params) (os : OsState) : (start0 P os).abs = ⟨boot_heap P, Array.mk [], boot_drawn, boot_toks, os⟩ := by kernel_rfl
theorem boot_size (P : Params) : ((boot_heap P).isNs mainGlobals && (Array.mk [] : Array GenState).size == 0, (boot_heap P).objs.size, (boot_heap P).nsMap mainGlobals "__annotations__") = (true, 11, some (.ref 6)) := by kernel_rfl
theorem left_of {p q : Program} {loose : List Str} {Xt : Shared → Bool} {α : Type} {Yf : Shared → α} {Ya : World → α} {N M : Nat} (e : opening p = plainProg p.main.scope.names) (hN : Nat.ble 600 N = true) (f : ∀ s, fenceModules? p s = some s) (le : Nat.ble M N = true)
    (run : ∀ (w : World) (os : OsState), (topRunQ p w 11 (some (.ref 6)) M (start0 w.params os) (topStub p)).map (fun T => ((staticsOk (importedModules p.main.body) (boot_heap w.params) T.abs.heap && namesBound p T.abs.heap && gensDone T.abs && laidKept (boot_heap w.params) T.abs.heap),
        openSeen q loose (importedModules p.main.body) Xt true T.abs, Yf T.abs)) = some (true, openGood q loose, Ya w)) : LeftO p q loose Xt Yf Ya N := fun w => by
  obtain ⟨⟨h, gs, d, k, os⟩, e, e'⟩ := Option.map_eq_some_iff.mp (boot_open (N := N) e hN f w)
  obtain ⟨rfl, rfl, rfl, rfl⟩ : h = boot_heap w.params ∧ gs = Array.mk [] ∧ d = boot_drawn ∧ k = boot_toks := by
    injection e' with a b; injection b with b c; injection c with c d; exact ⟨a, b, c, d⟩
  obtain ⟨z1, z2, z3⟩ : _ ∧ _ ∧ _ := by
    have z := boot_size w.params
    injection z with a b; injection b with b c; exact ⟨a, b, c⟩
  obtain ⟨T, hT, l⟩ := Option.map_eq_some_iff.mp (run w os)
  obtain ⟨l1, l2, l3⟩ : _ ∧ _ ∧ _ := by injection l with a b; injection b with b c; exact ⟨a, b, c⟩
  rw [topRunQ_eq] at hT
  have r := topRun_of hT
  rw [start0_abs] at r
  have r := topRun_mono (N - M) _ _ _ _ r
  rw [show M + (N - M) = N by have := Nat.le_of_ble_eq_true le; (first | lia | omega)] at r
  have t : topFrom treeTable p w N ⟨boot_heap w.params, Array.mk [], boot_drawn, boot_toks, os⟩ = some T.abs := by
    unfold topFrom
    dsimp only
    rw [z1, z2, z3, r]
    show (match staticsOk (importedModules p.main.body) (boot_heap w.params) T.abs.heap && namesBound p T.abs.heap && gensDone T.abs && laidKept (boot_heap w.params) T.abs.heap with | true => _ | false => _) = _
    rw [l1]
  unfold openEnds
  rw [e]
  show (topFrom treeTable p w N _).map _ = _
  rw [t]
  exact congrArg some (Prod.ext l2 l3)
end Mine

open PySem PySem.W PyProof.Rows
set_option Elab.async false
set_option maxRecDepth 100000
namespace Mine.L03
noncomputable def q : Program := view PySem.Challenge.pw_uf030017_03 [42]
noncomputable def G : GT := ⟨fnN, exN, [], [], []⟩
noncomputable def T : Tab := ⟨fs, [], sub0⟩
noncomputable def loose : List Str := fnN.dropLast ++ exN
noncomputable def seenAt (s : Shared) : Bool := lookAt G T meN (fun _ _ _ => true) s.heap (fragOf s.heap)
set_option maxHeartbeats 0 in
theorem left : LeftO PySem.Challenge.pw_uf030017_03 q loose (fun s => xlAt q [] s && recOk [] s) seenAt (fun _ => true) 4000 :=
  left_of (M := 3020) (by kernel_rfl) (by decide +kernel) (fun s => by kernel_rfl) (by decide +kernel) (by intro w os; kernel_rfl)
end Mine.L03
theorem Mine.L03.holds (hpure : ∀ ns : List Int, ns.length ≤ 63 → ∃ σ, (Mine.callsOf ns Mine.L03.T 12).call 27 [.scr] [] = .ok (.bool true) σ) : PySem.Challenge.rw_uf030017_03.Holds := by
  w_on
  refine holds_law (by kernel_rfl) fun said => ?_
  refine holds_open (q := Mine.L03.q) (loose := Mine.L03.loose) (Xt := fun s => xlAt Mine.L03.q [] s && recOk (RowW.records _) s) (XP := XL Mine.L03.q []) (Yf := Mine.L03.seenAt) (Ya := fun _ => true) (YP := fun _ h => Mine.Says Mine.L03.G Mine.L03.T (fun _ _ _ => true) h) (N := 4000) ?hl (fun _ s e => Mine.says_of e) (fun _ h h' x k => x.keeps k) (fun s e => xl_of s (Bool.and_eq_true_iff.mp e).1) XL.keeps (by rfl) (by rfl) (by rfl) (fun s e => recFacts_of (Bool.and_eq_true_iff.mp e).2) (by rfl) (by first | assumption | decide +kernel) (by decide +kernel) ⟨rfl, rfl, rfl, rfl, rfl, by decide +kernel⟩ ?hw ?hc
  case hl => exact Mine.L03.left
  case hw => w_witness2
  case hc =>
    intro w s₀ s₁ mg mb G Y fa o pm cd doc dV kV ho hd hcd hD hmg hg args vals as hpre hlay hrd hwl hlo
    obtain ⟨K, fns, cas, cos, SA⟩ := Y
    refine Ground.open G ?_
    intro T B D TE TW
    have TR := topRead_of T
    clear hcd hD hd ho
    wrow_args hpre hlay hrd hwl hlo
    rename_i ns _ _ _ _ _ _ _ scr vs _ L _ _ _ hI _ hlen _
    obtain ⟨σ, hrun⟩ := hpure ns (by (first | lia | omega))
    refine wpAny_mono (Mine.run_uni (lx := "law") SA TR hg L hI (by (first | lia | omega)) rfl (by kernel_rfl) hmg (by decide) hrun) (fun v s' h => ?_) fun _ _ h => h.elim
    obtain ⟨rfl, hk, ho, hg'⟩ := h
    exact GoodW.toG ⟨.inl ⟨_, .bool true, [], rfl, fun _ => rfl, ReadsW.bool _, by first | kernel_rfl | decide +kernel | (simp [PySem.Challenge.rw_uf030017_03]; done), fun _ => ⟨List.nodup_nil, fun _ h => nomatch h⟩⟩, hk, ho, hg'⟩

theorem PySem.Challenge.cw_uf030017_03_holds : PySem.Challenge.rw_uf030017_03.Holds := by
  exact Mine.L03.holds fun ns h => Mine.L03.pure ns h
