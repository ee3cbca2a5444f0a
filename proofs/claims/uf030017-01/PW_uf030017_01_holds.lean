import PyProof.Rows.All
import Open.Row
import PyProof.Cells
import PyProof.CompFree
import PyProof.DefCall
import PyProof.StationsW
import PyProof.DictList
import PyProof.DictKinds
import PyProof.DictTable
import PyProof.Raises
import PyProof.AssignAttr
import PyProof.IsiHeapPairs
import PyProof.EqAt
import Wide.All
import OpenK.AllK
import Wide.FinOn
import PySem.Challenge.RW_uf030017_01
set_option linter.all false
set_option Elab.async false
set_option maxRecDepth 100000
namespace Mine
open PySem

/-! The small language: values, heap, results. -/
inductive V where
  | none | bool (b : Bool) | int (i : Int) | str (x : List Nat) | ref (i : Nat) | tup (vs : List V) | scr
  deriving Inhabited

inductive O where
  | list (xs : List V)
  deriving Inhabited

noncomputable abbrev H := List O

inductive R (α : Type) where
  | ok (a : α) (σ : H) | stuck

noncomputable abbrev M (α : Type) := H → R α

noncomputable def M.ret {α : Type} (a : α) : M α := fun σ => .ok a σ
noncomputable def M.bnd {α β : Type} (m : M α) (f : α → M β) : M β := fun σ => match m σ with
  | .ok a σ' => f a σ'
  | .stuck => .stuck
noncomputable def stuck {α : Type} : M α := fun _ => .stuck

noncomputable def lim : Nat := 16777216
noncomputable def newO (o : O) : M V := fun σ => .ok (.ref σ.length) (σ ++ [o])
noncomputable def newL (xs : List V) : M V := if xs.length ≤ lim then newO (.list xs) else stuck
noncomputable def mkS (x : List Nat) : M V := if x.length ≤ lim then .ret (.str x) else stuck
noncomputable def mkT (vs : List V) : M V := if vs.length ≤ lim then .ret (.tup vs) else stuck

/-! Equality as the model has it, where it is settled by the kinds below. -/
noncomputable def veqs (f : V → V → Option Bool) : List V → List V → Option Bool
  | [], [] => some true
  | x :: xs, y :: ys => match f x y, veqs f xs ys with
    | some p, some q => some (p && q)
    | _, _ => .none
  | _, _ => some false
noncomputable def veq : Nat → H → V → V → Option Bool
  | 0, _, _, _ => .none
  | n + 1, σ, a, b => match a, b with
    | .none, .none => some true
    | .bool x, .bool y => some (x == y)
    | .int x, .int y => some (decide (x = y))
    | .str x, .str y => some (decide (x = y))
    | .none, .int _ => some false
    | .int _, .none => some false
    | .none, .str _ => some false
    | .str _, .none => some false
    | .int _, .str _ => some false
    | .str _, .int _ => some false
    | .tup xs, .tup ys => if xs.length = ys.length then veqs (veq n σ) xs ys else .none
    | .ref i, .ref j => match σ[i]?, σ[j]? with
      | some (.list xs), some (.list ys) => if xs.length = ys.length then veqs (veq n σ) xs ys else some false
      | _, _ => .none
    | _, _ => .none
noncomputable def eqD : Nat := 6

/-! Names, operators, the trees. -/
inductive Bin where | add | sub | mul | fdiv | mod | pow
inductive Cmp where | eq | ne | lt | le | gt | ge | is | isnt | isin | notin
inductive Ty where | int | bool | str
inductive Bi where | len | list | min2 | all | range
inductive Me where | index | startswith

mutual
inductive E where
  | lit (v : V) | var (k : Nat) | bin (op : Bin) (a b : E) | not (a : E) | neg (a : E) | and (es : List E) | or (es : List E)
  | cmp (op : Cmp) (a b : E) | cmp2 (op op' : Cmp) (a b c : E)
  | call (f : Nat) (es : List E)
  | bi (b : Bi) (es : List E) | isi (e : E) (t : Ty) | me (o : E) (m : Me) (es : List E)
  | idx (a i : E) | slice (a lo hi : E)
  | list (es : List E) | tup (es : List E)
  | comp (src : Src) (elt : E) | compIf (src : Src) (elt cond : E)
inductive Src where
  | of (e : E) | range (e : E)
end

inductive S where
  | assign (k : Nat) (e : E) | ret (e : E)
  | ite (c : E) (t f : List S) | forN (k : Nat) (src : Src) (body : List S)
  | while (c : E) (body : List S)

structure Fn where
  nargs : Nat
  n : Nat
  body : List S

/-! Operators on values. -/
noncomputable def idxN (k : Int) (n : Nat) : Option Nat :=
  if 0 ≤ k then (if k.toNat < n then some k.toNat else .none) else (if 0 ≤ k + n then some (k + n).toNat else .none)
noncomputable def clampN (k : Int) (n : Nat) : Nat := if 0 ≤ k then min k.toNat n else (k + n).toNat
noncomputable def cut {α : Type} (xs : List α) (lo hi : Option Int) : List α :=
  let a := match lo with | some k => clampN k xs.length | .none => 0
  let b := match hi with | some k => clampN k xs.length | .none => xs.length
  (xs.drop a).take (b - a)

noncomputable def optInt : V → Option (Option Int)
  | .none => some .none
  | .int k => some (some k)
  | _ => .none

section
variable (ns : List Int)

noncomputable def lenV (a : V) : M V := match a with
  | .ref l => fun σ => match σ[l]? with
    | some (.list xs) => .ok (.int xs.length) σ
    | .none => .stuck
  | .tup xs => .ret (.int xs.length)
  | .str x => .ret (.int x.length)
  | .scr => .ret (.int ns.length)
  | _ => stuck

noncomputable def idxV (a i : V) : M V := match a, i with
  | .ref l, .int k => fun σ => match σ[l]? with
    | some (.list xs) => match (idxN k xs.length).bind (xs[·]?) with
      | some v => .ok v σ
      | .none => .stuck
    | .none => .stuck
  | .tup xs, .int k => match (idxN k xs.length).bind (xs[·]?) with
    | some v => .ret v
    | .none => stuck
  | .str x, .int k => match (idxN k x.length).bind (x[·]?) with
    | some c => .ret (.str [c])
    | .none => stuck
  | .scr, .int k => match (idxN k ns.length).bind (ns[·]?) with
    | some c => .ret (.int c)
    | .none => stuck
  | _, _ => stuck

noncomputable def sliceV (a lo hi : V) : M V := match optInt lo, optInt hi with
  | some l, some h => match a with
    | .ref i => fun σ => match σ[i]? with
      | some (.list xs) => newL (cut xs l h) σ
      | .none => .stuck
    | .str x => mkS (cut x l h)
    | .scr => newL ((cut ns l h).map V.int)
    | _ => stuck
  | _, _ => stuck

noncomputable def small (i : Int) : Bool := decide (-18446744073709551616 < i ∧ i < 18446744073709551616)
noncomputable def i2 (a b : V) (f : Int → Int → M V) : M V := match a with
  | .int x => match b with
    | .int y => f x y
    | _ => stuck
  | _ => stuck
noncomputable def addV (a b : V) : M V := match a with
  | .int x => match b with
    | .int y => .ret (.int (x + y))
    | _ => stuck
  | .str x => match b with
    | .str y => mkS (x ++ y)
    | _ => stuck
  | .ref i => match b with
    | .ref j => fun σ => match σ[i]? with
      | some (.list xs) => match σ[j]? with
        | some (.list ys) => newL (xs ++ ys) σ
        | .none => .stuck
      | .none => .stuck
    | _ => stuck
  | _ => stuck
noncomputable def binV (op : Bin) (a b : V) : M V := match op with
  | .add => addV a b
  | .sub => i2 a b fun x y => .ret (.int (x - y))
  | .mul => i2 a b fun x y => if small x || small y then .ret (.int (x * y)) else stuck
  | .fdiv => i2 a b fun x y => if 0 < y ∧ y < 1073741824 then .ret (.int (x.fdiv y)) else stuck
  | .mod => i2 a b fun x y => if y = 0 then stuck else .ret (.int (x.fmod y))
  | .pow => i2 a b fun x y => if x = 10 ∧ y = 30 then .ret (.int (10 ^ 30)) else stuck

/-- equality of plain values of one kind -/
noncomputable def feq : V → V → Option Bool
  | .bool x, .bool y => some (x == y)
  | .int x, .int y => some (decide (x = y))
  | .str x, .str y => some (decide (x = y))
  | _, _ => .none
noncomputable def anyEq (a : V) : List V → Option Bool
  | [] => some false
  | x :: xs => match feq x a, anyEq a xs with
    | some p, some q => some (p || q)
    | _, _ => .none

noncomputable def eqM (a b : V) (neg : Bool) : M V := fun σ => match veq eqD σ a b with
  | some r => .ok (.bool (r != neg)) σ
  | .none => .stuck
noncomputable def inM (a b : V) (neg : Bool) : M V := match b with
  | .ref l => fun σ => match σ[l]? with
    | some (.list xs) => match anyEq a xs with
      | some r => .ok (.bool (r != neg)) σ
      | .none => .stuck
    | .none => .stuck
  | .tup xs => fun σ => match anyEq a xs with
    | some r => .ok (.bool (r != neg)) σ
    | .none => .stuck
  | .str y => match a with
    | .str [c] => .ret (.bool (y.contains c != neg))
    | _ => stuck
  | _ => stuck
noncomputable def isNoneV : V → Bool
  | .none => true
  | _ => false
noncomputable def cmpV (op : Cmp) (a b : V) : M V := match op with
  | .eq => eqM a b false
  | .ne => eqM a b true
  | .isin => inM a b false
  | .notin => inM a b true
  | .is => match b with
    | .none => .ret (.bool (isNoneV a))
    | _ => stuck
  | .isnt => match b with
    | .none => .ret (.bool (!isNoneV a))
    | _ => stuck
  | .lt => i2 a b fun x y => .ret (.bool (decide (x < y)))
  | .le => i2 a b fun x y => .ret (.bool (decide (x ≤ y)))
  | .gt => i2 a b fun x y => .ret (.bool (decide (y < x)))
  | .ge => i2 a b fun x y => .ret (.bool (decide (y ≤ x)))

noncomputable def notV : V → M V
  | .bool b => .ret (.bool (!b))
  | _ => stuck
noncomputable def negV : V → M V
  | .int i => .ret (.int (-i))
  | _ => stuck

noncomputable def isiV (t : Ty) (v : V) : M V := match v with
  | .scr => stuck
  | .ref l => fun σ => if l < σ.length then .ok (.bool false) σ else .stuck
  | .int _ => .ret (.bool (match t with | .int => true | _ => false))
  | .bool _ => .ret (.bool (match t with | .int => true | .bool => true | _ => false))
  | .str _ => .ret (.bool (match t with | .str => true | _ => false))
  | _ => .ret (.bool false)

noncomputable def boolsOf : List V → Option (List Bool)
  | [] => some []
  | .bool x :: r => (boolsOf r).map (x :: ·)
  | _ :: _ => .none

noncomputable def biV (b : Bi) (as : List V) : M V := match b with
  | .len => match as with
    | [a] => lenV ns a
    | _ => stuck
  | .list => match as with
    | [.ref l] => fun σ => match σ[l]? with
      | some (.list xs) => newL xs σ
      | .none => .stuck
    | _ => stuck
  | .min2 => match as with
    | [.int x, .int y] => .ret (.int (min x y))
    | _ => stuck
  | .all => match as with
    | [.ref l] => fun σ => match σ[l]? with
      | some (.list xs) => match boolsOf xs with
        | some bs => .ok (.bool (bs.all id)) σ
        | .none => .stuck
      | .none => .stuck
    | _ => stuck
  | .range => stuck

noncomputable def pre : List Nat → List Nat → Bool
  | [], _ => true
  | _ :: _, [] => false
  | a :: x, b :: y => a == b && pre x y
noncomputable def firstEq (a : V) : List V → Nat → Option Nat
  | [], _ => .none
  | x :: xs, i => match feq x a with
    | some true => if (anyEq a xs).isSome then some i else .none
    | some false => firstEq a xs (i + 1)
    | .none => .none
noncomputable def meV (o : V) (m : Me) (as : List V) : M V := match m with
  | .index => match o, as with
    | .ref l, [v] => fun σ => match σ[l]? with
      | some (.list xs) => match firstEq v xs 0 with
        | some i => .ok (.int i) σ
        | .none => .stuck
      | .none => .stuck
    | _, _ => stuck
  | .startswith => match o, as with
    | .str x, [.str y] => .ret (.bool (pre y x))
    | _, _ => stuck

/-- a method is there -/
noncomputable def meK (m : Me) (x : V) : M V := match m with
  | .index => match x with
    | .ref l => fun σ => match σ[l]? with
      | some _ => .ok .none σ
      | .none => .stuck
    | _ => stuck
  | .startswith => match x with
    | .str _ => .ret .none
    | _ => stuck
/-! Going through. -/
inductive It where
  | list (l i : Nat) | range (i n : Nat) | seq (vs : List V)

noncomputable def nextIt (it : It) (σ : H) : Option (Option (V × It)) := match it with
  | .list l i => match σ[l]? with
    | some (.list xs) => match xs[i]? with
      | some v => some (some (v, .list l (i + 1)))
      | .none => some .none
    | .none => .none
  | .range i n => if i < n then some (some (.int i, .range (i + 1) n)) else some .none
  | .seq vs => match vs with
    | [] => some .none
    | v :: r => some (some (v, .seq r))

noncomputable def itOf (v : V) (σ : H) : Option (It × Nat) := match v with
  | .ref l => match σ[l]? with
    | some (.list xs) => some (.list l 0, xs.length)
    | .none => .none
  | .str x => some (.seq (x.map fun c => V.str [c]), x.length)
  | _ => .none
noncomputable def rangeV : V → M (It × Nat)
  | .int k => if -4611686018427387904 < k ∧ k < 4611686018427387904 then .ret (.range 0 k.toNat, k.toNat) else stuck
  | _ => stuck
noncomputable abbrev Env := List (Option V)

structure Calls where
  call : Nat → List V → M V
  fuel : Nat
  /-- nothing is being handled: loops may run -/
  hn : Bool

noncomputable def gather (f : V → M (Option V)) : Nat → It → List V → M (List V)
  | n, it, acc => fun σ => match nextIt it σ with
    | some .none => .ok acc σ
    | some (some (v, it')) => match n with
      | 0 => .stuck
      | m + 1 => match f v σ with
        | .ok (some x) σ' => if acc.length + 1 ≤ lim then gather f m it' (acc ++ [x]) σ' else .stuck
        | .ok .none σ' => gather f m it' acc σ'
        | _ => .stuck
    | .none => .stuck

mutual
noncomputable def evE (C : Calls) (ρ : Env) : E → M V
  | .lit v => .ret v
  | .var k => match ρ[k]? with
    | some (some v) => .ret v
    | _ => stuck
  | .bin op a b => (evE C ρ a).bnd fun x => (evE C ρ b).bnd fun y => binV op x y
  | .not a => (evE C ρ a).bnd notV
  | .neg a => (evE C ρ a).bnd negV
  | .and es => evAnd C ρ es
  | .or es => evOr C ρ es
  | .cmp op a b => (evE C ρ a).bnd fun x => (evE C ρ b).bnd fun y => cmpV op x y
  | .cmp2 op op' a b c => (evE C ρ a).bnd fun x => (evE C ρ b).bnd fun y => (cmpV op x y).bnd fun r => match r with
    | .bool true => (evE C ρ c).bnd fun z => cmpV op' y z
    | .bool false => .ret (.bool false)
    | _ => stuck
  | .call f es => (evEs C ρ es).bnd fun vs => C.call f vs
  | .bi b es => (evEs C ρ es).bnd fun vs => fun σ => if C.hn then biV ns b vs σ else .stuck
  | .isi e t => (evE C ρ e).bnd fun x => isiV t x
  | .me o m es => (evE C ρ o).bnd fun x => (meK m x).bnd fun _ => (evEs C ρ es).bnd fun vs => meV x m vs
  | .idx a i => (evE C ρ a).bnd fun x => (evE C ρ i).bnd fun y => idxV ns x y
  | .slice a lo hi => (evE C ρ a).bnd fun x => (evE C ρ lo).bnd fun l => (evE C ρ hi).bnd fun h => sliceV ns x l h
  | .list es => (evEs C ρ es).bnd newL
  | .tup es => (evEs C ρ es).bnd mkT
  | .comp src elt => (evSrc C ρ src).bnd fun p => (if C.hn then gather (fun v => (evE C (ρ ++ [some v]) elt).bnd fun x => .ret (some x)) p.2 p.1 [] else stuck).bnd newO'
  | .compIf src elt cond => (evSrc C ρ src).bnd fun p => (if C.hn then gather (fun v => (evE C (ρ ++ [some v]) cond).bnd fun t => match t with
      | .bool true => (evE C (ρ ++ [some v]) elt).bnd fun x => .ret (some x)
      | .bool false => .ret .none
      | _ => stuck) p.2 p.1 [] else stuck).bnd newO'
  where newO' (xs : List V) : M V := newO (.list xs)
noncomputable def evEs (C : Calls) (ρ : Env) : List E → M (List V)
  | [] => .ret []
  | e :: r => (evE C ρ e).bnd fun x => (evEs C ρ r).bnd fun xs => .ret (x :: xs)
noncomputable def evAnd (C : Calls) (ρ : Env) : List E → M V
  | [] => stuck
  | e :: r => (evE C ρ e).bnd fun v => match v with
    | .bool b => match r with
      | [] => .ret (.bool b)
      | _ :: _ => if b then evAnd C ρ r else .ret (.bool false)
    | _ => stuck
noncomputable def evOr (C : Calls) (ρ : Env) : List E → M V
  | [] => stuck
  | e :: r => (evE C ρ e).bnd fun v => match v with
    | .bool b => match r with
      | [] => .ret (.bool b)
      | _ :: _ => if b then .ret (.bool true) else evOr C ρ r
    | _ => stuck
noncomputable def evSrc (C : Calls) (ρ : Env) : Src → M (It × Nat)
  | .of e => (evE C ρ e).bnd fun v => fun σ => match itOf v σ with
    | some p => .ok p σ
    | .none => .stuck
  | .range e => (evE C ρ e).bnd rangeV
end

inductive Fl where
  | next | ret (v : V)
inductive RS where
  | ok (f : Fl) (ρ : Env) (σ : H) | stuck

noncomputable def RS.ofE {α : Type} (r : R α) (k : α → H → RS) : RS := match r with
  | .ok a σ => k a σ
  | .stuck => .stuck

noncomputable def forLoop (tgt : V → Env → Option Env) (body : Env → H → RS) : Nat → It → Env → H → RS
  | n, it, ρ, σ => match nextIt it σ with
    | some .none => .ok .next ρ σ
    | some (some (v, it')) => match n with
      | 0 => .stuck
      | m + 1 => match tgt v ρ with
        | .none => .stuck
        | some ρ' => match body ρ' σ with
          | .ok .next ρ'' σ' => forLoop tgt body m it' ρ'' σ'
          | r => r
    | .none => .stuck
noncomputable def whileLoop (test : Env → M V) (body : Env → H → RS) : Nat → Env → H → RS
  | 0, _, _ => .stuck
  | n + 1, ρ, σ => RS.ofE (test ρ σ) fun v σ' => match v with
    | .bool false => .ok .next ρ σ'
    | .bool true => match body ρ σ' with
      | .ok .next ρ'' σ'' => whileLoop test body n ρ'' σ''
      | r => r
    | _ => .stuck
noncomputable def tgtN (k : Nat) (v : V) (ρ : Env) : Option Env := if k < ρ.length then some (ρ.set k (some v)) else .none
mutual
noncomputable def evS (C : Calls) (ρ : Env) (σ : H) : S → RS
  | .assign k e => RS.ofE (evE ns C ρ e σ) fun v σ' => if k < ρ.length then .ok .next (ρ.set k (some v)) σ' else .stuck
  | .ret e => RS.ofE (evE ns C ρ e σ) fun v σ' => .ok (.ret v) ρ σ'
  | .ite c t f => RS.ofE (evE ns C ρ c σ) fun v σ' => match v with
    | .bool true => evSs C ρ σ' t
    | .bool false => evSs C ρ σ' f
    | _ => .stuck
  | .forN k src body => RS.ofE (evSrc ns C ρ src σ) fun p σ' => if C.hn then (forLoop (tgtN k) (fun ρ σ => evSs C ρ σ body) p.2 p.1 ρ σ') else .stuck
  | .while c body => (whileLoop (fun ρ => evE ns C ρ c) (fun ρ σ => evSs C ρ σ body) C.fuel ρ σ)
noncomputable def evSs (C : Calls) (ρ : Env) (σ : H) : List S → RS
  | [] => .ok .next ρ σ
  | s :: r => match evS C ρ σ s with
    | .ok .next ρ' σ' => evSs C ρ' σ' r
    | x => x
end

/-- a call of a def -/
noncomputable def evF (C : Calls) (fn : Fn) (vs : List V) : M V := fun σ => if vs.length = fn.nargs then
    match evSs ns C (vs.map some ++ List.replicate (fn.n - fn.nargs) .none) σ fn.body with
    | .ok (.ret v) _ σ' => .ok v σ'
    | .ok .next _ σ' => .ok .none σ'
    | _ => .stuck
  else .stuck
end

noncomputable def callsOf (ns : List Int) (fs : List Fn) (fuel : Nat) : Nat → Calls
  | 0 => ⟨fun _ _ => stuck, fuel, true⟩
  | n + 1 => ⟨fun f vs => match fs[f]? with
      | some fn => evF ns (callsOf ns fs fuel n) fn vs
      | .none => stuck, fuel, true⟩
end Mine

set_option maxRecDepth 100000
namespace Mine
open PySem

/-! From the text's trees to the small ones. -/
structure GT where
  fns : List Str
  consts : List (Str × V)

structure Cx where
  kinds : List (Str × NameKind)
  slots : List (Str × Nat)
  n : Nat

noncomputable def codes (x : Str) : List Nat := x.cps.toList

noncomputable def Cx.slot (cx : Cx) (x : Str) : Option Nat := match cx.kinds.lookup x with
  | some .local => cx.slots.lookup x
  | some .cell => cx.slots.lookup x
  | _ => .none
noncomputable def Cx.glob (cx : Cx) (x : Str) : Bool := decide (cx.kinds.lookup x = some .globalImplicit) && decide (x ≠ "__debug__")
noncomputable def findIx (x : Str) : List Str → Nat → Option Nat
  | [], _ => .none
  | y :: r, i => if y = x then some i else findIx x r (i + 1)

noncomputable def biOf (x : Str) (n : Nat) : Option Bi :=
  if n = 1 then (if x = "len" then some .len else if x = "list" then some .list else if x = "all" then some .all else if x = "range" then some .range else .none)
  else if n = 2 then (if x = "min" then some .min2 else .none) else .none
/-- what is gone through, of what is handed to it -/
noncomputable def srcOf : E → Src
  | .bi .range [e] => .range e
  | e => .of e
noncomputable def meOf (x : Str) : Option Me := if x = "index" then some .index else if x = "startswith" then some .startswith else .none
noncomputable def tyOf (x : Str) : Option Ty := if x = "int" then some .int else if x = "bool" then some .bool else if x = "str" then some .str else .none
noncomputable def binOf : Operator → Option Bin
  | .Add => some .add | .Sub => some .sub | .Mult => some .mul | .FloorDiv => some .fdiv | .Mod => some .mod | .Pow => some .pow
  | _ => .none
noncomputable def cmpOf : CmpOp → Cmp
  | .Eq => .eq | .NotEq => .ne | .Lt => .lt | .LtE => .le | .Gt => .gt | .GtE => .ge | .Is => .is | .IsNot => .isnt | .In => .isin | .NotIn => .notin
noncomputable def litOf : Const → Option V
  | .none => some .none
  | .bool b => some (.bool b)
  | .int i => some (.int i)
  | .str x => if (codes x).length ≤ 4096 then some (.str (codes x)) else .none
  | _ => .none

noncomputable def relabel (outer : List (Str × NameKind)) : List (Str × NameKind) → List (Str × NameKind)
  | [] => []
  | (x, k) :: r => (x, if k = .free ∧ outer.lookup x = some .cell then .cell else k) :: relabel outer r
/-- a comprehension's block: the target is its one local, all else is the frame's cells or the module's -/
noncomputable def blockOk (outer : List (Str × NameKind)) (x : Str) : List (Str × NameKind) → Bool
  | [] => true
  | (y, k) :: r => (match k with
      | .local => decide (y = x) || decide (y = (".0" : Str))
      | .free => decide (outer.lookup y = some .cell)
      | .globalImplicit => true
      | _ => false) && blockOk outer x r
noncomputable def compTarget : List Comprehension → Option Str
  | [⟨.Name x _, _, _, a⟩] => if a = 0 then some x else .none
  | _ => .none
noncomputable def Cx.inComp (cx : Cx) (x : Str) (sc : Scope) : Option Cx :=
  if sc.kind = .function ∧ blockOk cx.kinds x sc.names = true ∧ sc.names.lookup x = some .local ∧ (sc.names.map (·.1)).Nodup ∧ cx.slots.lookup (".0" : Str) = none ∧ sc.isGenerator = false ∧ sc.isCoroutine = false then
    some ⟨relabel cx.kinds sc.names, (x, cx.n) :: cx.slots, cx.n + 1⟩
  else .none

noncomputable def plainBase : Expr → Bool
  | .Call (.Name id _) [] [] _ => decide (id ≠ "super")
  | _ => true

mutual
noncomputable def trE (G : GT) (cx : Cx) : Expr → Option E
  | .Constant c _ _ => (litOf c).map .lit
  | .Name x _ => if x = "__debug__" then .none else match cx.slot x with
    | some k => some (.var k)
    | .none => if cx.glob x then (G.consts.lookup x).map .lit else .none
  | .BoolOp op es _ => match trEs G cx es with
    | some (a :: b :: l) => some (match op with | .And => .and (a :: b :: l) | .Or => .or (a :: b :: l))
    | _ => .none
  | .BinOp l op r _ => match binOf op, trE G cx l, trE G cx r with
    | some o, some a, some b => some (.bin o a b)
    | _, _, _ => .none
  | .UnaryOp op a _ => match op with
    | .Not => (trE G cx a).map .not
    | .USub => (trE G cx a).map .neg
    | _ => .none
  | .Compare l ops cs _ => match ops, trE G cx l, trEs G cx cs with
    | [op], some a, some [b] => some (.cmp (cmpOf op) a b)
    | [op, op'], some a, some [b, c] => some (.cmp2 (cmpOf op) (cmpOf op') a b c)
    | _, _, _ => .none
  | .Call g args kws p => match kws with
    | [] => match g with
      | .Name f _ => if cx.glob f then
          (if f = "isinstance" then (match args with
              | [a, b] => match b with
                | .Name t _ => if cx.glob t then match trE G cx a, tyOf t with
                    | some e, some ty => some (.isi e ty)
                    | _, _ => .none
                  else .none
                | _ => .none
              | _ => .none)
            else match trEs G cx args with
              | .none => .none
              | some es => match findIx f G.fns 0 with
                | some i => some (.call i es)
                | .none => (biOf f es.length).map fun b => .bi b es)
        else .none
      | .Attribute o m ap => if plainBase o && decide (ap.endLine = p.line) && decide (args.length < 29) then match trE G cx o, trEs G cx args with
          | some a, some es => (meOf m).map fun me => .me a me es
          | _, _ => .none
        else .none
      | _ => .none
    | _ :: _ => .none
  | .Subscript a i _ => match i with
    | .Slice lo hi st _ => match st with
      | .none => match trE G cx a, trO G cx lo, trO G cx hi with
        | some e, some l, some h => some (.slice e l h)
        | _, _, _ => .none
      | some _ => .none
    | k => match trE G cx a, trE G cx k with
      | some e, some j => some (.idx e j)
      | _, _ => .none
  | .List es _ => (trEs G cx es).map .list
  | .Tuple es _ _ => (trEs G cx es).map .tup
  | .ListComp elt gens sc _ => match compTarget gens with
    | some x => match cx.inComp x sc with
      | some cx' => match trGens G cx gens, trE G cx' elt, trIfs G cx' gens with
        | some src, some e, some [] => some (.comp src e)
        | some src, some e, some [c] => some (.compIf src e c)
        | _, _, _ => .none
      | .none => .none
    | .none => .none
  | _ => .none
noncomputable def trEs (G : GT) (cx : Cx) : List Expr → Option (List E)
  | [] => some []
  | e :: r => match trE G cx e, trEs G cx r with
    | some a, some b => some (a :: b)
    | _, _ => .none
noncomputable def trO (G : GT) (cx : Cx) : Option Expr → Option E
  | .none => some (.lit .none)
  | some e => trE G cx e
noncomputable def trGens (G : GT) (cx : Cx) : List Comprehension → Option Src
  | [g] => trGen G cx g
  | _ => .none
noncomputable def trGen (G : GT) (cx : Cx) : Comprehension → Option Src
  | ⟨_, it, _, _⟩ => (trE G cx it).map srcOf
noncomputable def trIfs (G : GT) (cx : Cx) : List Comprehension → Option (List E)
  | [g] => trIf G cx g
  | _ => .none
noncomputable def trIf (G : GT) (cx : Cx) : Comprehension → Option (List E)
  | ⟨_, _, ifs, _⟩ => trEs G cx ifs
end

noncomputable def slotsOf : List (Str × NameKind) → Nat → List (Str × Nat)
  | [], _ => []
  | (x, .local) :: r, i => (x, i) :: slotsOf r (i + 1)
  | (x, .cell) :: r, i => (x, i) :: slotsOf r (i + 1)
  | _ :: r, i => slotsOf r i
noncomputable def nameOf : Expr → Option Str
  | .Name x _ => some x
  | _ => .none
noncomputable def oneName : List Expr → Option Str
  | [t] => nameOf t
  | _ => .none
mutual
noncomputable def trS (G : GT) (cx : Cx) : Stmt → Option S
  | .Assign ts v _ => match (oneName ts).bind cx.slot, trE G cx v with
    | some k, some e => some (.assign k e)
    | _, _ => .none
  | .Return v _ => match v with
    | some v => (trE G cx v).map .ret
    | .none => .none
  | .If c t f _ => match trE G cx c, trSs G cx t, trSs G cx f with
    | some e, some a, some b => some (.ite e a b)
    | _, _, _ => .none
  | .For t it body orelse _ => match orelse with
    | [] => match (nameOf t).bind cx.slot, trE G cx it, trSs G cx body with
      | some k, some e, some b => some (.forN k (srcOf e) b)
      | _, _, _ => .none
    | _ :: _ => .none
  | .While c body orelse _ => match orelse with
    | [] => match trE G cx c, trSs G cx body with
      | some e, some b => some (.while e b)
      | _, _ => .none
    | _ :: _ => .none
  | _ => .none
noncomputable def trSs (G : GT) (cx : Cx) : List Stmt → Option (List S)
  | [] => some []
  | s :: r => match trS G cx s, trSs G cx r with
    | some a, some b => some (a :: b)
    | _, _ => .none
end

noncomputable def plainArgs (a : Arguments) : Bool := a.posonlyargs.isEmpty && a.vararg.isNone && a.kwonlyargs.isEmpty && a.kwarg.isNone && a.defaults.isEmpty && a.kw_defaults.isEmpty
noncomputable def trFn (G : GT) (a : Arguments) (body : List Stmt) (sc : Scope) : Option Fn :=
  let sl := slotsOf sc.names 0
  if plainArgs a && decide ((sl.map (·.1)).take a.args.length = a.args.map (·.arg)) && decide ((sc.names.map (·.1)).Nodup) && decide (sc.kind = .function) && !sc.isGenerator && !sc.isCoroutine then
    (trSs G ⟨sc.names, sl, sl.length⟩ body).map fun b => ⟨a.args.length, sl.length, b⟩
  else .none
end Mine

set_option maxRecDepth 100000
namespace Mine
open PySem

theorem size_upd (h : Heap) (a : Addr) (f : Obj → Obj) : (h.update a f).objs.size = h.objs.size := by
  cases h; simp [Heap.update]

theorem runs_size {M : Model} {Γ : Ctx} {p : Pos} {t : Sem Fin} {fs : List Frame} {s s' : Shared} {e : End} (h : Runs M Γ p t fs s e s') : s.heap.objs.size ≤ s'.heap.objs.size := by
  induction h <;> (try simp only [Shared.setGen, size_upd, Heap.size_push] at *) <;> omega

theorem wakes_size {M : Model} {Γ : Ctx} {p : Pos} {g : Nat} {r : Resume} {s s' : Shared} {res : GenResult} (h : Wakes M Γ p g r s res s') : s.heap.objs.size ≤ s'.heap.objs.size := by
  unfold Wakes at h
  split at h
  · exact h.elim
  · split at h
    · obtain ⟨e₁, s₁, hr, _, _, rfl⟩ := h; exact (runs_size hr : (s.setGen g .running).heap.objs.size ≤ s₁.heap.objs.size)
    · rw [h.2]; exact Nat.le_refl _
    · rw [h.2]; exact Nat.le_refl _
  · obtain ⟨e₁, s₁, hr, _, _, rfl⟩ := h; exact (runs_size hr : (s.setGen g .running).heap.objs.size ≤ s₁.heap.objs.size)
  · rw [h.2]; exact Nat.le_refl _
  · rw [h.2]; exact Nat.le_refl _

theorem wp_size {α : Type} (M : Model) (Γ : Ctx) (n : Nat) (t : Sem α) : ∀ (Q : α → Pos → Shared → Prop) (E : Value → Pos → Shared → Prop) (p : Pos) (s : Shared), n ≤ s.heap.objs.size → Sem.wp M Γ t Q E p s →
    Sem.wp M Γ t (fun a p' s' => n ≤ s'.heap.objs.size ∧ Q a p' s') (fun e p' s' => n ≤ s'.heap.objs.size ∧ E e p' s') p s := by
  induction t with
  | pure a => intro Q E p s hn h; exact ⟨hn, h⟩
  | raise e => intro Q E p s hn h; exact ⟨hn, h⟩
  | unsupported _ => intro Q E p s _ h; exact h
  | finish _ => intro Q E p s _ h; exact h
  | rule _ k ih => intro Q E p s hn h; exact ih () Q E p s hn h
  | «at» p' k ih => intro Q E p s hn h; exact ih () Q E p' s hn h
  | load a _ k ih => intro Q E p s hn h; obtain ⟨o, ho, h⟩ := h; exact ⟨o, ho, ih o Q E p s hn h⟩
  | update a _ f k ih => intro Q E p s hn h; exact ⟨h.1, ih () Q E p _ (by show n ≤ (s.heap.update a f).objs.size; rw [size_upd]; exact hn) h.2⟩
  | loadIfAlive a k ih => intro Q E p s hn h; exact ih _ Q E p s hn h
  | point _ k ih => intro Q E p s hn h; exact ih () Q E p s hn h
  | register _ _ => intro Q E p s _ h; exact h
  | alloc o k ih => intro Q E p s hn h; exact ih _ Q E p _ (by show n ≤ (s.heap.push o).objs.size; rw [Heap.size_push]; exact Nat.le_succ_of_le hn) h
  | fresh k ih => intro Q E p s hn h; exact ih _ Q E p _ hn h
  | ask k ih => intro Q E p s hn h; exact ih _ Q E p s hn h
  | choose src m k ih => intro Q E p s hn h; exact ⟨h.1, ih _ Q E p _ hn h.2⟩
  | os q _ k ih => intro Q E p s hn h; exact ih _ Q E p _ hn h
  | call c hd _ _ k ih => intro Q E p s hn h; obtain ⟨r, s', hr, h⟩ := h; exact ⟨r, s', hr, ih r Q E p s' (Nat.le_trans hn (runs_size hr)) h⟩
  | handled own k ih => intro Q E p s hn h; exact ih _ Q E p s hn h
  | genState g k ih => intro Q E p s hn h; obtain ⟨st, hs, h⟩ := h; exact ⟨st, hs, ih _ Q E p s hn h⟩
  | newGen c k ih => intro Q E p s hn h; exact ih _ Q E p _ hn h
  | resume g r _ k ih => intro Q E p s hn h; obtain ⟨res, s', hw, h⟩ := h; exact ⟨res, s', hw, ih res Q E p s' (Nat.le_trans hn (wakes_size hw)) h⟩
  | yield _ _ _ _ => intro Q E p s _ h; exact h
  | stack k ih => intro Q E p s hn h; exact ih _ Q E p s hn h
  | fork _ _ => intro Q E p s _ h; exact h
  | thread k ih => intro Q E p s hn h; exact ih _ Q E p s hn h
  | await _ _ _ _ _ => intro Q E p s _ h; exact h

/-- no tree makes the heap shorter -/
theorem sized {α : Type} {M : Model} {A : Around} {s : Shared} {t : Sem α} {Q : α → Shared → Prop} {E : Value → Shared → Prop} (h : wpAny M A t (fun a s' => s.heap.objs.size ≤ s'.heap.objs.size → Q a s') (fun e s' => s.heap.objs.size ≤ s'.heap.objs.size → E e s') s) :
    wpAny M A t Q E s := fun Γ p hΓ => Sem.wp_mono M Γ _ (fun _ _ _ x => x.2 x.1) (fun _ _ _ x => x.2 x.1) p s (wp_size M Γ s.heap.objs.size t _ _ p s (Nat.le_refl _) (h Γ p hΓ))
theorem codeSized {M : Model} {A : Around} {s : Shared} {c : Code} {R : Result → Shared → Prop} (h : codeAny M A c (fun r s' => s.heap.objs.size ≤ s'.heap.objs.size → R r s') s) : codeAny M A c R s := fun Γ p hc hΓ => by
  obtain ⟨r, s', hr, hR⟩ := h Γ p hc hΓ
  exact ⟨r, s', hr, hR (runs_size hr)⟩
end Mine

set_option maxRecDepth 100000
namespace Mine
open PySem

/-! What the text's world is: fixed things of one run. -/
structure W where
  prog : Program
  w : World
  /-- the heap as the call found it -/
  h₀ : Heap
  /-- the script's list -/
  scr : Addr
  ns : List Int
  /-- where the defs lie -/
  fa : Nat → Addr
  /-- the text's objects -/
  K : PySem.W.Frag

variable (X : W)

mutual
/-- a value of the small language stands for a value of the machine -/
inductive VR (h : Heap) (μ : List Addr) : V → Value → Prop
  | none : VR h μ .none .none
  | bool (b : Bool) : VR h μ (.bool b) (.bool b)
  | int (i : Int) (t : Tok) : VR h μ (.int i) (.int i t)
  | str (x : Str) (t : Tok) : x.length ≤ lim → VR h μ (.str (codes x)) (.str x t)
  | ref {i : Nat} {a : Addr} : μ[i]? = some a → VR h μ (.ref i) (.ref a)
  | tup {vs : List V} {a : Addr} {l : List Value} {n : Nat} : h.get? a = some { cls := .type "tuple", data := .seq l.toArray n } → l.length ≤ lim → VRs h μ vs l → VR h μ (.tup vs) (.ref a)
  | scr : VR h μ .scr (.ref X.scr)
inductive VRs (h : Heap) (μ : List Addr) : List V → List Value → Prop
  | nil : VRs h μ [] []
  | cons {v : V} {vs : List V} {u : Value} {us : List Value} : VR h μ v u → VRs h μ vs us → VRs h μ (v :: vs) (u :: us)
end

/-- an object of the small heap stands at an address -/
inductive OR (h : Heap) (μ : List Addr) (a : Addr) : O → Prop
  | list {xs : List V} {l : List Value} {n : Nat} : h.get? a = some { cls := .type "list", data := .seq l.toArray n } → l.length ≤ lim → VRs X h μ xs l → OR h μ a (.list xs)

structure HR (μ : List Addr) (σ : H) (h : Heap) : Prop where
  len : μ.length = σ.length
  nodup : μ.Nodup
  fresh : ∀ a ∈ μ, X.h₀.objs.size ≤ a
  obj : ∀ (i : Nat) (o : O) (a : Addr), σ[i]? = some o → μ[i]? = some a → OR X h μ a o

/-- what a value leans on -/
noncomputable def Solid (o : Obj) : Prop := (o.cls = .type "tuple" ∨ ∃ c, o.cls = .ref c) ∧ (∀ es n, o.data ≠ .dict es n) ∧ ∀ u, o.data ≠ .cell u
theorem Solid.offList {o : Obj} (h : Solid o) (hc : o.cls = .type "list" ∨ o.cls = .type "dict") : False := by
  rcases h.1 with h | ⟨c, h⟩ <;> rcases hc with q | q <;> rw [h] at q <;> simp at q

/-- what stays of a heap but for some places: a frame's or block's table may be noted upon -/
noncomputable def Keep (μ : List Addr) (h h' : Heap) : Prop :=
  ∀ b o, b ∉ μ → h.get? b = some o → ∃ sl, h'.get? b = some { o with slots := sl } ∧ ((∀ es n, o.data ≠ .dict es n) → sl = o.slots)
structure Base (h : Heap) : Prop where
  keep : ∀ b o, X.h₀.get? b = some o → h.get? b = some o
  size : X.h₀.objs.size ≤ h.objs.size
  low : sysModules < X.h₀.objs.size

/-- the frames of the stack -/
noncomputable def FF (h : Heap) (μ : List Addr) : List PySem.Env → Prop
  | [] => True
  | env :: r => (env.scope.kind ≠ .module ∧ ∃ L o es n, env.frame = some L ∧ X.h₀.get? L = none ∧ L ∉ μ ∧ h.get? L = some o ∧ o.data = .dict es n) ∧ FF h μ r

structure Step (s : Shared) (μ : List Addr) (s' : Shared) (μ' : List Addr) (σ' : H) : Prop where
  hr : HR X μ' σ' s'.heap
  keep : Keep μ s.heap s'.heap
  base : Base X s'.heap
  size : s.heap.objs.size ≤ s'.heap.objs.size
  ext : ∃ ν, μ' = μ ++ ν ∧ ∀ a ∈ ν, s.heap.objs.size ≤ a
  gens : s'.gens = s.gens
  os : s'.os = s.os

section
variable {X}
theorem HR.cls {μ : List Addr} {σ : H} {h : Heap} (R : HR X μ σ h) {a : Addr} (ha : a ∈ μ) : ∃ o, h.get? a = some o ∧ (o.cls = .type "list" ∨ o.cls = .type "dict") := by
  obtain ⟨i, hi, e⟩ := List.getElem_of_mem ha
  have h1 : μ[i]? = some a := by rw [List.getElem?_eq_getElem hi, e]
  have hi' : i < σ.length := R.len ▸ hi
  have h2 : σ[i]? = some σ[i] := List.getElem?_eq_getElem hi'
  cases hO : σ[i] with
  | list xs =>
    rw [hO] at h2
    cases R.obj i _ a h2 h1 with
    | list e _ _ => exact ⟨_, e, .inl rfl⟩

theorem HR.lt {μ : List Addr} {σ : H} {h : Heap} (R : HR X μ σ h) {a : Addr} (ha : a ∈ μ) : a < h.objs.size := let ⟨_, e, _⟩ := R.cls ha; Heap.lt_size e

mutual
theorem VR.mono {h h' : Heap} {μ μ' : List Addr} (hk : ∀ a o, h.get? a = some o → Solid o → h'.get? a = some o) (hμ : ∀ (i : Nat) (a : Addr), μ[i]? = some a → μ'[i]? = some a) :
    ∀ {v : V} {u : Value}, VR X h μ v u → VR X h' μ' v u
  | _, _, .none => .none
  | _, _, .bool b => .bool b
  | _, _, .int i t => .int i t
  | _, _, .str x t z => .str x t z
  | _, _, .ref e => .ref (hμ _ _ e)
  | _, _, .tup e z r => .tup (hk _ _ e ⟨.inl rfl, (by intro _ _ q; cases q), (by intro _ q; cases q)⟩) z (VRs.mono hk hμ r)
  | _, _, .scr => .scr
theorem VRs.mono {h h' : Heap} {μ μ' : List Addr} (hk : ∀ a o, h.get? a = some o → Solid o → h'.get? a = some o) (hμ : ∀ (i : Nat) (a : Addr), μ[i]? = some a → μ'[i]? = some a) :
    ∀ {v : List V} {u : List Value}, VRs X h μ v u → VRs X h' μ' v u
  | _, _, .nil => .nil
  | _, _, .cons a b => .cons (VR.mono hk hμ a) (VRs.mono hk hμ b)
end
theorem OR.mono {h h' : Heap} {μ μ' : List Addr} (hk : ∀ a o, h.get? a = some o → Solid o → h'.get? a = some o) (hμ : ∀ (i : Nat) (a : Addr), μ[i]? = some a → μ'[i]? = some a)
    {a : Addr} {o : O} (ha : ∀ x, h.get? a = some x → h'.get? a = some x) (r : OR X h μ a o) : OR X h' μ' a o := by
  cases r with
  | list e z r => exact .list (ha _ e) z (r.mono hk hμ)

theorem ext_get {μ ν : List Addr} : ∀ (i : Nat) (a : Addr), μ[i]? = some a → (μ ++ ν)[i]? = some a := fun i a e => by
  have := (List.getElem?_eq_some_iff.mp e).1
  rw [List.getElem?_append_left this]; exact e

theorem Keep.of_all {μ : List Addr} {h h' : Heap} (k : ∀ b o, b ∉ μ → h.get? b = some o → h'.get? b = some o) : Keep μ h h' := fun b o hb e => ⟨o.slots, k b o hb e, fun _ => rfl⟩
theorem Keep.refl (μ : List Addr) (h : Heap) : Keep μ h h := .of_all fun _ _ _ e => e
theorem Keep.trans {μ μ' : List Addr} {h₁ h₂ h₃ : Heap} (x : Keep μ h₁ h₂) (y : Keep μ' h₂ h₃) (hm : ∀ b o, h₁.get? b = some o → b ∉ μ → b ∉ μ') : Keep μ h₁ h₃ := fun b o hb e => by
  obtain ⟨sl, e1, q1⟩ := x b o hb e
  obtain ⟨sl', e2, q2⟩ := y b _ (hm b o e hb) e1
  exact ⟨sl', e2, fun hd => (q2 hd).trans (q1 hd)⟩
theorem Keep.at {μ : List Addr} {h h' : Heap} (x : Keep μ h h') {b : Addr} {o : Obj} (hb : b ∉ μ) (e : h.get? b = some o) (hd : ∀ es n, o.data ≠ .dict es n) : h'.get? b = some o := by
  obtain ⟨sl, e1, q⟩ := x b o hb e
  rw [q hd] at e1; exact e1
theorem Keep.ns {μ : List Addr} {h h' : Heap} (x : Keep μ h h') {b : Addr} {m : Str → Option Value} (hb : b ∉ μ) (n : h.Ns b m) : h'.Ns b m := by
  obtain ⟨o, es, ep, e, hd, r⟩ := n
  obtain ⟨sl, e1, _⟩ := x b o hb e
  exact ⟨_, es, ep, e1, hd, r⟩
theorem Keep.cell {μ : List Addr} {h h' : Heap} (x : Keep μ h h') {b : Addr} {u : Option Value} (hb : b ∉ μ) (n : h.IsCell b u) : h'.IsCell b u := by
  obtain ⟨o, e, hd⟩ := n
  exact ⟨o, x.at hb e (by rw [hd]; intro _ _ q; cases q), hd⟩

theorem Step.refl {s : Shared} {μ : List Addr} {σ : H} (R : HR X μ σ s.heap) (B : Base X s.heap) : Step X s μ s μ σ :=
  ⟨R, .refl _ _, B, Nat.le_refl _, ⟨[], by simp, fun _ h => nomatch h⟩, rfl, rfl⟩
theorem Step.toks {s s' : Shared} {μ μ' : List Addr} {σ' : H} (S : Step X s μ s' μ' σ') (t : Nat) : Step X s μ { s' with toks := t } μ' σ' := ⟨S.hr, S.keep, S.base, S.size, S.ext, S.gens, S.os⟩
theorem Step.trans {s s' s'' : Shared} {μ μ' μ'' : List Addr} {σ' σ'' : H} (S : Step X s μ s' μ' σ') (S' : Step X s' μ' s'' μ'' σ'') : Step X s μ s'' μ'' σ'' := by
  obtain ⟨ν, rfl, hν⟩ := S.ext
  obtain ⟨ν', rfl, hν'⟩ := S'.ext
  refine ⟨S'.hr, S.keep.trans S'.keep fun b o e hb hm => ?_, S'.base, Nat.le_trans S.size S'.size, ⟨ν ++ ν', by rw [List.append_assoc], fun a ha => ?_⟩, S'.gens.trans S.gens, S'.os.trans S.os⟩
  · rcases List.mem_append.mp hm with h1 | h1
    · exact hb h1
    · exact absurd (Heap.lt_size e) (Nat.not_lt.mpr (hν b h1))
  · rcases List.mem_append.mp ha with h1 | h1
    · exact hν a h1
    · exact Nat.le_trans S.size (hν' a h1)
theorem Step.notIn {s s' : Shared} {μ μ' : List Addr} {σ' : H} (S : Step X s μ s' μ' σ') {b : Addr} (hb : b ∉ μ) (hl : b < s.heap.objs.size) : b ∉ μ' := by
  obtain ⟨ν, rfl, hν⟩ := S.ext
  intro hm
  rcases List.mem_append.mp hm with h1 | h1
  · exact hb h1
  · exact absurd hl (Nat.not_lt.mpr (hν b h1))
theorem HR.offC {μ : List Addr} {σ : H} {h : Heap} (R : HR X μ σ h) {a : Addr} {o : Obj} (e : h.get? a = some o) (h1 : o.cls ≠ .type "list") (h2 : o.cls ≠ .type "dict") : a ∉ μ := fun hm => by
  obtain ⟨o', e', hc⟩ := R.cls hm
  rw [e] at e'; cases e'
  rcases hc with hc | hc
  · exact h1 hc
  · exact h2 hc
theorem Step.keepC {s s' : Shared} {μ μ' : List Addr} {σ σ' : H} (S : Step X s μ s' μ' σ') (R : HR X μ σ s.heap) :
    ∀ a o, s.heap.get? a = some o → Solid o → s'.heap.get? a = some o := fun a o e hS => S.keep.at (fun hm => by
      obtain ⟨o', e', hc⟩ := R.cls hm
      rw [e] at e'; cases e'
      exact hS.offList hc) e hS.2.1
theorem FF.fun {h : Heap} {μ : List Addr} : ∀ {l : List PySem.Env}, FF X h μ l → h.FunFrames X.h₀ l
  | [], _ => trivial
  | _ :: _, h => by
    obtain ⟨⟨a, L, o, es, n, e1, e2, _, e4, e5⟩, r⟩ := h
    exact ⟨a, ⟨L, o, e1, e2, e4, by rw [e5]; intro _ q; cases q⟩, FF.fun r⟩
theorem Step.ff {s s' : Shared} {μ μ' : List Addr} {σ' : H} (S : Step X s μ s' μ' σ') : ∀ {l : List PySem.Env}, FF X s.heap μ l → FF X s'.heap μ' l
  | [], _ => trivial
  | _ :: _, h => by
    obtain ⟨⟨a, L, o, es, n, e1, e2, e3, e4, e5⟩, r⟩ := h
    obtain ⟨sl, q, _⟩ := S.keep L o e3 e4
    exact ⟨⟨a, L, _, es, n, e1, e2, S.notIn e3 (Heap.lt_size e4), q, e5⟩, S.ff r⟩
theorem Step.get {s s' : Shared} {μ μ' : List Addr} {σ' : H} (S : Step X s μ s' μ' σ') : ∀ (i : Nat) (a : Addr), μ[i]? = some a → μ'[i]? = some a := by
  obtain ⟨ν, rfl, _⟩ := S.ext
  exact ext_get
theorem Step.vr {s s' : Shared} {μ μ' : List Addr} {σ σ' : H} (S : Step X s μ s' μ' σ') (R : HR X μ σ s.heap) {v : V} {u : Value} (r : VR X s.heap μ v u) : VR X s'.heap μ' v u := r.mono (S.keepC R) S.get
theorem Step.vrs {s s' : Shared} {μ μ' : List Addr} {σ σ' : H} (S : Step X s μ s' μ' σ') (R : HR X μ σ s.heap) {v : List V} {u : List Value} (r : VRs X s.heap μ v u) : VRs X s'.heap μ' v u := r.mono (S.keepC R) S.get

/-- a new object -/
theorem HR.push {μ : List Addr} {σ : H} {h : Heap} (R : HR X μ σ h) (o : Obj) : HR X μ σ (h.push o) :=
  ⟨R.len, R.nodup, R.fresh, fun i x a e1 e2 => (R.obj i x a e1 e2).mono (fun _ _ e _ => Heap.get?_push_of_some _ e) (fun _ _ e => e) fun _ e => Heap.get?_push_of_some _ e⟩
theorem HR.keeps {μ : List Addr} {σ : H} {h h' : Heap} (R : HR X μ σ h) (k : ∀ b o, h.get? b = some o → h'.get? b = some o) : HR X μ σ h' :=
  ⟨R.len, R.nodup, R.fresh, fun i x a e1 e2 => (R.obj i x a e1 e2).mono (fun _ _ e _ => k _ _ e) (fun _ _ e => e) fun _ e => k _ _ e⟩
theorem HR.alloc {μ : List Addr} {σ : H} {h : Heap} (R : HR X μ σ h) {a : Addr} {o : O} (ha : a ∉ μ) (hf : X.h₀.objs.size ≤ a) (r : OR X h (μ ++ [a]) a o) : HR X (μ ++ [a]) (σ ++ [o]) h where
  len := by rw [List.length_append, List.length_append, R.len]; rfl
  nodup := List.nodup_append.mpr ⟨R.nodup, by simp, fun x hx y hy e => ha (by rw [List.mem_singleton.mp hy] at e; exact e ▸ hx)⟩
  fresh := fun b hb => by
    rcases List.mem_append.mp hb with h1 | h1
    · exact R.fresh b h1
    · rw [List.mem_singleton.mp h1]; exact hf
  obj := fun i x b e1 e2 => by
    by_cases hi : i < σ.length
    · rw [List.getElem?_append_left hi] at e1
      rw [List.getElem?_append_left (R.len ▸ hi)] at e2
      exact (R.obj i x b e1 e2).mono (fun _ _ e _ => e) ext_get fun _ e => e
    · have hi' : σ.length ≤ i := Nat.le_of_not_lt hi
      rw [List.getElem?_append_right hi'] at e1
      rw [List.getElem?_append_right (R.len ▸ hi'), R.len] at e2
      cases hk : i - σ.length with
      | zero =>
        rw [hk] at e1 e2
        cases e1; cases e2; exact r
      | succ k => rw [hk] at e1; cases e1

theorem getElem?_nodup {μ : List Addr} (hn : μ.Nodup) {i j : Nat} {a : Addr} (h1 : μ[i]? = some a) (h2 : μ[j]? = some a) : i = j := by
  obtain ⟨hi, e1⟩ := List.getElem?_eq_some_iff.mp h1
  obtain ⟨hj, e2⟩ := List.getElem?_eq_some_iff.mp h2
  have hp := List.pairwise_iff_getElem.mp hn
  rcases Nat.lt_trichotomy i j with q | q | q
  · exact absurd (e1.trans e2.symm) (hp i j hi hj q)
  · exact q
  · exact absurd (e2.trans e1.symm) (hp j i hj hi q)

/-- an object changed -/
theorem HR.put {μ : List Addr} {σ : H} {h h' : Heap} (R : HR X μ σ h) {i : Nat} {a : Addr} {o : O} (hi : μ[i]? = some a) (hs : Heap.SameBut a h h') (r : OR X h' μ a o) : HR X μ (σ.set i o) h' where
  len := by rw [List.length_set, R.len]
  nodup := R.nodup
  fresh := R.fresh
  obj := fun j x b e1 e2 => by
    by_cases hj : i = j
    · subst hj
      rw [hi] at e2; cases e2
      have hl : i < σ.length := R.len ▸ (List.getElem?_eq_some_iff.mp hi).1
      rw [List.getElem?_set_self hl] at e1
      cases e1; exact r
    · rw [List.getElem?_set_ne hj] at e1
      have hb : b ≠ a := fun e => hj (getElem?_nodup R.nodup hi (e ▸ e2))
      obtain ⟨o', e', hc⟩ := R.cls (List.mem_of_getElem? hi)
      refine (R.obj j x b e1 e2).mono (fun c y e hS => ?_) (fun _ _ e => e) fun y e => (hs.2 b hb).trans e
      refine (hs.2 c fun q => ?_).trans e
      subst q
      rw [e] at e'; cases e'
      exact (hS.offList hc).elim
end
end Mine

set_option maxRecDepth 100000
namespace Mine
open PySem PyProof.Rows

noncomputable abbrev Mo (X : W) : Model := model X.prog X.w

/-- room for d more calls -/
structure Rm (A : Around) (d : Nat) (hn : Bool) : Prop where
  depth : A.depth + 4 * d + 4 < recursionLimit
  units : A.units + 40 * d + 40 < cLine
  handled : hn = true → A.handled = none
  nb : A.handled ≠ some byPass

structure Cn (X : W) (A : Around) (d : Nat) (hn : Bool) (s : Shared) (μ : List Addr) (σ : H) : Prop where
  rm : Rm A d hn
  hr : HR X μ σ s.heap
  base : Base X s.heap
  fs : ∃ fs, A.frames = some fs ∧ FF X s.heap μ fs
  scr : ∃ vs : List Value, X.h₀.IsList X.scr vs.toArray ∧ IntsAre vs X.ns ∧ vs.length ≤ lim

/-- a frame (or a comprehension's block) holds the values of an environment -/
structure FR (X : W) (env : PySem.Env) (cx : Cx) (ρ : Env) (h : Heap) (μ : List Addr) : Prop where
  kind : env.scope.kind = .function
  globals : env.globals = mainGlobals
  builtins : env.builtins = builtinsNs
  names : env.scope.names = cx.kinds
  ns : ∃ m, h.Ns env.locals m ∧ ∀ (x : Str) (k : Nat) (v : V), cx.kinds.lookup x = some .local → cx.slots.lookup x = some k → ρ[k]? = some (some v) → ∃ u, m x = some u ∧ VR X h μ v u
  cell : ∀ (x : Str) (k : Nat), cx.kinds.lookup x = some .cell → cx.slots.lookup x = some k → ∃ c u, env.cells.lookup x = some c ∧ h.IsCell c u ∧ ∀ v, ρ[k]? = some (some v) → ∃ y, u = some y ∧ VR X h μ v y
  cells : ∀ (x : Str), cx.kinds.lookup x = some .cell → (env.cells.lookup x).isSome = true
  apart : ∀ x y c, env.cells.lookup x = some c → env.cells.lookup y = some c → x = y
  offL : env.locals ∉ μ
  offC : ∀ x c, env.cells.lookup x = some c → c ∉ μ ∧ c ≠ env.locals ∧ c < h.objs.size
  slots : ∀ (x y : Str) (k : Nat), cx.slots.lookup x = some k → cx.slots.lookup y = some k → x = y
  bound : ∀ (x : Str) (k : Nat), cx.slots.lookup x = some k → k < cx.n
  len : ρ.length = cx.n

section
variable {X : W}

theorem Cn.step {A : Around} {d : Nat} {hn : Bool} {s s' : Shared} {μ μ' : List Addr} {σ σ' : H} (c : Cn X A d hn s μ σ) (S : Step X s μ s' μ' σ') : Cn X A d hn s' μ' σ' :=
  ⟨c.rm, S.hr, S.base, (let ⟨fs, e, f⟩ := c.fs; ⟨fs, e, S.ff f⟩), c.scr⟩

theorem FR.step {env : PySem.Env} {cx : Cx} {ρ : Env} {s s' : Shared} {μ μ' : List Addr} {σ σ' : H} (F : FR X env cx ρ s.heap μ) (R : HR X μ σ s.heap) (S : Step X s μ s' μ' σ') : FR X env cx ρ s'.heap μ' where
  kind := F.kind
  globals := F.globals
  builtins := F.builtins
  names := F.names
  ns := by
    obtain ⟨m, n, h⟩ := F.ns
    exact ⟨m, S.keep.ns F.offL n, fun x k v h1 h2 h3 => let ⟨u, a, b⟩ := h x k v h1 h2 h3; ⟨u, a, S.vr R b⟩⟩
  cell := fun x k h1 h2 => by
    obtain ⟨c, u, a, b, d⟩ := F.cell x k h1 h2
    exact ⟨c, u, a, S.keep.cell (F.offC x c a).1 b, fun v hv => let ⟨y, p, q⟩ := d v hv; ⟨y, p, S.vr R q⟩⟩
  cells := F.cells
  apart := F.apart
  offL := by
    obtain ⟨m, n, _⟩ := F.ns
    exact S.notIn F.offL n.lt
  offC := fun x c h => ⟨S.notIn (F.offC x c h).1 (F.offC x c h).2.2, (F.offC x c h).2.1, Nat.lt_of_lt_of_le (F.offC x c h).2.2 S.size⟩
  slots := F.slots
  bound := F.bound
  len := F.len

noncomputable abbrev PT (β : Type) := (β → Shared → Prop) → (Value → Shared → Prop) → Shared → Prop

/-- a way of running does what the small language says -/
noncomputable def Sm (X : W) {α β : Type} (P : PT β) (r : R α) (rel : Heap → List Addr → α → β → Prop) (s : Shared) (μ : List Addr) : Prop :=
  r ≠ .stuck → ∀ Q E, (∀ a σ' b s' μ', r = .ok a σ' → Step X s μ s' μ' σ' → rel s'.heap μ' a b → Q b s') → P Q E s

theorem Sm.imp {α β : Type} {P P' : PT β} {r : R α} {rel : Heap → List Addr → α → β → Prop} {s : Shared} {μ : List Addr} (h : Sm X P r rel s μ) (hp : ∀ Q E, P Q E s → P' Q E s) : Sm X P' r rel s μ :=
  fun hne Q E hQ => hp Q E (h hne Q E hQ)
theorem Sm.rel {α β : Type} {P : PT β} {r : R α} {rel rel' : Heap → List Addr → α → β → Prop} {s : Shared} {μ : List Addr} (h : Sm X P r rel s μ) (hr : ∀ a σ' b s' μ', r = .ok a σ' → Step X s μ s' μ' σ' → rel s'.heap μ' a b → rel' s'.heap μ' a b) : Sm X P r rel' s μ :=
  fun hne Q E hQ => h hne Q E fun a σ' b s' μ' e S x => hQ a σ' b s' μ' e S (hr a σ' b s' μ' e S x)

theorem bnd_ok {α β : Type} {m : M α} {k : α → M β} {σ σ' : H} {a : α} (e : m σ = .ok a σ') : m.bnd k σ = k a σ' := by unfold M.bnd; rw [e]
theorem bnd_stuck {α β : Type} {m : M α} {k : α → M β} {σ : H} (e : m σ = .stuck) : m.bnd k σ = .stuck := by unfold M.bnd; rw [e]

theorem Sm.bind {α β γ δ : Type} {P : PT β} {P2 : β → PT δ} {m : M α} {k : α → M γ} {σ : H} {rel : Heap → List Addr → α → β → Prop} {rel2 : Heap → List Addr → γ → δ → Prop} {s : Shared} {μ : List Addr}
    (h1 : Sm X P (m σ) rel s μ) (h2 : ∀ a σ₁ b s₁ μ₁, m σ = .ok a σ₁ → Step X s μ s₁ μ₁ σ₁ → rel s₁.heap μ₁ a b → Sm X (P2 b) (k a σ₁) rel2 s₁ μ₁) :
    Sm X (fun Q E s => P (fun b s₁ => P2 b Q E s₁) E s) (m.bnd k σ) rel2 s μ := by
  intro hne Q E hQ
  refine h1 (fun e => hne (bnd_stuck e)) _ _ fun a σ₁ b s₁ μ₁ e1 S1 r1 => ?_
  have e : m.bnd k σ = k a σ₁ := bnd_ok e1
  exact h2 a σ₁ b s₁ μ₁ e1 S1 r1 (e ▸ hne) Q E fun c σ₂ d s₂ μ₂ e2 S2 r2 => hQ c σ₂ d s₂ μ₂ (e.trans e2) (S1.trans S2) r2

noncomputable abbrev Rl (X : W) : Heap → List Addr → V → Value → Prop := fun h μ v u => VR X h μ v u
noncomputable abbrev Rls (X : W) : Heap → List Addr → List V → List Value → Prop := fun h μ v u => VRs X h μ v u
/-- a tree -/
noncomputable abbrev Wp (X : W) (A : Around) {β : Type} (t : Sem β) : PT β := fun Q E s => wpAny (Mo X) A t Q E s

theorem Sm.ok {α β : Type} {P : PT β} {a : α} {σ : H} {rel : Heap → List Addr → α → β → Prop} {s : Shared} {μ : List Addr}
    (h : ∀ Q E, (∀ b s' μ', Step X s μ s' μ' σ → rel s'.heap μ' a b → Q b s') → P Q E s) : Sm X P (.ok a σ) rel s μ :=
  fun _ Q E hQ => h Q E fun b s' μ' S r => hQ a σ b s' μ' rfl S r
theorem Sm.stuck {α β : Type} {P : PT β} {rel : Heap → List Addr → α → β → Prop} {s : Shared} {μ : List Addr} : Sm X P (.stuck : R α) rel s μ := fun h => absurd rfl h

end
end Mine

set_option maxRecDepth 100000
namespace Mine
open PySem PyProof.Rows

section
variable {X : W} {A : Around} {d : Nat} {hn : Bool} {s : Shared} {μ : List Addr} {σ : H}

/-- nothing has changed but the tokens -/
theorem Cn.same (c : Cn X A d hn s μ σ) (t : Nat) : Step X s μ { s with toks := t } μ σ := (Step.refl c.hr c.base).toks t

theorem lim_eq : lim = sizeLine := rfl

theorem Base.push {h : Heap} (B : Base X h) (o : Obj) : Base X (h.push o) := ⟨fun b x e => Heap.get?_push_of_some _ (B.keep b x e), by rw [Heap.size_push]; exact Nat.le_succ_of_le B.size, B.low⟩
/-- what a push leaves -/
theorem Step.push (c : Cn X A d hn s μ σ) (o : Obj) (t : Nat) : Step X s μ { s with heap := s.heap.push o, toks := t } μ σ :=
  ⟨c.hr.push o, .of_all fun _ _ _ e => Heap.get?_push_of_some _ e, c.base.push o, by show _ ≤ (s.heap.push o).objs.size; rw [Heap.size_push]; exact Nat.le_succ _,
    ⟨[], by simp, fun _ h => nomatch h⟩, rfl, rfl⟩
/-- what is added to a heap leaves all as it was -/
theorem Step.grow (c : Cn X A d hn s μ σ) {s' : Shared} (k : ∀ b o, s.heap.get? b = some o → s'.heap.get? b = some o) (z : s.heap.objs.size ≤ s'.heap.objs.size) (hg : s'.gens = s.gens) (ho : s'.os = s.os) : Step X s μ s' μ σ :=
  ⟨c.hr.keeps k, .of_all fun b o _ e => k b o e, ⟨fun b o e => k _ _ (c.base.keep b o e), Nat.le_trans c.base.size z, c.base.low⟩, z, ⟨[], by simp, fun _ h => nomatch h⟩, hg, ho⟩

/-- a new list (or dict) at the heap's end -/
theorem Step.alloc (c : Cn X A d hn s μ σ) {o : Obj} {x : O} (t : Nat)
    (r : OR X (s.heap.push o) (μ ++ [s.heap.objs.size]) s.heap.objs.size x) : Step X s μ { s with heap := s.heap.push o, toks := t } (μ ++ [s.heap.objs.size]) (σ ++ [x]) := by
  have hno : s.heap.objs.size ∉ μ := fun hm => Nat.lt_irrefl _ (c.hr.lt hm)
  refine ⟨(c.hr.push o).alloc hno c.base.size r, .of_all fun _ _ _ e => Heap.get?_push_of_some _ e, c.base.push o, ?_, ⟨[s.heap.objs.size], rfl, fun a ha => ?_⟩, rfl, rfl⟩
  · show _ ≤ (s.heap.push o).objs.size; rw [Heap.size_push]; exact Nat.le_succ _
  · rw [List.mem_singleton.mp ha]; exact Nat.le_refl _

/-- a list or dict changed where it lies -/
theorem Step.put (c : Cn X A d hn s μ σ) {i : Nat} {a : Addr} {o : O} {s' : Shared} (hi : μ[i]? = some a) (hs : Heap.SameBut a s.heap s'.heap) (hg : s'.gens = s.gens) (ho : s'.os = s.os)
    (r : OR X s'.heap μ a o) : Step X s μ s' μ (σ.set i o) := by
  have hm := List.mem_of_getElem? hi
  refine ⟨c.hr.put hi hs r, .of_all fun b x hb e => (hs.2 b fun q => hb (q ▸ hm)).trans e, ⟨fun b x e => (hs.2 b fun q => ?_).trans (c.base.keep b x e), hs.1 ▸ c.base.size, c.base.low⟩, Nat.le_of_eq hs.1.symm, ⟨[], by simp, fun _ h => nomatch h⟩, hg, ho⟩
  subst q
  exact absurd (Heap.lt_size e) (Nat.not_lt.mpr (c.hr.fresh _ hm))

theorem Step.vrBack {s' : Shared} {μ' : List Addr} {σ' : H} (c : Cn X A d hn s μ σ) (S : Step X s μ s' μ' σ') {v : V} {u : Value} (r : VR X s.heap μ v u) : VR X s'.heap μ' v u := S.vr c.hr r

theorem codes_append (x y : Str) : codes (x ++ y) = codes x ++ codes y := by
  show (x ++ y).cps.toList = _
  rw [Str.cps_append]; simp [codes]
theorem codes_length (x : Str) : (codes x).length = x.length := by simp [codes, Str.length]
theorem codes_inj {x y : Str} (h : codes x = codes y) : x = y := by
  obtain ⟨a⟩ := x; obtain ⟨b⟩ := y
  simp only [codes] at h
  exact congrArg Str.mk (Array.ext' h)
theorem codes_mk (l : List Nat) : codes ⟨l.toArray⟩ = l := by simp [codes]

/-- the list of a small heap that a value names -/
theorem Cn.list (c : Cn X A d hn s μ σ) {i : Nat} {a : Addr} {xs : List V} (h : σ[i]? = some (.list xs)) (hi : μ[i]? = some a) :
    ∃ l n, IsL s.heap a (List.toArray l) n ∧ VRs X s.heap μ xs l ∧ l.length ≤ lim := by
  cases c.hr.obj i _ a h hi with
  | list e z r => exact ⟨_, _, e, r, z⟩
theorem Cn.noSys (c : Cn X A d hn s μ σ) {i : Nat} {a : Addr} (hi : μ[i]? = some a) : (a == sysModules) = false := by
  exact beq_eq_false_iff_ne.mpr (Nat.ne_of_gt (Nat.lt_of_lt_of_le c.base.low (c.hr.fresh a (List.mem_of_getElem? hi))))
theorem VRs.length {h : Heap} {xs : List V} {l : List Value} (r : VRs X h μ xs l) : xs.length = l.length := by
  induction xs generalizing l with
  | nil => cases r; rfl
  | cons x xs ih => cases r with | cons _ b => simp [ih b]
theorem VRs.append {h : Heap} {xs ys : List V} {l m : List Value} (r : VRs X h μ xs l) (q : VRs X h μ ys m) : VRs X h μ (xs ++ ys) (l ++ m) := by
  induction xs generalizing l with
  | nil => cases r; exact q
  | cons x xs ih => cases r with | cons a b => exact .cons a (ih b)
theorem VRs.get {h : Heap} {xs : List V} {l : List Value} (r : VRs X h μ xs l) {i : Nat} {x : V} (e : xs[i]? = some x) : ∃ u, l[i]? = some u ∧ VR X h μ x u := by
  induction xs generalizing l i with
  | nil => cases e
  | cons y ys ih =>
    cases r with
    | cons a b =>
      cases i with
      | zero => simp at e; subst e; exact ⟨_, rfl, a⟩
      | succ j => simp at e; obtain ⟨u, e1, e2⟩ := ih b e; exact ⟨u, by simpa using e1, e2⟩
theorem VRs.take {h : Heap} {xs : List V} {l : List Value} (r : VRs X h μ xs l) (n : Nat) : VRs X h μ (xs.take n) (l.take n) := by
  induction xs generalizing l n with
  | nil => cases r; simp; exact .nil
  | cons y ys ih =>
    cases r with
    | cons a b =>
      cases n with
      | zero => exact .nil
      | succ j => exact .cons a (ih b j)
theorem VRs.drop {h : Heap} {xs : List V} {l : List Value} (r : VRs X h μ xs l) (n : Nat) : VRs X h μ (xs.drop n) (l.drop n) := by
  induction xs generalizing l n with
  | nil => cases r; simp; exact .nil
  | cons y ys ih =>
    cases r with
    | cons a b =>
      cases n with
      | zero => exact .cons a b
      | succ j => exact ih b j
theorem VRs.set {h : Heap} {xs : List V} {l : List Value} (r : VRs X h μ xs l) (n : Nat) {v : V} {u : Value} (q : VR X h μ v u) : VRs X h μ (xs.set n v) (l.set n u) := by
  induction xs generalizing l n with
  | nil => cases r; exact .nil
  | cons y ys ih =>
    cases r with
    | cons a b =>
      cases n with
      | zero => exact .cons q b
      | succ j => exact .cons a (ih b j)
theorem VRs.reverse {h : Heap} {xs : List V} {l : List Value} (r : VRs X h μ xs l) : VRs X h μ xs.reverse l.reverse := by
  induction xs generalizing l with
  | nil => cases r; exact .nil
  | cons y ys ih =>
    cases r with
    | cons a b => simp only [List.reverse_cons]; exact (ih b).append (.cons a .nil)
theorem VRs.eraseIdx {h : Heap} {xs : List V} {l : List Value} (r : VRs X h μ xs l) (n : Nat) : VRs X h μ (xs.eraseIdx n) (l.eraseIdx n) := by
  rw [List.eraseIdx_eq_take_drop_succ, List.eraseIdx_eq_take_drop_succ]
  exact (r.take n).append (r.drop (n + 1))

/-- a new list -/
theorem sm_newL (c : Cn X A d hn s μ σ) {xs : List V} {l : List Value} (r : VRs X s.heap μ xs l) : Sm X (Wp X A (newList l)) (newL xs σ) (Rl X) s μ := by
  unfold newL
  split
  · rename_i hz
    refine Sm.ok fun Q E hQ => ?_
    refine wpAny_newObj_type ?_ (by show l.toArray.size ≤ sizeLine; rw [List.size_toArray, ← r.length]; exact hz)
    refine hQ _ _ _ (Step.alloc c s.toks ?_) (.ref (by rw [List.getElem?_append_right (by rw [c.hr.len]; exact Nat.le_refl _), c.hr.len]; simp))
    exact .list (Heap.get?_push_size _ rfl) (r.length ▸ hz) (r.mono (fun _ _ e _ => Heap.get?_push_of_some _ e) ext_get)
  · exact Sm.stuck
/-- an object has been pushed that is a list -/
theorem sm_pushed (c : Cn X A d hn s μ σ) {P : PT Value} {xs : List V} {l : List Value} (r : VRs X s.heap μ xs l)
    (h : l.length ≤ sizeLine → ∀ Q E, Q (.ref s.heap.objs.size) { s with heap := s.heap.push { cls := .type "list", data := .seq l.toArray } } → P Q E s) : Sm X P (newL xs σ) (Rl X) s μ := by
  unfold newL
  split
  · rename_i hz
    refine Sm.ok fun Q E hQ => h (r.length ▸ hz) Q E ?_
    refine hQ _ _ _ (Step.alloc c s.toks ?_) (.ref (by rw [List.getElem?_append_right (by rw [c.hr.len]; exact Nat.le_refl _), c.hr.len]; simp))
    exact .list (Heap.get?_push_size _ rfl) (r.length ▸ hz) (r.mono (fun _ _ e _ => Heap.get?_push_of_some _ e) ext_get)
  · exact Sm.stuck

theorem smallBits {x : Int} (h : small x = true) : Builtin.Int.intBits x ≤ 64 := by
  have h' := of_decide_eq_true h
  exact intBits_le_64 (by omega) (by omega)

/-- two whole numbers, or stuck -/
theorem sm_i2 {P : PT Value} {f : Int → Int → M V} {x y : V} {u v : Value} (hx : VR X s.heap μ x u) (hy : VR X s.heap μ y v) (h : ∀ i t j t', u = .int i t → v = .int j t' → Sm X P (f i j σ) (Rl X) s μ) : Sm X P (i2 x y f σ) (Rl X) s μ := by
  cases hx with
  | int i t =>
    cases hy with
    | int j t' => exact h i t j t' rfl rfl
    | _ => exact Sm.stuck
  | _ => exact Sm.stuck
theorem sm_addV (c : Cn X A d hn s μ σ) {x y : V} {u v : Value} (hx : VR X s.heap μ x u) (hy : VR X s.heap μ y v) : Sm X (Wp X A (binaryOp .Add u v)) (addV x y σ) (Rl X) s μ := by
  cases hx with
  | int i t =>
    cases hy with
    | int j t' => exact Sm.ok fun Q E hQ => AutoIntOps.add_0 (hQ _ _ _ (c.same _) (.int _ _))
    | _ => exact Sm.stuck
  | str x t hx =>
    cases hy with
    | str y t' hy =>
      show Sm X _ ((if _ then M.ret _ else stuck) σ) _ _ _
      split
      · rename_i hz
        refine Sm.ok fun Q E hQ => PyProof.Rows.add_str (fun t' tk => hQ _ _ _ (c.same _) (codes_append x y ▸ .str _ _ (by rw [← codes_length, codes_append]; exact hz))) ?_
        rw [List.length_append, codes_length, codes_length] at hz
        exact hz
      · exact Sm.stuck
    | _ => exact Sm.stuck
  | @ref i a hi =>
    cases hy with
    | @ref j b hj =>
      show Sm X _ (match σ[i]? with | some (.list xs) => (match σ[j]? with | some (.list ys) => newL (xs ++ ys) σ | none => R.stuck) | none => R.stuck) _ _ _
      cases h1 : σ[i]? with
      | none => exact Sm.stuck
      | some o =>
        cases o with
        | list xs =>
          cases h2 : σ[j]? with
          | none => exact Sm.stuck
          | some o =>
            cases o with
            | list ys =>
              obtain ⟨l, n, e, r, _⟩ := c.list h1 hi
              obtain ⟨l', n', e', r', _⟩ := c.list h2 hj
              refine sm_pushed c (r.append r') fun hz Q E hQ => P.add_list e e' ?_ (by simpa using hz)
              rw [List.append_toArray] at *
              exact hQ
    | _ => exact Sm.stuck
  | _ => exact Sm.stuck
theorem sm_bin (c : Cn X A d hn s μ σ) {op : Operator} {o : Bin} (ho : binOf op = some o) {x y : V} {u v : Value} (hx : VR X s.heap μ x u) (hy : VR X s.heap μ y v) :
    Sm X (Wp X A (binaryOp op u v)) (binV o x y σ) (Rl X) s μ := by
  cases op <;> cases ho
  · exact sm_addV c hx hy
  · refine sm_i2 hx hy fun x t y t' e1 e2 => ?_
    subst e1 e2
    exact Sm.ok fun Q E hQ => sub_int' (hQ _ _ _ (c.same _) (.int _ _))
  · refine sm_i2 hx hy fun x t y t' e1 e2 => ?_
    subst e1 e2
    split
    · rename_i hz
      refine Sm.ok fun Q E hQ => PyProof.Rows.mul_int (hQ _ _ _ (c.same _) (.int _ _)) ?_
      rcases Bool.or_eq_true_iff.mp hz with q | q
      · exact IntMulOk.of_left (smallBits q)
      · exact IntMulOk.of_right (smallBits q)
    · exact Sm.stuck
  · refine sm_i2 hx hy fun x t y t' e1 e2 => ?_
    subst e1 e2
    split
    · exact Sm.stuck
    · rename_i hz
      exact Sm.ok fun Q E hQ => mod_int' hz (hQ _ _ _ (c.same _) (.int _ _))
  · refine sm_i2 hx hy fun x t y t' e1 e2 => ?_
    subst e1 e2
    split
    · rename_i hz
      obtain ⟨rfl, rfl⟩ := hz
      exact Sm.ok fun Q E hQ => AutoIntOps.pow_4 (by decide) (by decide) (by decide) (by decide) (by decide +kernel) (hQ _ _ _ (c.same _) (.int _ _))
    · exact Sm.stuck
  · refine sm_i2 hx hy fun x t y t' e1 e2 => ?_
    subst e1 e2
    split
    · rename_i hz
      exact Sm.ok fun Q E hQ => floordiv_int (by omega) (hQ _ _ _ (c.same _) (.int _ _)) (.inl (PyProof.noPylong_small (by omega)))
    · exact Sm.stuck
end
end Mine

set_option maxRecDepth 100000
namespace Mine
open PySem PyProof.Rows PySem.SeqAt

section
variable {X : W} {A : Around} {d : Nat} {hn : Bool} {s : Shared} {μ : List Addr} {σ : H}

theorem veqs_cons {f : V → V → Option Bool} {x y : V} {xs ys : List V} {b : Bool} (e : veqs f (x :: xs) (y :: ys) = some b) : ∃ p q, f x y = some p ∧ veqs f xs ys = some q ∧ b = (p && q) := by
  unfold veqs at e
  split at e
  · rename_i p q h1 h2; cases e; exact ⟨p, q, h1, h2, rfl⟩
  · cases e
theorem same_veqs {h : Heap} {f : V → V → Option Bool} (hf : ∀ x y u b, VR X h μ x u → VR X h μ y u → f x y = some b → b = true) :
    ∀ {xs ys : List V} {l : List Value} {b : Bool}, VRs X h μ xs l → VRs X h μ ys l → veqs f xs ys = some b → b = true
  | [], _, _, _, .nil, .nil, e => by cases e; rfl
  | _ :: _, _, _, _, .cons a r, .cons a' r', e => by
    obtain ⟨p, q, h1, h2, rfl⟩ := veqs_cons e
    rw [hf _ _ _ _ a a' h1, same_veqs hf r r' h2]; rfl
theorem same_veq {h : Heap} (R : HR X μ σ h) : ∀ (n : Nat) (x y : V) (u : Value) (b : Bool), VR X h μ x u → VR X h μ y u → veq n σ x y = some b → b = true
  | 0, _, _, _, _, _, _, e => by cases e
  | n + 1, x, y, u, b, hx, hy, e => by
    cases hx with
    | none => cases hy; simp [veq] at e; exact e
    | bool p => cases hy; simp [veq] at e; exact e
    | int i t => cases hy; simp [veq] at e; exact e
    | str z t hz =>
      have : y = .str (codes z) := by cases hy; rfl
      subst this
      simp [veq] at e; exact e
    | scr => cases hy <;> simp [veq] at e
    | tup h1 z1 r1 =>
      cases hy with
      | tup h2 z2 r2 =>
        rw [h1] at h2
        simp only [Option.some.injEq, Obj.mk.injEq, Data.seq.injEq, true_and, and_true] at h2
        have hl := congrArg Array.toList h2.1
        simp only at hl
        subst hl
        simp only [veq, r1.length, r2.length, if_true] at e
        exact same_veqs (same_veq R n) r1 r2 e
      | _ => simp [veq] at e
    | ref hi =>
      cases hy with
      | ref hj =>
        have := getElem?_nodup R.nodup hi hj
        subst this
        simp only [veq] at e
        split at e
        · rename_i xs ys h1 h2
          rw [h1] at h2; cases h2
          simp only [if_true] at e
          cases R.obj _ _ _ h1 hi with
          | list _ _ r => exact same_veqs (same_veq R n) r r e
        · cases e
      | _ => simp [veq] at e

theorem veqs_all {f : V → V → Option Bool} : ∀ {xs ys : List V} {b : Bool}, xs.length = ys.length → veqs f xs ys = some b →
    ∃ e : Nat → Bool, (∀ (j : Nat) (x y : V), xs[j]? = some x → ys[j]? = some y → f x y = some (e j)) ∧ (List.range xs.length).all e = b
  | [], [], b, _, e => by cases e; exact ⟨fun _ => true, fun j x y h => by simp at h, rfl⟩
  | x :: xs, y :: ys, b, hl, e => by
    obtain ⟨p, q, h1, h2, rfl⟩ := veqs_cons e
    obtain ⟨g, hg, hq⟩ := veqs_all (by simpa using hl) h2
    refine ⟨fun j => match j with | 0 => p | k + 1 => g k, fun j a b h3 h4 => ?_, ?_⟩
    · cases j with
      | zero => simp at h3 h4; subst h3 h4; exact h1
      | succ k => simp at h3 h4; exact hg k a b h3 h4
    · rw [List.length_cons, List.range_succ_eq_map, List.all_cons, List.all_map]
      show (p && (List.range xs.length).all g) = _
      rw [hq]

theorem beq_codes (x y : Str) : (x == y) = decide (codes x = codes y) := by
  by_cases h : x = y
  · subst h; simp
  · have : codes x ≠ codes y := fun q => h (codes_inj q)
    simp [h, this]

/-- equality, and its answer -/
theorem rcAt {s : Shared} (R : HR X μ σ s.heap) : ∀ (n : Nat) (A : Around) (x y : V) (u v : Value) (b : Bool), veq n σ x y = some b → VR X s.heap μ x u → VR X s.heap μ y v → A.units + n < cLine →
    RcAt A s u v b ∧ EqAt A s u v b ∧ RcNeAt A s u v (!b)
  | 0, _, _, _, _, _, _, e, _, _, _ => by cases e
  | n + 1, A, x, y, u, v, b, e, hx, hy, hu => by
    have ih := fun x y u v b e hx hy => (rcAt R n A.in1 x y u v b e hx hy (by show A.units + 1 + n < cLine; omega)).2.1
    have hu0 : A.units < cLine := by omega
    have items : ∀ {xs ys : List V} {l m : List Value} {r : Bool}, VRs X s.heap μ xs l → VRs X s.heap μ ys m → xs.length = ys.length → veqs (veq n σ) xs ys = some r →
        ∃ e : Nat → Bool, (∀ j (h1 : j < l.toArray.size) (h2 : j < m.toArray.size), EqAt A.in1 s l.toArray[j] m.toArray[j] (e j)) ∧ (List.range l.toArray.size).all e = r := by
      intro xs ys l m r h1 h2 hl he
      obtain ⟨g, hg, hq⟩ := veqs_all hl he
      refine ⟨g, fun j j1 j2 => ?_, by rw [List.size_toArray, ← h1.length]; exact hq⟩
      simp only [List.size_toArray] at j1 j2
      have k1 : j < xs.length := h1.length ▸ j1
      have k2 : j < ys.length := h2.length ▸ j2
      obtain ⟨u, e1, r1⟩ := h1.get (List.getElem?_eq_getElem k1)
      obtain ⟨v, e2, r2⟩ := h2.get (List.getElem?_eq_getElem k2)
      have f1 : l.toArray[j] = u := by
        rw [List.getElem_toArray]
        rw [List.getElem?_eq_getElem j1] at e1; exact Option.some.inj e1
      have f2 : m.toArray[j] = v := by
        rw [List.getElem_toArray]
        rw [List.getElem?_eq_getElem j2] at e2; exact Option.some.inj e2
      rw [f1, f2]
      exact ih _ _ _ _ _ (hg j _ _ (List.getElem?_eq_getElem k1) (List.getElem?_eq_getElem k2)) r1 r2
    cases hx <;> cases hy <;> simp only [veq] at e <;> first | (cases e; done) | skip
    · cases e; exact ⟨RcAt.none_none, EqAt.same _, RcNeAt.none_none⟩
    · cases e; exact ⟨RcAt.none_int _ _, EqAt.none_int _ _, RcNeAt.none_int _ _⟩
    · cases e; exact ⟨RcAt.none_str _ _, EqAt.none_str _ _, RcNeAt.none_str _ _⟩
    · cases e; exact ⟨RcAt.bool_bool _ _, EqAt.bool_bool _ _, RcNeAt.bool_bool _ _⟩
    · cases e; exact ⟨RcAt.int_none _ _, EqAt.int_none _ _, RcNeAt.int_none _ _⟩
    · rename_i i t j t'
      have q : b = (i == j) := by cases e; exact (Bool.beq_eq_decide_eq i j).symm
      subst q; exact ⟨RcAt.int_int _ _ _ _, EqAt.int_int _ _ _ _, RcNeAt.int_int _ _ _ _⟩
    · cases e; exact ⟨RcAt.int_str _ _ _ _, EqAt.int_str _ _ _ _, RcNeAt.int_str _ _ _ _⟩
    · cases e; exact ⟨RcAt.str_none _ _, EqAt.str_none _ _, RcNeAt.str_none _ _⟩
    · cases e; exact ⟨RcAt.str_int _ _ _ _, EqAt.str_int _ _ _ _, RcNeAt.str_int _ _ _ _⟩
    · rename_i i t hzi j t' hzj
      have q : b = (i == j) := by cases e; exact (beq_codes i j).symm
      subst q; exact ⟨RcAt.str_str _ _ _ _, EqAt.str_str _ _ _ _, RcNeAt.str_str _ _ _ _⟩
    · rename_i i a hi j a' hj
      have key : RcAt A s (.ref a) (.ref a') b ∧ RcNeAt A s (.ref a) (.ref a') (!b) := by
        split at e
        · rename_i xs ys h1 h2
          have o1 := R.obj _ _ _ h1 hi
          have o2 := R.obj _ _ _ h2 hj
          cases o1 with
          | @list _ l1 n1 e1 z1 r1 =>
            cases o2 with
            | @list _ l2 n2 e2 z2 r2 =>
              have L1 : s.heap.IsList a l1.toArray := ⟨_, e1, rfl, _, rfl⟩
              have L2 : s.heap.IsList a' l2.toArray := ⟨_, e2, rfl, _, rfl⟩
              split at e
              · rename_i hl
                obtain ⟨g, hg, hq⟩ := items r1 r2 hl e
                subst hq
                have hsz : l1.toArray.size = l2.toArray.size := by rw [List.size_toArray, List.size_toArray, ← r1.length, ← r2.length]; exact hl
                exact ⟨RcAt.lists L1 L2 hsz hu0 hg, RcNeAt.lists L1 L2 hsz hu0 hg⟩
              · rename_i hl
                cases e
                have hsz : (l1.toArray.size != l2.toArray.size) = true := by rw [List.size_toArray, List.size_toArray, ← r1.length, ← r2.length]; simpa using hl
                exact ⟨RcAt.lists_lengths L1 L2 hsz hu0, RcNeAt.lists_lengths L1 L2 hsz hu0⟩
        · cases e
      refine ⟨key.1, ?_, key.2⟩
      by_cases haa : a = a'
      · subst haa
        rw [same_veq R (n + 1) (.ref i) (.ref j) (.ref a) b (.ref hi) (.ref hj) (by simp only [veq]; exact e)]
        exact EqAt.same _
      · exact .of_refs haa key.1
    · rename_i xs a l m e1 z1 r1 ys a' l' m' e2 z2 r2
      have L1 : s.heap.IsTuple a l.toArray := ⟨_, e1, rfl, _, rfl⟩
      have L2 : s.heap.IsTuple a' l'.toArray := ⟨_, e2, rfl, _, rfl⟩
      have key : RcAt A s (.ref a) (.ref a') b ∧ RcNeAt A s (.ref a) (.ref a') (!b) := by
        split at e
        · rename_i hl
          obtain ⟨g, hg, hq⟩ := items r1 r2 hl e
          have hsz : l.toArray.size = l'.toArray.size := by rw [List.size_toArray, List.size_toArray, ← r1.length, ← r2.length]; exact hl
          have hb : b = ((List.range (min l.toArray.size l'.toArray.size)).all g && l.toArray.size == l'.toArray.size) := by rw [← hsz, Nat.min_self, hq]; simp
          rw [hb]
          exact ⟨RcAt.tuples L1 L2 hu0 hg, RcNeAt.tuples L1 L2 hu0 hg⟩
        · cases e
      refine ⟨key.1, ?_, key.2⟩
      by_cases haa : a = a'
      · subst haa
        rw [same_veq R (n + 1) (.tup xs) (.tup ys) (.ref a) b (.tup e1 z1 r1) (.tup e2 z2 r2) (by simp only [veq]; exact e)]
        exact EqAt.same _
      · exact .of_refs haa key.1

/-- the flat equality of a value with the items of a sequence -/
noncomputable def ceq : Value → Value → Bool
  | .bool x, .bool y => x == y
  | .int x _, .int y _ => x == y
  | .str x _, .str y _ => x == y
  | _, _ => false
theorem feq_at {x y : V} {u v : Value} {b : Bool} (e : feq x y = some b) {h : Heap} (hx : VR X h μ x u) (hy : VR X h μ y v) (A : Around) (s : Shared) : b = ceq u v ∧ EqAt A s u v (ceq u v) := by
  cases hx <;> cases hy <;> simp only [feq] at e <;> first | (cases e; done) | skip
  · cases e; exact ⟨rfl, EqAt.bool_bool _ _⟩
  · rename_i i t j t'
    exact ⟨by cases e; exact (Bool.beq_eq_decide_eq i j).symm, EqAt.int_int _ _ _ _⟩
  · rename_i i t hzi j t' hzj
    exact ⟨by cases e; exact (beq_codes i j).symm, EqAt.str_str _ _ _ _⟩
theorem anyEq_at {h : Heap} {a : V} {u : Value} (ha : VR X h μ a u) : ∀ {xs : List V} {l : List Value} {b : Bool}, anyEq a xs = some b → VRs X h μ xs l →
    (∀ y ∈ l, ∀ A s, EqAt A s y u (ceq y u)) ∧ l.any (fun y => ceq y u) = b
  | [], _, _, e, .nil => by cases e; exact ⟨fun _ h => (nomatch h), rfl⟩
  | x :: xs, v :: l, b, e, .cons hx r => by
    unfold anyEq at e
    split at e
    · rename_i p q h1 h2
      cases e
      obtain ⟨hf, hq⟩ := anyEq_at ha h2 r
      refine ⟨fun y hy A s => ?_, ?_⟩
      · rcases List.mem_cons.mp hy with rfl | hy
        · exact (feq_at h1 hx ha A s).2
        · exact hf y hy A s
      · rw [List.any_cons, hq]
        rw [(feq_at (s := ⟨{}, #[], {}, 0, default⟩) h1 hx ha {}).1]
    · cases e

theorem VR.none_iff {h : Heap} {x : V} {u : Value} (r : VR X h μ x u) : (u == Value.none) = isNoneV x := by cases r <;> rfl

theorem sm_cmp (c : Cn X A d hn s μ σ) (op : CmpOp) {x y : V} {u v : Value} (hx : VR X s.heap μ x u) (hy : VR X s.heap μ y v) :
    Sm X (Wp X A (compareOp op u v)) (cmpV (cmpOf op) x y σ) (Rl X) s μ := by
  have hroom : A.units + eqD < cLine := by have := c.rm.units; simp only [eqD]; omega
  have hin : ∀ (neg : Bool) (op : CmpOp), (op = if neg then CmpOp.NotIn else CmpOp.In) → Sm X (Wp X A (compareOp op u v)) (inM x y neg σ) (Rl X) s μ := by
    intro neg op hop
    subst hop
    cases hy with
    | @ref i a hi =>
      show Sm X _ (match σ[i]? with | some (.list xs) => _ | none => _) _ _ _
      cases ho : σ[i]? with
      | none => exact Sm.stuck
      | some o =>
        cases o with
        | list xs =>
          dsimp only
          cases he : anyEq x xs with
          | none => exact Sm.stuck
          | some r =>
            obtain ⟨l, n, e, rr, _⟩ := c.list ho hi
            obtain ⟨h1, h2⟩ := anyEq_at hx he rr
            have L : s.heap.IsList a l.toArray := ⟨_, e, rfl, _, rfl⟩
            refine Sm.ok fun Q E hQ => ?_
            have hq := hQ (.bool (r != neg)) s μ (Step.refl c.hr c.base) (.bool _)
            cases neg with
            | false => exact in_listAt (fun y => ceq y u) L (fun y hy => h1 y (by simpa using hy) _ _) (by rw [List.any_toArray, h2]; simpa using hq)
            | true => exact notIn_listAt (fun y => ceq y u) L (fun y hy => h1 y (by simpa using hy) _ _) (by rw [List.any_toArray, h2]; simpa using hq)
    | @tup ys a l n e hz rr =>
      show Sm X _ (match anyEq x ys with | some r => _ | none => _) _ _ _
      cases he : anyEq x ys with
      | none => exact Sm.stuck
      | some r =>
        obtain ⟨h1, h2⟩ := anyEq_at hx he rr
        have L : s.heap.IsTuple a l.toArray := ⟨_, e, rfl, _, rfl⟩
        refine Sm.ok fun Q E hQ => ?_
        have hq := hQ (.bool (r != neg)) s μ (Step.refl c.hr c.base) (.bool _)
        cases neg with
        | false => exact in_tupleAt (fun y => ceq y u) L (fun y hy => h1 y (by simpa using hy) _ _) (by rw [List.any_toArray, h2]; simpa using hq)
        | true => exact notIn_tupleAt (fun y => ceq y u) L (fun y hy => h1 y (by simpa using hy) _ _) (by rw [List.any_toArray, h2]; simpa using hq)
    | str w t hw =>
      cases hx with
      | str z t' hz' =>
        cases hz : codes z with
        | nil => simp only [inM, hz]; exact Sm.stuck
        | cons k r =>
          cases r with
          | cons _ _ => simp only [inM, hz]; exact Sm.stuck
          | nil =>
            simp only [inM, hz]
            have hzz : z = ⟨#[k]⟩ := codes_inj (by rw [hz]; rfl)
            subst hzz
            refine Sm.ok fun Q E hQ => ?_
            have hq := hQ (.bool ((codes w).contains k != neg)) s μ (Step.refl c.hr c.base) (.bool _)
            have key : (!(Builtin.Str.occurrences w ⟨#[k]⟩ 0 w.length 1).isEmpty) = (codes w).contains k := by
              rw [StrLaws.found_one]; show decide (k ∈ codes w) = _
              rw [Bool.eq_iff_iff, decide_eq_true_eq, List.contains_iff_mem]
            cases neg with
            | false => exact in_str (by rw [key]; simpa using hq)
            | true => exact notIn_str (by rw [key]; simpa using hq)
      | _ => exact Sm.stuck
    | _ => exact Sm.stuck
  cases op with
  | Eq =>
    show Sm X _ (match veq eqD σ x y with | some r => _ | none => _) _ _ _
    cases he : veq eqD σ x y with
    | none => exact Sm.stuck
    | some r =>
      refine Sm.ok fun Q E hQ => (rcAt c.hr eqD A x y u v r he hx hy hroom).1 X.prog X.w E Q ?_
      simpa using hQ (.bool (r != false)) s μ (Step.refl c.hr c.base) (.bool _)
  | NotEq =>
    show Sm X _ (match veq eqD σ x y with | some r => _ | none => _) _ _ _
    cases he : veq eqD σ x y with
    | none => exact Sm.stuck
    | some r =>
      refine Sm.ok fun Q E hQ => (rcAt c.hr eqD A x y u v r he hx hy hroom).2.2 X.prog X.w E Q ?_
      simpa using hQ (.bool (r != true)) s μ (Step.refl c.hr c.base) (.bool _)
  | Lt =>
    refine sm_i2 hx hy fun i t j t' e1 e2 => ?_
    subst e1 e2
    exact Sm.ok fun Q E hQ => lt_int (hQ _ _ _ (Step.refl c.hr c.base) (.bool _))
  | LtE =>
    refine sm_i2 hx hy fun i t j t' e1 e2 => ?_
    subst e1 e2
    exact Sm.ok fun Q E hQ => le_int (hQ _ _ _ (Step.refl c.hr c.base) (.bool _))
  | Gt =>
    refine sm_i2 hx hy fun i t j t' e1 e2 => ?_
    subst e1 e2
    exact Sm.ok fun Q E hQ => gt_int (hQ _ _ _ (Step.refl c.hr c.base) (.bool _))
  | GtE =>
    refine sm_i2 hx hy fun i t j t' e1 e2 => ?_
    subst e1 e2
    exact Sm.ok fun Q E hQ => ge_int (hQ _ _ _ (Step.refl c.hr c.base) (.bool _))
  | Is =>
    cases hy with
    | none => exact Sm.ok fun Q E hQ => is_none_gen (by rw [hx.none_iff]; exact hQ _ _ _ (Step.refl c.hr c.base) (.bool _))
    | _ => exact Sm.stuck
  | IsNot =>
    cases hy with
    | none => exact Sm.ok fun Q E hQ => isnot_none_gen (by rw [hx.none_iff]; exact hQ _ _ _ (Step.refl c.hr c.base) (.bool _))
    | _ => exact Sm.stuck
  | In => exact hin false _ rfl
  | NotIn => exact hin true _ rfl
end
end Mine

set_option maxRecDepth 100000
namespace Mine
open PySem PyProof.Rows PySem.SeqAt

section
variable {X : W} {A : Around} {d : Nat} {hn : Bool} {s : Shared} {μ : List Addr} {σ : H}

theorem idxN_seq {k : Int} {n j : Nat} (e : idxN k n = some j) : seqIndex? k n = some j ∧ j < n := by
  unfold idxN at e
  unfold seqIndex?
  split at e
  · rename_i h
    split at e
    · rename_i h2
      cases e
      have h1 : ¬ k < 0 := by omega
      simp only [h1, if_false]
      refine ⟨?_, h2⟩
      rw [if_pos (by simp; omega)]
    · cases e
  · rename_i h
    split at e
    · rename_i h2
      cases e
      have h1 : k < 0 := by omega
      simp only [h1, if_true]
      refine ⟨?_, by omega⟩
      rw [if_pos (by simp; omega)]
    · cases e
theorem idxN_fits {k : Int} {n j : Nat} (e : idxN k n = some j) (hz : n ≤ lim) : -(2 ^ 63) ≤ k ∧ k < 2 ^ 63 := by
  have hl : lim = 16777216 := rfl
  unfold idxN at e
  split at e
  · split at e
    · omega
    · cases e
  · split at e
    · omega
    · cases e

/-- an item of a list -/
theorem rule_item {a : Addr} {l : List Value} (L : s.heap.IsList a l.toArray) (hz : l.length ≤ lim) {k : Int} {t : Tok} {j : Nat} (e : idxN k l.length = some j) {u : Value} (hu : l[j]? = some u) {Q : Value → Shared → Prop} {E : Value → Shared → Prop}
    (h : Q u s) : wpAny (Mo X) A (getItem (.ref a) (.int k t)) Q E s := by
  obtain ⟨f1, f2⟩ := idxN_fits e hz
  unfold idxN at e
  split at e
  · rename_i h0
    split at e
    · cases e
      exact wpAny_getItem_list L h0 f2 (by simpa using hu) h
    · cases e
  · rename_i h0
    split at e
    · rename_i h1
      cases e
      exact wpAny_getItem_list_neg L (by omega) (by simp; omega) f1 (by simpa using hu) h
    · cases e

theorem sm_idx (c : Cn X A d hn s μ σ) {value slice : Expr} {x y : V} {u v : Value} (hx : VR X s.heap μ x u) (hy : VR X s.heap μ y v)
    (hs : subscripted slice false u v = operate [u, v] (getItem u v)) : Sm X (Wp X A (subscriptTail value slice u v)) (idxV X.ns x y σ) (Rl X) s μ := by
  cases hx with
  | @ref i a hi =>
    cases hy with
    | int k t =>
      show Sm X _ (match σ[i]? with | some (.list xs) => _ | none => _) _ _ _
      cases ho : σ[i]? with
      | none => exact Sm.stuck
      | some o =>
        cases o with
        | list xs =>
          dsimp only
          cases he : (idxN k xs.length).bind (xs[·]?) with
          | none => exact Sm.stuck
          | some w =>
            obtain ⟨j, e1, e2⟩ := Option.bind_eq_some_iff.mp he
            obtain ⟨l, n, e, r, hz⟩ := c.list ho hi
            obtain ⟨z, hz1, hz2⟩ := r.get e2
            have L : s.heap.IsList a l.toArray := ⟨_, e, rfl, _, rfl⟩
            rw [r.length] at e1
            exact Sm.ok fun Q E hQ => tail_any L.typeIs slot_list_getitem.lookup (rule_item L hz e1 hz1 (hQ _ _ _ (Step.refl c.hr c.base) hz2)) hs
    | _ => exact Sm.stuck
  | @tup xs a l n e hz r =>
    cases hy with
    | int k t =>
      show Sm X _ ((match (idxN k xs.length).bind (xs[·]?) with | some v => _ | none => _ : M V) σ) _ _ _
      cases he : (idxN k xs.length).bind (xs[·]?) with
      | none => exact Sm.stuck
      | some w =>
        obtain ⟨j, e1, e2⟩ := Option.bind_eq_some_iff.mp he
        obtain ⟨z, hz1, hz2⟩ := r.get e2
        rw [r.length] at e1
        obtain ⟨f1, f2⟩ := idxN_fits e1 hz
        have T : IsTup s.heap a l.toArray := ⟨_, e, rfl, _, rfl⟩
        exact Sm.ok fun Q E hQ => item_tupleT T f1 f2 (by simpa using (idxN_seq e1).1) (by simpa using hz1) (hQ _ _ _ (Step.refl c.hr c.base) hz2) hs
    | _ => exact Sm.stuck
  | str w t hw =>
    cases hy with
    | int k t' =>
      show Sm X _ ((match (idxN k (codes w).length).bind ((codes w)[·]?) with | some v => _ | none => _ : M V) σ) _ _ _
      cases he : (idxN k (codes w).length).bind ((codes w)[·]?) with
      | none => exact Sm.stuck
      | some q =>
        obtain ⟨j, e1, e2⟩ := Option.bind_eq_some_iff.mp he
        rw [codes_length] at e1
        obtain ⟨f1, f2⟩ := idxN_fits e1 hw
        refine Sm.ok fun Q E hQ => tail_any (typeIs_str s w t) slot_str_getitem.lookup (getItem_str (c := q) (by simp; omega) ?_ (hQ _ _ _ (c.same _) (.str ⟨#[q]⟩ _ (Nat.le_of_ble_eq_true rfl)))) hs
        rw [(idxN_seq e1).1]
        simpa [codes] using e2
    | _ => exact Sm.stuck
  | scr =>
    cases hy with
    | int k t =>
      show Sm X _ ((match (idxN k X.ns.length).bind (X.ns[·]?) with | some v => _ | none => _ : M V) σ) _ _ _
      cases he : (idxN k X.ns.length).bind (X.ns[·]?) with
      | none => exact Sm.stuck
      | some w =>
        obtain ⟨j, e1, e2⟩ := Option.bind_eq_some_iff.mp he
        obtain ⟨vs, L₀, hi, hz⟩ := c.scr
        have L : s.heap.IsList X.scr vs.toArray := let ⟨o, a, b⟩ := L₀; ⟨o, c.base.keep _ _ a, b⟩
        rw [← hi.length] at e1
        obtain ⟨t', e3⟩ := hi.get j w e2
        exact Sm.ok fun Q E hQ => tail_any L.typeIs slot_list_getitem.lookup (rule_item L hz e1 e3 (hQ _ _ _ (Step.refl c.hr c.base) (.int _ _))) hs
    | _ => exact Sm.stuck
  | _ => exact Sm.stuck

theorem clamp_clip (k : Int) (n : Nat) : clampN k n = clipAt n k := by
  have := clipAt_cast n k
  unfold clampN
  split
  · rename_i h
    rw [if_neg (by omega)] at this
    omega
  · rename_i h
    rw [if_pos (by omega)] at this
    omega
theorem cut_pick {l : List Value} (lo hi : Option Int) : slicePick l.toArray lo hi none = (cut l lo hi).toArray := by
  rw [slicePick_plain]
  unfold cut
  cases lo <;> cases hi <;> simp [clamp_clip]
theorem VRs.cut {h : Heap} {xs : List V} {l : List Value} (r : VRs X h μ xs l) (lo hi : Option Int) : VRs X h μ (cut xs lo hi) (cut l lo hi) := by
  unfold Mine.cut
  rw [r.length]
  exact (r.drop _).take _
theorem cut_le {α : Type} (xs : List α) (lo hi : Option Int) : (cut xs lo hi).length ≤ xs.length := by
  unfold cut
  simp only [List.length_take, List.length_drop]
  omega
theorem cut_map {α β : Type} (f : α → β) (xs : List α) (lo hi : Option Int) : (cut xs lo hi).map f = cut (xs.map f) lo hi := by
  unfold cut
  rw [List.length_map, List.map_take, List.map_drop]
theorem indices_cut (x : Str) (lo hi : Option Int) : (Builtin.Str.strSliceIndices lo hi 1 x.length).filterMap (x.cps[·]?) = cut (codes x) lo hi ∧ (Builtin.Str.strSliceIndices lo hi 1 x.length).length = (cut (codes x) lo hi).length := by
  have hb : ∀ n : Nat, Builtin.Str.strSliceIndices lo hi 1 n = sliceRange ((lo.elim 0 (clipAt n) : Nat) : Int) ((hi.elim n (clipAt n) : Nat) : Int) 1 := by
    intro n
    unfold Builtin.Str.strSliceIndices
    cases lo <;> cases hi <;> simp [clipAt_cast]
  rw [hb, sliceRange_one, pick_run]
  have e : cut (codes x) lo hi = (x.cps.toList.drop (lo.elim 0 (clipAt x.length))).take (hi.elim x.length (clipAt x.length) - lo.elim 0 (clipAt x.length)) := by
    unfold cut
    rw [codes_length]
    cases lo <;> cases hi <;> simp [clamp_clip, codes]
  refine ⟨e.symm, ?_⟩
  rw [e]
  simp only [List.length_map, List.length_range, List.length_take, List.length_drop]
  have h1 : x.cps.toList.length = x.length := by simp [Str.length]
  have h2 : ∀ i : Int, clipAt x.length i ≤ x.length := fun i => by
    have := clipAt_cast x.length i
    omega
  rw [h1]
  cases hi with
  | none => simp only [Option.elim]; omega
  | some i => have := h2 i; simp only [Option.elim]; omega

theorem cut_full {α : Type} {xs : List α} {lo hi : Option Int} (h : (cut xs lo hi).length = xs.length) : cut xs lo hi = xs := by
  obtain ⟨a, b, e⟩ : ∃ a b, cut xs lo hi = (xs.drop a).take (b - a) := ⟨_, _, rfl⟩
  rw [e] at h ⊢
  simp only [List.length_take, List.length_drop] at h
  by_cases hx : xs.length = 0
  · rw [List.eq_nil_of_length_eq_zero hx]; simp
  · have ha : a = 0 := by omega
    subst ha
    rw [List.drop_zero, List.take_of_length_le (by omega)]
theorem vrs_ints {h : Heap} : ∀ {l : List Value} {ns : List Int}, IntsAre l ns → VRs X h μ (ns.map V.int) l
  | _, _, .nil => .nil
  | _, _, .cons n t r => .cons (.int n t) (vrs_ints r)
theorem Cn.isScr (c : Cn X A d hn s μ σ) {xs : Array Value} (L : X.h₀.IsList X.scr xs) : s.heap.IsList X.scr xs := by
  obtain ⟨o, e, r⟩ := L
  exact ⟨o, c.base.keep _ _ e, r⟩

noncomputable def partOf : Value → Option (Int × Tok)
  | .int i t => some (i, t)
  | _ => none
theorem opt_part {h : Heap} {x : V} {u : Value} {o : Option Int} (e : optInt x = some o) (r : VR X h μ x u) : IsPart u o ∧ partValue (partOf u) = u ∧ (partOf u).map (·.1) = o := by
  cases r <;> simp only [optInt] at e <;> cases e
  · exact ⟨.none, rfl, rfl⟩
  · exact ⟨.int _ _, rfl, rfl⟩

theorem sm_slice (c : Cn X A d hn s μ σ) {value : Expr} {lower upper : Option Expr} {p : Pos} {x y z : V} {u vl vh : Value} (hx : VR X s.heap μ x u) (hl : VR X s.heap μ y vl) (hh : VR X s.heap μ z vh) :
    Sm X (fun Q E s => wpAny (Mo X) A (newFields "slice" [vl, vh, .none]) (fun i s₂ => wpAny (Mo X) A (subscriptTail value (.Slice lower upper none p) u i) Q E s₂) E s) (sliceV X.ns x y z σ) (Rl X) s μ := by
  unfold sliceV
  cases e1 : optInt y with
  | none => exact Sm.stuck
  | some lo =>
    cases e2 : optInt z with
    | none => exact Sm.stuck
    | some hi =>
      obtain ⟨pl, pl1, pl2⟩ := opt_part e1 hl
      obtain ⟨ph, ph1, ph2⟩ := opt_part e2 hh
      have S1 : Step X s μ { s with heap := s.heap.push { cls := .type "slice", data := .fields #[vl, vh, .none] } } μ σ := Step.push c _ s.toks
      have c1 := c.step S1
      have go : ∀ {r : R V}, Sm X (Wp X A (subscriptTail value (.Slice lower upper none p) u (.ref s.heap.objs.size))) r (Rl X) { s with heap := s.heap.push { cls := .type "slice", data := .fields #[vl, vh, .none] } } μ →
          Sm X (fun Q E s => wpAny (Mo X) A (newFields "slice" [vl, vh, .none]) (fun i s₂ => wpAny (Mo X) A (subscriptTail value (.Slice lower upper none p) u i) Q E s₂) E s) r (Rl X) s μ := by
        intro r h hne Q E hQ
        refine wpAny_newObj_type ?_ (by show 3 ≤ sizeLine + 2; decide)
        exact h hne Q E fun a σ' b s' μ' e S r => hQ a σ' b s' μ' e (S1.trans S) r
      dsimp only
      cases hx with
      | @ref i a hi' =>
        show Sm X _ (match σ[i]? with | some (.list xs) => newL (cut xs lo hi) σ | none => _) _ _ _
        cases ho : σ[i]? with
        | none => exact Sm.stuck
        | some o =>
          cases o with
          | list xs =>
            refine go ?_
            obtain ⟨l, n, e, r, hz⟩ := c1.list ho hi'
            have L : (s.heap.push { cls := .type "slice", data := .fields #[vl, vh, .none] }).IsList a l.toArray := ⟨_, e, rfl, _, rfl⟩
            refine sm_pushed c1 (r.cut lo hi) fun _ Q E hQ => tail_any L.typeIs list_getitem_lookup (ops := [.ref s.heap.objs.size, .ref a])
              (wpAny_getItem_list_slice L (Heap.IsSliceOf.new ..) pl ph .none (by simp) ?_ (by rw [List.size_toArray]; exact hz)) (by with_unfolding_all rfl)
            rw [cut_pick]
            exact hQ
      | str w t hw =>
        refine go ?_
        show Sm X _ (mkS (cut (codes w) lo hi) σ) _ _ _
        unfold mkS
        have hcl : (cut (codes w) lo hi).length ≤ lim := Nat.le_trans (cut_le _ _ _) (by rw [codes_length]; exact hw)
        rw [if_pos hcl]
        refine Sm.ok fun Q E hQ => ?_
        obtain ⟨k1, k2⟩ := indices_cut w lo hi
        refine tail_any (typeIs_str _ w t) slot_str_getitem.lookup (ops := [.ref s.heap.objs.size, .str w t]) (getItem_slot (typeIs_str _ w t) (by decide) slot_str_getitem
          (call_meets slot_str_getitem (typeIs_str _ w t) entry_str_getitem (args_str_getitem _ _) (meets_str_getitem_slice w t s.heap.objs.size (partOf vl) (partOf vh) none rfl) ⟨?_, ?_⟩)) (by with_unfolding_all rfl)
        · refine ⟨_, Heap.get?_push_size _ rfl, rfl, ?_⟩
          rw [pl1, ph1]; rfl
        · unfold sliceMade slicePicked
          rw [pl2, ph2]
          show Made.post (if ((1 : Int) == 1 && (Builtin.Str.strSliceIndices lo hi 1 w.length).length == w.length) = true then _ else _) _ _
          split
          · rename_i hq
            have hq' : (cut (codes w) lo hi).length = (codes w).length := by rw [← k2, codes_length]; simpa using hq
            have : cut (codes w) lo hi = codes w := by
              exact cut_full hq'
            exact hQ _ _ _ (Step.refl c1.hr c1.base) (by rw [this]; exact .str _ _ hw)
          · rename_i hq
            rw [show ((Option.map (fun x : Int × Tok => x.fst) none).getD 1 : Int) = 1 from rfl, k1]
            dsimp only [Made.post]
            have hl : (Str.mk (cut (codes w) lo hi).toArray).length ≤ lim := by simp only [Str.length, List.size_toArray]; exact hcl
            refine ⟨hl, hQ _ _ _ ((Step.refl c1.hr c1.base).toks _) ?_⟩
            have := VR.str (X := X) (h := s.heap.push { cls := .type "slice", data := .fields #[vl, vh, .none] }) (μ := μ) ⟨(cut (codes w) lo hi).toArray⟩ s.toks hl
            rw [codes_mk] at this
            exact this
      | scr =>
        refine go ?_
        obtain ⟨vs, L₀, hi', hz⟩ := c1.scr
        have L : (s.heap.push { cls := .type "slice", data := .fields #[vl, vh, .none] }).IsList X.scr vs.toArray := c1.isScr L₀
        refine sm_pushed c1 (l := cut vs lo hi) ?_ fun _ Q E hQ => tail_any L.typeIs list_getitem_lookup (ops := [.ref s.heap.objs.size, .ref X.scr])
              (wpAny_getItem_list_slice L (Heap.IsSliceOf.new ..) pl ph .none (by simp) ?_ (by rw [List.size_toArray]; exact hz)) (by with_unfolding_all rfl)
        · rw [cut_map]
          exact (vrs_ints hi').cut lo hi
        · rw [cut_pick]
          exact hQ
      | _ => exact Sm.stuck
end
end Mine

set_option maxRecDepth 100000
namespace Mine
open PySem PyProof.Rows PySem.Calls

noncomputable def asB : V → M Bool
  | .bool b => .ret b
  | _ => stuck
noncomputable abbrev RlB : Heap → List Addr → Bool → Bool → Prop := fun _ _ a b => a = b

section
variable {X : W} {A : Around} {d : Nat} {hn : Bool} {s : Shared} {μ : List Addr} {σ : H} {env : PySem.Env} {cx : Cx} {ρ : Env}

theorem Sm.go {α β γ δ : Type} {P : PT β} {P2 : β → PT δ} {m : M α} {k : α → M γ} {rel : Heap → List Addr → α → β → Prop} {rel2 : Heap → List Addr → γ → δ → Prop}
    (c : Cn X A d hn s μ σ) (F : FR X env cx ρ s.heap μ)
    (h1 : Sm X P (m σ) rel s μ) (h2 : ∀ a σ₁ b s₁ μ₁, Cn X A d hn s₁ μ₁ σ₁ → FR X env cx ρ s₁.heap μ₁ → Step X s μ s₁ μ₁ σ₁ → rel s₁.heap μ₁ a b → Sm X (P2 b) (k a σ₁) rel2 s₁ μ₁) :
    Sm X (fun Q E s => P (fun b s₁ => P2 b Q E s₁) E s) (m.bnd k σ) rel2 s μ :=
  h1.bind fun a σ₁ b s₁ μ₁ _ S r => h2 a σ₁ b s₁ μ₁ (c.step S) (F.step c.hr S) S r

theorem sm_truthy (c : Cn X A d hn s μ σ) {v : V} {u : Value} (r : VR X s.heap μ v u) : Sm X (Wp X A (truthy u)) (asB v σ) RlB s μ := by
  cases r <;> first | exact Sm.stuck | skip
  exact Sm.ok fun Q E hQ => wpAny_truthy_bool (hQ _ _ _ (Step.refl c.hr c.base) rfl)

/-- what the trees of a frame do -/
noncomputable def SimE (X : W) (C : Calls) (G : GT) (d : Nat) (hn : Bool) (e : Expr) : Prop :=
  ∀ (cx : Cx) (t : E), trE G cx e = some t → ∀ (A : Around) (env : PySem.Env) (ρ : Env) (s : Shared) (μ : List Addr) (σ : H), Cn X A d hn s μ σ → FR X env cx ρ s.heap μ →
    Sm X (Wp X A (eval e env)) (evE X.ns C ρ t σ) (Rl X) s μ
noncomputable def SimT (X : W) (C : Calls) (G : GT) (d : Nat) (hn : Bool) (e : Expr) : Prop :=
  ∀ (cx : Cx) (t : E), trE G cx e = some t → ∀ (A : Around) (env : PySem.Env) (ρ : Env) (s : Shared) (μ : List Addr) (σ : H), Cn X A d hn s μ σ → FR X env cx ρ s.heap μ →
    Sm X (Wp X A (isTrue e env (eval e env))) ((evE X.ns C ρ t).bnd asB σ) RlB s μ

variable {C : Calls} {G : GT}

theorem simT_plain {e : Expr} (h : SimE X C G d hn e) (he : ∀ env whole, isTrue e env whole = (do let v ← whole; standAt e.pos; holding [v] (truthy v))) : SimT X C G d hn e := by
  intro cx t ht A env ρ s μ σ c F
  exact (Sm.go c F (h cx t ht A env ρ s μ σ c F) fun _ _ _ _ _ c1 _ _ r => sm_truthy c1 r).imp fun Q E hq => isTrue_plain hq (he _ _)

theorem sim_const {k : Const} {i : Nat} {p : Pos} : SimE X C G d hn (.Constant k i p) := by
  intro cx t ht A env ρ s μ σ c F
  unfold trE at ht
  cases k <;> simp only [litOf, Option.map_some, Option.map_none, Option.some.injEq, reduceCtorEq] at ht
  · subst ht; unfold evE; exact Sm.ok fun Q E hQ => Constant_none (hQ _ _ _ (Step.refl c.hr c.base) .none)
  · subst ht; unfold evE; exact Sm.ok fun Q E hQ => Constant_bool (hQ _ _ _ (Step.refl c.hr c.base) (.bool _))
  · subst ht; unfold evE; exact Sm.ok fun Q E hQ => wpAny_Constant_int (hQ _ _ _ ((Step.refl c.hr c.base).toks _) (.int _ _))
  · split at ht
    · rename_i hl
      simp only [Option.map_some, Option.some.injEq] at ht
      subst ht; unfold evE
      refine Sm.ok fun Q E hQ => PySem.Calls.Constant_str (hQ _ _ _ ((Step.refl c.hr c.base).toks _) (.str _ _ ?_))
      rw [← codes_length]; exact Nat.le_trans hl (by decide)
    · cases ht

/-- the module's names -/
structure Gl (X : W) (G : GT) : Prop where
  ns : ∃ mg mb, X.h₀.Ns mainGlobals mg ∧ X.h₀.Ns builtinsNs mb ∧ (∀ x v, G.consts.lookup x = some v → ∃ u, mg x = some u ∧ VR X X.h₀ [] v u)
theorem Base.ns {h : Heap} (B : Base X h) {a : Addr} {m : Str → Option Value} (n : X.h₀.Ns a m) : h.Ns a m := by
  obtain ⟨o, es, ep, e, r⟩ := n
  exact ⟨o, es, ep, B.keep _ _ e, r⟩
theorem VR.base {h : Heap} (B : Base X h) {v : V} {u : Value} (r : VR X X.h₀ [] v u) : VR X h μ v u :=
  r.mono (fun _ _ e _ => B.keep _ _ e) fun i a e => by simp at e

theorem FR.kindOf (F : FR X env cx ρ s.heap μ) {x : Str} : env.kindOf x = cx.kinds.lookup x := by
  show env.scope.names.lookup x = _
  rw [F.names]

theorem glob_eq {x : Str} (h : cx.glob x = true) : cx.kinds.lookup x = some .globalImplicit ∧ (x == ("__debug__" : Str)) = false := by
  unfold Cx.glob at h
  simp only [Bool.and_eq_true, decide_eq_true_eq] at h
  exact ⟨h.1, by simpa using h.2⟩

theorem sim_global (c : Cn X A d hn s μ σ) (F : FR X env cx ρ s.heap μ) {mg : Str → Option Value} (n : X.h₀.Ns mainGlobals mg) {x : Str} {p : Pos} {u : Value} (hx : cx.glob x = true) (hu : mg x = some u) {Q : Value → Shared → Prop} {E : Value → Shared → Prop}
    (h : Q u s) : wpAny (Mo X) A (eval (.Name x p) env) Q E s := by
  obtain ⟨h1, h2⟩ := glob_eq hx
  exact Name_function_global F.kind (by rw [F.kindOf]; exact h1) (loadGlobal_global (mg := mg) (by rw [F.globals]; exact c.base.ns n) hu h) h2
theorem sim_builtin (c : Cn X A d hn s μ σ) (F : FR X env cx ρ s.heap μ) {mg mb : Str → Option Value} (n : X.h₀.Ns mainGlobals mg) (nb : X.h₀.Ns builtinsNs mb) {x : Str} {p : Pos} {u : Value} (hx : cx.glob x = true) (hg : mg x = none) (hu : mb x = some u) {Q : Value → Shared → Prop} {E : Value → Shared → Prop}
    (h : Q u s) : wpAny (Mo X) A (eval (.Name x p) env) Q E s := by
  obtain ⟨h1, h2⟩ := glob_eq hx
  exact Name_function_global F.kind (by rw [F.kindOf]; exact h1) (loadGlobal_builtin (mg := mg) (mb := mb) (by rw [F.globals]; exact c.base.ns n) hg (by rw [F.builtins]; exact c.base.ns nb) hu h) h2

theorem slot_local (F : FR X env cx ρ s.heap μ) {x : Str} {k : Nat} (h : cx.slot x = some k) {v : V} (hv : ρ[k]? = some (some v)) :
    ∃ u, VR X s.heap μ v u ∧ ∀ Q E, Q u s → wpAny (Mo X) A (loadName env x) Q E s := by
  unfold Cx.slot at h
  split at h
  · rename_i hk
    obtain ⟨m, n, hm⟩ := F.ns
    obtain ⟨u, e, r⟩ := hm x k v hk h hv
    exact ⟨u, r, fun Q E hq => wpAny_loadName_local F.kind (by rw [F.kindOf]; exact hk) n e hq⟩
  · rename_i hk
    obtain ⟨a, u, h1, h2, h3⟩ := F.cell x k hk h
    obtain ⟨y, rfl, r⟩ := h3 v hv
    exact ⟨y, r, fun Q E hq => wpAny_loadName_cell F.kind (by rw [F.kindOf]; exact hk) h1 h2 hq⟩
  · cases h

theorem sim_name (g : Gl X G) {x : Str} {p : Pos} : SimE X C G d hn (.Name x p) := by
  intro cx t ht A env ρ s μ σ c F
  unfold trE at ht
  split at ht
  · cases ht
  · rename_i hdb
    split at ht
    · rename_i k hk
      cases ht
      unfold evE
      cases hv : ρ[k]? with
      | none => exact Sm.stuck
      | some o =>
        cases o with
        | none => exact Sm.stuck
        | some v =>
          obtain ⟨u, r, h⟩ := slot_local (A := A) F hk hv
          exact Sm.ok fun Q E hQ => wpAny_Name (h _ _ (hQ _ _ _ (Step.refl c.hr c.base) r)) (by simpa using hdb)
    · split at ht
      · rename_i hg
        cases hl : G.consts.lookup x with
        | none => rw [hl] at ht; cases ht
        | some v =>
          rw [hl] at ht; cases ht
          unfold evE
          obtain ⟨mg, mb, n, _, hc⟩ := g.ns
          obtain ⟨u, hu, r⟩ := hc x v hl
          exact Sm.ok fun Q E hQ => sim_global c F n hg hu (hQ _ _ _ (Step.refl c.hr c.base) (r.base c.base))
      · cases ht

theorem sim_bin {l r : Expr} {op : Operator} {p : Pos} (hl : SimE X C G d hn l) (hr : SimE X C G d hn r) : SimE X C G d hn (.BinOp l op r p) := by
  intro cx t ht A env ρ s μ σ c F
  unfold trE at ht
  cases h1 : binOf op with
  | none => simp [h1] at ht
  | some o =>
    cases h2 : trE G cx l with
    | none => simp [h1, h2] at ht
    | some a =>
      cases h3 : trE G cx r with
      | none => simp [h1, h2, h3] at ht
      | some b =>
        simp only [h1, h2, h3, Option.some.injEq] at ht
        subst ht; unfold evE
        refine (Sm.go c F (hl cx a h2 A env ρ s μ σ c F) fun _ _ _ _ _ c1 F1 S1 r1 => Sm.go c1 F1 (hr cx b h3 A env ρ _ _ _ c1 F1) fun _ _ _ _ _ c2 F2 S2 r2 => sm_bin c2 h1 (S2.vr c1.hr r1) r2).imp fun Q E h => wpAny_BinOp h

theorem sm_not (c : Cn X A d hn s μ σ) {v : V} {u : Value} (r : VR X s.heap μ v u) : Sm X (Wp X A (unaryOp .Not u)) (notV v σ) (Rl X) s μ := by
  cases r <;> first | exact Sm.stuck | skip
  exact Sm.ok fun Q E hQ => not_of (wpAny_truthy_bool (hQ _ _ _ (Step.refl c.hr c.base) (.bool _)))
theorem sm_neg (c : Cn X A d hn s μ σ) {v : V} {u : Value} (r : VR X s.heap μ v u) : Sm X (Wp X A (unaryOp .USub u)) (negV v σ) (Rl X) s μ := by
  cases r <;> first | exact Sm.stuck | skip
  exact Sm.ok fun Q E hQ => PyProof.Rows.neg_int (hQ _ _ _ ((Step.refl c.hr c.base).toks _) (.int _ _))

theorem sim_unary {x : Expr} {op : UnaryOp} {p : Pos} (hx : SimE X C G d hn x) : SimE X C G d hn (.UnaryOp op x p) := by
  intro cx t ht A env ρ s μ σ c F
  unfold trE at ht
  cases h2 : trE G cx x with
  | none => cases op <;> simp [h2] at ht
  | some a =>
    cases op <;> simp only [reduceCtorEq, h2, Option.map_some, Option.some.injEq] at ht
    · subst ht; unfold evE
      exact (Sm.go c F (hx cx a h2 A env ρ s μ σ c F) fun _ _ _ _ _ c1 _ _ r => sm_not c1 r).imp fun Q E h => UnaryOp_ h
    · subst ht; unfold evE
      exact (Sm.go c F (hx cx a h2 A env ρ s μ σ c F) fun _ _ _ _ _ c1 _ _ r => sm_neg c1 r).imp fun Q E h => UnaryOp_ h

theorem bnd_assoc {α β γ : Type} (m : M α) (f : α → M β) (g : β → M γ) : (m.bnd f).bnd g = m.bnd fun a => (f a).bnd g := by
  funext σ
  unfold M.bnd
  cases m σ <;> rfl
theorem bnd_ret {α : Type} (m : M α) : m.bnd .ret = m := by
  funext σ
  unfold M.bnd
  cases m σ <;> rfl

theorem simT_unary {x : Expr} {op : UnaryOp} {p : Pos} (hx : SimE X C G d hn x) (hT : SimT X C G d hn x) : SimT X C G d hn (.UnaryOp op x p) := by
  by_cases ho : op = .Not
  · subst ho
    intro cx t ht A env ρ s μ σ c F
    unfold trE at ht
    cases h2 : trE G cx x with
    | none => simp [h2] at ht
    | some a =>
      simp only [h2, Option.map_some, Option.some.injEq] at ht
      subst ht
      have e : (evE X.ns C ρ (.not a)).bnd asB = ((evE X.ns C ρ a).bnd asB).bnd fun b => .ret (!b) := by
        rw [show evE X.ns C ρ (.not a) = (evE X.ns C ρ a).bnd notV from by rw [evE], bnd_assoc, bnd_assoc]
        congr 1
        funext v
        cases v <;> rfl
      rw [e]
      exact (Sm.go c F (hT cx a h2 A env ρ s μ σ c F) (P2 := fun b Q E s => Q (!b) s) fun b σ₁ b' s₁ μ₁ c1 _ _ r => by
        cases r
        exact Sm.ok fun Q E hQ => hQ _ _ _ (Step.refl c1.hr c1.base) rfl).imp fun Q E h => isTrue_not h
  · refine simT_plain (sim_unary hx) fun env whole => ?_
    cases op <;> first | rfl | exact absurd rfl ho

theorem trEs_cons {e : Expr} {es : List Expr} {ts : List E} (h : trEs G cx (e :: es) = some ts) : ∃ t r, trE G cx e = some t ∧ trEs G cx es = some r ∧ ts = t :: r := by
  unfold trEs at h
  cases h1 : trE G cx e with
  | none => simp [h1] at h
  | some a =>
    cases h2 : trEs G cx es with
    | none => simp [h1, h2] at h
    | some b =>
      simp only [h1, h2, Option.some.injEq] at h
      exact ⟨a, b, rfl, rfl, h.symm⟩
theorem trEs_nil {ts : List E} (h : trEs G cx [] = some ts) : ts = [] := by
  unfold trEs at h
  cases h; rfl

theorem evE_and (ρ : Env) (ts : List E) : evE X.ns C ρ (.and ts) = evAnd X.ns C ρ ts := by rw [evE]
theorem evE_or (ρ : Env) (ts : List E) : evE X.ns C ρ (.or ts) = evOr X.ns C ρ ts := by rw [evE]
theorem evAnd_one (ρ : Env) (a : E) : evAnd X.ns C ρ [a] = (evE X.ns C ρ a).bnd fun v => match v with | .bool b => .ret (.bool b) | _ => stuck := by
  rw [evAnd] <;> congr 1
theorem evOr_one (ρ : Env) (a : E) : evOr X.ns C ρ [a] = (evE X.ns C ρ a).bnd fun v => match v with | .bool b => .ret (.bool b) | _ => stuck := by
  rw [evOr] <;> congr 1
theorem evAnd_more (ρ : Env) (a b : E) (r : List E) : evAnd X.ns C ρ (a :: b :: r) = (evE X.ns C ρ a).bnd fun v => match v with | .bool x => if x then evAnd X.ns C ρ (b :: r) else .ret (.bool false) | _ => stuck := by
  (conv => lhs; rw [evAnd]) <;> congr 1
theorem evOr_more (ρ : Env) (a b : E) (r : List E) : evOr X.ns C ρ (a :: b :: r) = (evE X.ns C ρ a).bnd fun v => match v with | .bool x => if x then .ret (.bool true) else evOr X.ns C ρ (b :: r) | _ => stuck := by
  (conv => lhs; rw [evOr]) <;> congr 1

noncomputable def opE (op : BoolOp) (ts : List E) : E := match op with | .And => .and ts | .Or => .or ts
theorem sim_bools {p : Pos} {op : BoolOp} : ∀ {es : List Expr} (hs : ∀ e ∈ es, SimE X C G d hn e) {cx : Cx} {ts : List E} (_ : trEs G cx es = some ts) (_ : es ≠ []) {A : Around} {env : PySem.Env} {ρ : Env} {s : Shared} {μ : List Addr} {σ : H} (_ : Cn X A d hn s μ σ) (_ : FR X env cx ρ s.heap μ),
    Sm X (Wp X A (eval (.BoolOp op es p) env)) (evE X.ns C ρ (opE op ts) σ) (Rl X) s μ
  | [], _, _, _, _, h, _, _, _, _, _, _, _, _ => absurd rfl h
  | [e], hs, cx, ts, ht, _, A, env, ρ, s, μ, σ, c, F => by
    obtain ⟨a, r, h1, h2, rfl⟩ := trEs_cons ht
    cases trEs_nil h2
    have he : evE X.ns C ρ (opE op [a]) = (evE X.ns C ρ a).bnd fun v => match v with | .bool b => .ret (.bool b) | _ => stuck := by
      cases op <;> simp only [opE, evE_and, evE_or, evAnd_one, evOr_one]
    rw [he]
    exact (Sm.go c F (hs e List.mem_cons_self cx a h1 A env ρ s μ σ c F) (P2 := fun v Q E s => Q v s) fun v σ₁ u s₁ μ₁ c1 _ _ r => by
      cases r <;> first | exact Sm.stuck | skip
      exact Sm.ok fun Q E hQ => hQ _ _ _ (Step.refl c1.hr c1.base) (.bool _)).imp fun Q E h => BoolOp_one h
  | e :: e' :: es, hs, cx, ts, ht, _, A, env, ρ, s, μ, σ, c, F => by
    obtain ⟨a, r, h1, h2, rfl⟩ := trEs_cons ht
    obtain ⟨a', r', h3, h4, rfl⟩ := trEs_cons h2
    cases op with
    | And =>
      have he : evE X.ns C ρ (opE .And (a :: a' :: r')) = (evE X.ns C ρ a).bnd fun v => match v with | .bool b => if b then evE X.ns C ρ (opE .And (a' :: r')) else .ret (.bool false) | _ => stuck := by
        simp only [opE, evE_and, evAnd_more]
      rw [he]
      refine (Sm.go c F (hs e List.mem_cons_self cx a h1 A env ρ s μ σ c F) (P2 := fun v Q E s₁ => wpAny (Mo X) A (truthy v) (fun c s₂ => if c then wpAny (Mo X) A (eval (.BoolOp .And (e' :: es) p) env) Q E s₂ else Q v s₂) E s₁) fun v σ₁ u s₁ μ₁ c1 F1 S1 r => ?_).imp fun Q E h => BoolOp_and h
      cases r <;> first | exact Sm.stuck | skip
      rename_i b
      cases b with
      | true => exact (sim_bools (fun x hx => hs x (List.mem_cons_of_mem _ hx)) h2 (by simp) c1 F1).imp fun Q E h => wpAny_truthy_bool h
      | false => exact Sm.ok fun Q E hQ => wpAny_truthy_bool (hQ _ _ _ (Step.refl c1.hr c1.base) (.bool _))
    | Or =>
      have he : evE X.ns C ρ (opE .Or (a :: a' :: r')) = (evE X.ns C ρ a).bnd fun v => match v with | .bool b => if b then .ret (.bool true) else evE X.ns C ρ (opE .Or (a' :: r')) | _ => stuck := by
        simp only [opE, evE_or, evOr_more]
      rw [he]
      refine (Sm.go c F (hs e List.mem_cons_self cx a h1 A env ρ s μ σ c F) (P2 := fun v Q E s₁ => wpAny (Mo X) A (truthy v) (fun c s₂ => if c then Q v s₂ else wpAny (Mo X) A (eval (.BoolOp .Or (e' :: es) p) env) Q E s₂) E s₁) fun v σ₁ u s₁ μ₁ c1 F1 S1 r => ?_).imp fun Q E h => BoolOp_or h
      cases r <;> first | exact Sm.stuck | skip
      rename_i b
      cases b with
      | false => exact (sim_bools (fun x hx => hs x (List.mem_cons_of_mem _ hx)) h2 (by simp) c1 F1).imp fun Q E h => wpAny_truthy_bool h
      | true => exact Sm.ok fun Q E hQ => wpAny_truthy_bool (hQ _ _ _ (Step.refl c1.hr c1.base) (.bool _))
theorem sim_boolop {op : BoolOp} {es : List Expr} {p : Pos} (hs : ∀ e ∈ es, SimE X C G d hn e) : SimE X C G d hn (.BoolOp op es p) := by
  intro cx t ht A env ρ s μ σ c F
  unfold trE at ht
  split at ht
  · rename_i a b l h1
    have : t = opE op (a :: b :: l) := by cases op <;> simp at ht <;> exact ht.symm
    subst this
    exact sim_bools hs h1 (by intro e; subst e; unfold trEs at h1; cases h1) c F
  · cases ht

theorem simT_bools {p : Pos} {op : BoolOp} : ∀ {es : List Expr} (hs : ∀ e ∈ es, SimT X C G d hn e) {cx : Cx} {ts : List E} (_ : trEs G cx es = some ts) (_ : es ≠ []) {A : Around} {env : PySem.Env} {ρ : Env} {s : Shared} {μ : List Addr} {σ : H} {whole : Sem Value} (_ : Cn X A d hn s μ σ) (_ : FR X env cx ρ s.heap μ),
    Sm X (Wp X A (isTrue (.BoolOp op es p) env whole)) ((evE X.ns C ρ (opE op ts)).bnd asB σ) RlB s μ
  | [], _, _, _, _, h, _, _, _, _, _, _, _, _, _ => absurd rfl h
  | [e], hs, cx, ts, ht, _, A, env, ρ, s, μ, σ, whole, c, F => by
    obtain ⟨a, r, h1, h2, rfl⟩ := trEs_cons ht
    cases trEs_nil h2
    have he : (evE X.ns C ρ (opE op [a])).bnd asB = ((evE X.ns C ρ a).bnd asB).bnd fun b => .ret b := by
      cases op <;> simp only [opE, evE_and, evE_or, evAnd_one, evOr_one, bnd_assoc] <;> congr 1 <;> funext v <;> cases v <;> rfl
    rw [he]
    refine (Sm.go c F (hs e List.mem_cons_self cx a h1 A env ρ s μ σ c F) (P2 := fun b Q E s => Q b s) fun b σ₁ b' s₁ μ₁ c1 _ _ r => by
      cases r
      exact Sm.ok fun Q E hQ => hQ _ _ _ (Step.refl c1.hr c1.base) rfl).imp fun Q E h => ?_
    cases op with
    | And => refine isTrue_and (wpAny_mono h (fun b s' hb => ?_) fun _ _ x => x); cases b <;> first | exact hb | exact isTrue_and_nil hb
    | Or => refine isTrue_or (wpAny_mono h (fun b s' hb => ?_) fun _ _ x => x); cases b <;> first | exact hb | exact isTrue_or_nil hb
  | e :: e' :: es, hs, cx, ts, ht, _, A, env, ρ, s, μ, σ, whole, c, F => by
    obtain ⟨a, r, h1, h2, rfl⟩ := trEs_cons ht
    obtain ⟨a', r', h3, h4, rfl⟩ := trEs_cons h2
    cases op with
    | And =>
      have he : (evE X.ns C ρ (opE .And (a :: a' :: r'))).bnd asB = ((evE X.ns C ρ a).bnd asB).bnd fun b => if b then (evE X.ns C ρ (opE .And (a' :: r'))).bnd asB else .ret false := by
        simp only [opE, evE_and, evAnd_more, bnd_assoc]; congr 1; funext v; cases v with
        | bool b => cases b <;> rfl
        | _ => rfl
      rw [he]
      refine (Sm.go c F (hs e List.mem_cons_self cx a h1 A env ρ s μ σ c F) (P2 := fun b Q E s₂ => if b then wpAny (Mo X) A (isTrue (.BoolOp .And (e' :: es) p) env whole) Q E s₂ else Q false s₂) fun b σ₁ b' s₁ μ₁ c1 F1 S1 r => ?_).imp fun Q E h => isTrue_and h
      cases r
      cases b with
      | true => exact simT_bools (fun x hx => hs x (List.mem_cons_of_mem _ hx)) h2 (by simp) c1 F1
      | false => exact Sm.ok fun Q E hQ => hQ _ _ _ (Step.refl c1.hr c1.base) rfl
    | Or =>
      have he : (evE X.ns C ρ (opE .Or (a :: a' :: r'))).bnd asB = ((evE X.ns C ρ a).bnd asB).bnd fun b => if b then .ret true else (evE X.ns C ρ (opE .Or (a' :: r'))).bnd asB := by
        simp only [opE, evE_or, evOr_more, bnd_assoc]; congr 1; funext v; cases v with
        | bool b => cases b <;> rfl
        | _ => rfl
      rw [he]
      refine (Sm.go c F (hs e List.mem_cons_self cx a h1 A env ρ s μ σ c F) (P2 := fun b Q E s₂ => if b then Q true s₂ else wpAny (Mo X) A (isTrue (.BoolOp .Or (e' :: es) p) env whole) Q E s₂) fun b σ₁ b' s₁ μ₁ c1 F1 S1 r => ?_).imp fun Q E h => isTrue_or h
      cases r
      cases b with
      | false => exact simT_bools (fun x hx => hs x (List.mem_cons_of_mem _ hx)) h2 (by simp) c1 F1
      | true => exact Sm.ok fun Q E hQ => hQ _ _ _ (Step.refl c1.hr c1.base) rfl
theorem simT_boolop {op : BoolOp} {es : List Expr} {p : Pos} (hs : ∀ e ∈ es, SimT X C G d hn e) : SimT X C G d hn (.BoolOp op es p) := by
  intro cx t ht A env ρ s μ σ c F
  unfold trE at ht
  split at ht
  · rename_i a b l h1
    have : t = opE op (a :: b :: l) := by cases op <;> simp at ht <;> exact ht.symm
    subst this
    exact simT_bools hs h1 (by intro e; subst e; unfold trEs at h1; cases h1) c F
  · cases ht
end
end Mine

set_option maxRecDepth 100000
namespace Mine
open PySem PyProof.Rows PySem.Calls

section
variable {X : W} {A : Around} {d : Nat} {hn : Bool} {s : Shared} {μ : List Addr} {σ : H} {env : PySem.Env} {cx : Cx} {ρ : Env} {C : Calls} {G : GT}

theorem tr_marks {op : CmpOp} {e : Expr} {t : E} (h : trE G cx e = some t) : behindInMarks op e = false := by
  cases e <;> first | rfl | skip
  unfold trE at h; cases h
theorem tr_star {e : Expr} {t : E} (h : trE G cx e = some t) (rest : List Expr) (env : PySem.Env) : starEach (e :: rest) env = (false, eval e env) :: starEach rest env := by
  cases e <;> first | rfl | skip
  unfold trE at h; cases h

theorem evE_cmp (ρ : Env) (op : Cmp) (a b : E) : evE X.ns C ρ (.cmp op a b) = (evE X.ns C ρ a).bnd fun x => (evE X.ns C ρ b).bnd fun y => cmpV op x y := by rw [evE]
theorem evE_cmp2 (ρ : Env) (op op' : Cmp) (a b c : E) : evE X.ns C ρ (.cmp2 op op' a b c) = (evE X.ns C ρ a).bnd fun x => (evE X.ns C ρ b).bnd fun y => (cmpV op x y).bnd fun r => match r with
    | .bool true => (evE X.ns C ρ c).bnd fun z => cmpV op' y z
    | .bool false => .ret (.bool false)
    | _ => stuck := by rw [evE] <;> rfl

/-- what a comparison's tree stands for -/
theorem tr_compare {l : Expr} {ops : List CmpOp} {cs : List Expr} {p : Pos} {t : E} (ht : trE G cx (.Compare l ops cs p) = some t) :
    (∃ op r a b, ops = [op] ∧ cs = [r] ∧ trE G cx l = some a ∧ trE G cx r = some b ∧ t = .cmp (cmpOf op) a b) ∨
    (∃ op op' r r' a b c, ops = [op, op'] ∧ cs = [r, r'] ∧ trE G cx l = some a ∧ trE G cx r = some b ∧ trE G cx r' = some c ∧ t = .cmp2 (cmpOf op) (cmpOf op') a b c) := by
  unfold trE at ht
  split at ht
  · rename_i op a b h1 h2
    cases ht
    left
    match cs, h2 with
    | [], h2 => unfold trEs at h2; cases h2
    | r :: rs, h2 =>
      obtain ⟨t, q, e1, e2, e3⟩ := trEs_cons h2
      cases e3
      cases rs with
      | nil => exact ⟨op, r, a, _, rfl, rfl, h1, e1, rfl⟩
      | cons _ _ => obtain ⟨_, _, _, _, e⟩ := trEs_cons e2; cases e
  · rename_i op op' a b c h1 h2
    cases ht
    right
    match cs, h2 with
    | [], h2 => unfold trEs at h2; cases h2
    | r :: rs, h2 =>
      obtain ⟨t, q, e1, e2, e3⟩ := trEs_cons h2
      cases e3
      match rs, e2 with
      | [], e2 => unfold trEs at e2; cases e2
      | r' :: rs', e2 =>
        obtain ⟨t', q', e4, e5, e6⟩ := trEs_cons e2
        cases e6
        cases rs' with
        | nil => exact ⟨op, op', r, r', a, _, _, rfl, rfl, h1, e1, e4, rfl⟩
        | cons _ _ => obtain ⟨_, _, _, _, e⟩ := trEs_cons e5; cases e
  · cases ht

theorem sim_compare {l : Expr} {ops : List CmpOp} {cs : List Expr} {p : Pos} (hl : SimE X C G d hn l) (hc : ∀ e ∈ cs, SimE X C G d hn e) : SimE X C G d hn (.Compare l ops cs p) := by
  intro cx t ht A env ρ s μ σ c F
  rcases tr_compare ht with ⟨op, r, a, b, rfl, rfl, h1, h2, rfl⟩ | ⟨op, op', r, r', a, b, b', rfl, rfl, h1, h2, h3, rfl⟩
  · rw [evE_cmp]
    exact (Sm.go c F (hl cx a h1 A env ρ s μ σ c F) fun _ _ _ _ _ c1 F1 S1 r1 => Sm.go c1 F1 (hc r (by simp) cx b h2 A env ρ _ _ _ c1 F1) fun _ _ _ _ _ c2 F2 S2 r2 => sm_cmp c2 op (S2.vr c1.hr r1) r2).imp fun Q E h => wpAny_Compare1 h (tr_marks h2)
  · rw [evE_cmp2]
    refine (Sm.go c F (hl cx a h1 A env ρ s μ σ c F) fun x _ u _ _ c1 F1 S1 r1 => Sm.go c1 F1 (hc r (by simp) cx b h2 A env ρ _ _ _ c1 F1) fun y _ v _ _ c2 F2 S2 r2 =>
      Sm.go c2 F2 (sm_cmp c2 op (S2.vr c1.hr r1) r2) (P2 := fun k Q E s₂ => wpAny (Mo X) A (truthy k) (fun t s₃ => if t then wpAny (Mo X) A (compareChain p v [op'] [eval r' env]) Q E s₃ else Q k s₃) E s₂) fun z _ k _ _ c3 F3 S3 r3 => ?_).imp
      fun Q E h => Compare_chain (rs := []) (wpAny_mono h (fun _ _ x => chain_link x) fun _ _ x => x) (by show behindInMarks _ _ = false; exact tr_marks h3)
    cases r3 <;> first | exact Sm.stuck | skip
    rename_i b0
    cases b0 with
    | true => exact (Sm.go c3 F3 (hc r' (by simp) cx b' h3 A env ρ _ _ _ c3 F3) fun _ _ _ _ _ c4 F4 S4 r4 => sm_cmp c4 op' (S4.vr c3.hr (S3.vr c2.hr r2)) r4).imp fun Q E h => wpAny_truthy_bool (chain_last h)
    | false => exact Sm.ok fun Q E hQ => wpAny_truthy_bool (hQ _ _ _ (Step.refl c3.hr c3.base) (.bool _))

theorem simT_compare {l : Expr} {ops : List CmpOp} {cs : List Expr} {p : Pos} (hl : SimE X C G d hn l) (hc : ∀ e ∈ cs, SimE X C G d hn e) : SimT X C G d hn (.Compare l ops cs p) := by
  intro cx t ht A env ρ s μ σ c F
  rcases tr_compare ht with ⟨op, r, a, b, rfl, rfl, h1, h2, rfl⟩ | ⟨op, op', r, r', a, b, b', rfl, rfl, h1, h2, h3, rfl⟩
  · rw [evE_cmp]
    simp only [bnd_assoc]
    exact (Sm.go c F (hl cx a h1 A env ρ s μ σ c F) fun _ _ _ _ _ c1 F1 S1 r1 => Sm.go c1 F1 (hc r (by simp) cx b h2 A env ρ _ _ _ c1 F1) fun _ _ _ _ _ c2 F2 S2 r2 =>
      Sm.go c2 F2 (sm_cmp c2 op (S2.vr c1.hr r1) r2) fun _ _ _ _ _ c3 _ _ r3 => sm_truthy c3 r3).imp fun Q E h => wpAny_isTrue_Compare1 h (tr_marks h2)
  · rw [evE_cmp2]
    simp only [bnd_assoc]
    refine (Sm.go c F (hl cx a h1 A env ρ s μ σ c F) fun x _ u _ _ c1 F1 S1 r1 => Sm.go c1 F1 (hc r (by simp) cx b h2 A env ρ _ _ _ c1 F1) fun y _ v _ _ c2 F2 S2 r2 =>
      Sm.go c2 F2 (sm_cmp c2 op (S2.vr c1.hr r1) r2) (P2 := fun k Q E s₂ => wpAny (Mo X) A (truthy k) (fun t s₃ => if t then wpAny (Mo X) A (testChain p v [op'] [eval r' env]) Q E s₃ else Q false s₃) E s₂) fun z _ k _ _ c3 F3 S3 r3 => ?_).imp
      fun Q E h => isTrue_chain (rs := []) (wpAny_mono h (fun _ _ x => test_link x) fun _ _ x => x) (by show behindInMarks _ _ = false; exact tr_marks h3)
    cases r3 <;> first | exact Sm.stuck | skip
    rename_i b0
    cases b0 with
    | true =>
      dsimp only
      rw [bnd_assoc]
      exact (Sm.go c3 F3 (hc r' (by simp) cx b' h3 A env ρ _ _ _ c3 F3) fun _ _ _ _ _ c4 F4 S4 r4 => Sm.go c4 F4 (sm_cmp c4 op' (S4.vr c3.hr (S3.vr c2.hr r2)) r4) fun _ _ _ _ _ c5 _ _ r5 => sm_truthy c5 r5).imp fun Q E h => wpAny_truthy_bool (test_last h)
    | false => exact Sm.ok fun Q E hQ => wpAny_truthy_bool (hQ _ _ _ (Step.refl c3.hr c3.base) rfl)

/-- the arguments -/
theorem sim_args {p : Pos} : ∀ {es : List Expr} (_ : ∀ e ∈ es, SimE X C G d hn e) {cx : Cx} {ts : List E} (_ : trEs G cx es = some ts) {A : Around} {env : PySem.Env} {ρ : Env} {s : Shared} {μ : List Addr} {σ : H} (_ : Cn X A d hn s μ σ) (_ : FR X env cx ρ s.heap μ),
    Sm X (Wp X A (spliced (backTo p (starEach es env)))) (evEs X.ns C ρ ts σ) (Rls X) s μ
  | [], _, cx, ts, ht, A, env, ρ, s, μ, σ, c, F => by
    cases trEs_nil ht
    rw [evEs]
    exact Sm.ok fun Q E hQ => args_nil (hQ _ _ _ (Step.refl c.hr c.base) .nil)
  | e :: es, hs, cx, ts, ht, A, env, ρ, s, μ, σ, c, F => by
    obtain ⟨a, r, h1, h2, rfl⟩ := trEs_cons ht
    rw [evEs]
    exact (Sm.go c F (hs e List.mem_cons_self cx a h1 A env ρ s μ σ c F) fun x _ u _ _ c1 F1 S1 r1 => Sm.go c1 F1 (sim_args (fun e he => hs e (List.mem_cons_of_mem _ he)) h2 c1 F1) (P2 := fun vs Q E s => Q (u :: vs) s) fun xs _ us _ _ c2 F2 S2 r2 =>
      Sm.ok fun Q E hQ => hQ _ _ _ (Step.refl c2.hr c2.base) (.cons (S2.vr c1.hr r1) r2)).imp fun Q E h => args_cons h (tr_star h1 _ _)

theorem sim_list {es : List Expr} {p : Pos} (hs : ∀ e ∈ es, SimE X C G d hn e) : SimE X C G d hn (.List es p) := by
  intro cx t ht A env ρ s μ σ c F
  unfold trE at ht
  cases h1 : trEs G cx es with
  | none => simp [h1] at ht
  | some ts =>
    simp only [h1, Option.map_some, Option.some.injEq] at ht
    subst ht
    rw [evE]
    exact (Sm.go c F (sim_args hs h1 c F) fun _ _ _ _ _ c1 _ _ r => sm_newL c1 r).imp fun Q E h => List_ h
theorem sm_mkT (c : Cn X A d hn s μ σ) {xs : List V} {l : List Value} (r : VRs X s.heap μ xs l) : Sm X (Wp X A (newTuple l)) (mkT xs σ) (Rl X) s μ := by
  unfold mkT
  split
  · rename_i hz
    refine Sm.ok fun Q E hQ => wpAny_newObj_type ?_ (by show l.toArray.size ≤ sizeLine; rw [List.size_toArray, ← r.length]; exact hz)
    have S1 : Step X s μ { s with heap := s.heap.push { cls := .type "tuple", data := .seq l.toArray } } μ σ := Step.push c _ s.toks
    exact hQ _ _ _ S1 (.tup (Heap.get?_push_size _ rfl) (by rw [← r.length]; exact hz) (S1.vrs c.hr r))
  · exact Sm.stuck
theorem sim_tuple {es : List Expr} {k : Nat} {p : Pos} (hs : ∀ e ∈ es, SimE X C G d hn e) : SimE X C G d hn (.Tuple es k p) := by
  intro cx t ht A env ρ s μ σ c F
  unfold trE at ht
  cases h1 : trEs G cx es with
  | none => simp [h1] at ht
  | some ts =>
    simp only [h1, Option.map_some, Option.some.injEq] at ht
    subst ht
    rw [evE]
    exact (Sm.go c F (sim_args hs h1 c F) fun _ _ _ _ _ c1 _ _ r => sm_mkT c1 r).imp fun Q E h => Tuple_ h

noncomputable def isSlice : Expr → Bool
  | .Slice .. => true
  | _ => false
theorem trE_sub {v i : Expr} {p : Pos} (h : isSlice i = false) : trE G cx (.Subscript v i p) = match trE G cx v, trE G cx i with
    | some e, some j => some (.idx e j)
    | _, _ => .none := by
  cases i <;> first | (simp [isSlice] at h; done) | ((conv => lhs; unfold trE) <;> rfl)
theorem sim_sub {v i : Expr} {p : Pos} (hv : SimE X C G d hn v) (hi : SimE X C G d hn i) (hn' : isSlice i = false) : SimE X C G d hn (.Subscript v i p) := by
  intro cx t ht A env ρ s μ σ c F
  have : ∃ a b, trE G cx v = some a ∧ trE G cx i = some b ∧ t = .idx a b := by
    rw [trE_sub hn'] at ht
    cases h1 : trE G cx v with
    | none => simp [h1] at ht
    | some a =>
      cases h2 : trE G cx i with
      | none => simp [h1, h2] at ht
      | some b =>
        simp only [h1, h2, Option.some.injEq] at ht
        exact ⟨a, b, rfl, rfl, ht.symm⟩
  obtain ⟨a, b, h1, h2, rfl⟩ := this
  rw [evE]
  refine (Sm.go c F (hv cx a h1 A env ρ s μ σ c F) fun _ _ u _ _ c1 F1 S1 r1 => Sm.go c1 F1 (hi cx b h2 A env ρ _ _ _ c1 F1) fun _ _ w _ _ c2 F2 S2 r2 => sm_idx c2 (value := v) (slice := i) (S2.vr c1.hr r1) r2 ?_).imp fun Q E h => Subscript_ h
  cases i <;> first | rfl | (simp [isSlice] at hn'; done)

theorem sim_opt {o : Option Expr} (ho : ∀ e, o = some e → SimE X C G d hn e) {cx : Cx} {t : E} (ht : trO G cx o = some t) {A : Around} {env : PySem.Env} {ρ : Env} {s : Shared} {μ : List Addr} {σ : H} (c : Cn X A d hn s μ σ) (F : FR X env cx ρ s.heap μ) :
    Sm X (Wp X A (valueOrNone (evalOpt o env))) (evE X.ns C ρ t σ) (Rl X) s μ := by
  cases o with
  | none =>
    unfold trO at ht; cases ht
    rw [evE]
    exact Sm.ok fun Q E hQ => wpAny_pure (hQ _ _ _ (Step.refl c.hr c.base) .none)
  | some e =>
    unfold trO at ht
    exact ho e rfl cx t ht A env ρ s μ σ c F

theorem sim_slice {v : Expr} {lo hi st : Option Expr} {q p : Pos} (hv : SimE X C G d hn v) (hlo : ∀ e, lo = some e → SimE X C G d hn e) (hhi : ∀ e, hi = some e → SimE X C G d hn e) : SimE X C G d hn (.Subscript v (.Slice lo hi st q) p) := by
  intro cx t ht A env ρ s μ σ c F
  have : ∃ a b b', st = none ∧ trE G cx v = some a ∧ trO G cx lo = some b ∧ trO G cx hi = some b' ∧ t = .slice a b b' := by
    cases st with
    | some e =>
      rw [trE] at ht
      cases ht
    | none =>
      rw [trE] at ht
      cases h1 : trE G cx v with
      | none => simp [h1] at ht
      | some a =>
        cases h2 : trO G cx lo with
        | none => simp [h1, h2] at ht
        | some b =>
          cases h3 : trO G cx hi with
          | none => simp [h1, h2, h3] at ht
          | some b' =>
            simp only [h1, h2, h3, Option.some.injEq] at ht
            exact ⟨a, b, b', rfl, rfl, rfl, rfl, ht.symm⟩
  obtain ⟨a, b, b', rfl, h1, h2, h3, rfl⟩ := this
  rw [evE]
  refine (Sm.go c F (hv cx a h1 A env ρ s μ σ c F) fun _ _ u _ _ c1 F1 S1 r1 => Sm.go c1 F1 (sim_opt hlo h2 c1 F1) fun _ _ vl _ _ c2 F2 S2 r2 => Sm.go c2 F2 (sim_opt hhi h3 c2 F2) fun _ _ vh _ _ c3 F3 S3 r3 =>
    sm_slice c3 (value := v) (lower := lo) (upper := hi) (p := q) (S3.vr c2.hr (S2.vr c1.hr r1)) (S3.vr c2.hr r2) r3).imp fun Q E h => Subscript_ (wpAny_mono h (fun u s₁ h₁ => ?_) fun _ _ x => x)
  show wpAny _ _ (do
    let l ← valueOrNone (evalOpt lo env)
    let u ← holding [l] (valueOrNone (evalOpt hi env))
    let s ← holding [l, u] (valueOrNone (evalOpt none env))
    newFields "slice" [l, u, s]) _ _ _
  exact wpAny_bind (wpAny_mono h₁ (fun l s₂ h₂ => wpAny_bind (wpAny_holding (wpAny_mono h₂ (fun u s₃ h₃ => wpAny_bind (wpAny_holding (wpAny_pure h₃))) fun _ _ x => x))) fun _ _ x => x)
end
end Mine

set_option maxRecDepth 100000
namespace Mine
open PySem PyProof.Rows PySem.Calls

noncomputable def biVal : Bi → Value
  | .len => .builtin "len" | .list => .type "list" | .min2 => .builtin "min" | .all => .builtin "all" | .range => .type "range"
noncomputable def tyVal : Ty → Value
  | .int => .type "int" | .bool => .type "bool" | .str => .type "str"

/-- the module's names -/
structure Nm (X : W) (G : GT) : Prop where
  kin : X.K.In X.h₀
  ns : ∃ mg mb, X.h₀.Ns mainGlobals mg ∧ X.h₀.Ns builtinsNs mb ∧ (∀ x v, G.consts.lookup x = some v → ∃ u, mg x = some u ∧ VR X X.h₀ [] v u) ∧
    (∀ x i, findIx x G.fns 0 = some i → mg x = some (.ref (X.fa i)) ∧ PySem.W.keepIn X.K (.ref (X.fa i)) = true) ∧
    (∀ x n b, findIx x G.fns 0 = none → biOf x n = some b → mg x = none ∧ mb x = some (biVal b)) ∧
    (mg "isinstance" = none ∧ mb "isinstance" = some (.builtin "isinstance")) ∧
    (∀ x t, tyOf x = some t → mg x = none ∧ mb x = some (tyVal t))

/-- what the leaves do -/
structure Leaf (X : W) (G : GT) (C : Calls) (d : Nat) (hn : Bool) : Prop where
  eqn : C.hn = hn
  nm : Nm X G
  call : ∀ (f : Nat) (vs : List V) (us : List Value) (A : Around) (s : Shared) (μ : List Addr) (σ : H), Cn X A d hn s μ σ → VRs X s.heap μ vs us → Sm X (Wp X A (PySem.call (.ref (X.fa f)) us)) (C.call f vs σ) (Rl X) s μ
  bi : ∀ (b : Bi) (vs : List V) (us : List Value) (A : Around) (s : Shared) (μ : List Addr) (σ : H), Cn X A d hn s μ σ → VRs X s.heap μ vs us → Sm X (Wp X A (PySem.call (biVal b) us)) (biV X.ns b vs σ) (Rl X) s μ
  me : ∀ (m : Me) (name : Str) (x : V) (u : Value) (es : List Expr) (p : Pos) (cx : Cx) (ts : List E) (A : Around) (env : PySem.Env) (ρ : Env) (s : Shared) (μ : List Addr) (σ : H), meOf name = some m → Cn X A d hn s μ σ → FR X env cx ρ s.heap μ → VR X s.heap μ x u →
    trEs G cx es = some ts → (∀ (s : Shared) (μ : List Addr) (σ : H), Cn X A d hn s μ σ → FR X env cx ρ s.heap μ → Sm X (Wp X A (spliced (backTo p (starEach es env)))) (evEs X.ns C ρ ts σ) (Rls X) s μ) →
    Sm X (fun Q E s => MethodOnS X.prog X.w A E name u p (backTo p (starEach es env)) Q s) ((meK m x).bnd (fun _ => (evEs X.ns C ρ ts).bnd fun vs => meV x m vs) σ) (Rl X) s μ
  isi : ∀ (t : Ty) (v : V) (u : Value) (A : Around) (s : Shared) (μ : List Addr) (σ : H), Cn X A d hn s μ σ → VR X s.heap μ v u → Sm X (Wp X A (PySem.call (.builtin "isinstance") [u, tyVal t])) (isiV t v σ) (Rl X) s μ

section
variable {X : W} {A : Around} {d : Nat} {hn : Bool} {s : Shared} {μ : List Addr} {σ : H} {env : PySem.Env} {cx : Cx} {ρ : Env} {C : Calls} {G : GT}

theorem Nm.gl (g : Nm X G) : Gl X G := by
  obtain ⟨mg, mb, h1, h2, h3, _⟩ := g.ns
  exact ⟨mg, mb, h1, h2, h3⟩

theorem tr_plain {p : Pos} {env : PySem.Env} : ∀ {es : List Expr} {ts : List E}, trEs G cx es = some ts → (backTo p (starEach es env)).any (·.1) = false
  | [], _, _ => rfl
  | e :: es, ts, h => by
    obtain ⟨a, r, h1, h2, rfl⟩ := trEs_cons h
    rw [tr_star h1]
    show (false || (backTo p (starEach es env)).any (·.1)) = false
    rw [tr_plain h2]; rfl
theorem args_of {f : Value} {p : Pos} {es : List Expr} {ts : List E} (ht : trEs G cx es = some ts) {Q : Args → Shared → Prop} {E : Value → Shared → Prop}
    (h : wpAny (Mo X) A (spliced (backTo p (starEach es env))) (fun vs s' => Q ⟨vs, []⟩ s') E s) : wpAny (Mo X) A (evalArgs f true (backTo p (starEach es env)) []) Q E s := by
  cases es with
  | nil =>
    unfold evalArgs
    show wpAny (Mo X) A (spliced [] >>= _) Q E s
    refine wpAny_bind (wpAny_mono h (fun vs s' h' => ?_) fun _ _ x => x)
    first
      | exact wpAny_holding (wpAny_bind (wpAny_pure (wpAny_bind (wpAny_pure (wpAny_pure h')))))
      | exact wpAny_bind (wpAny_pure (wpAny_holding (wpAny_bind (wpAny_pure (wpAny_bind (wpAny_pure (wpAny_pure h')))))))
  | cons e es =>
    obtain ⟨a, r, h1, h2, rfl⟩ := trEs_cons ht
    rw [tr_star h1] at h ⊢
    exact evalArgs_plain h

/-- a call by what is no def of the text -/
theorem callWith_free {f : Value} {first : List Value} {p : Pos} {es : List Expr} {ts : List E} (ht : trEs G cx es = some ts) (hf : keeperOf f = pure .machine) {Q : Value → Shared → Prop} {E : Value → Shared → Prop}
    (h : wpAny (Mo X) A (spliced (backTo p (starEach es env))) (fun vs s' => wpAny (Mo X) A (PySem.call f (first ++ vs)) Q E s') E s) : wpAny (Mo X) A (callWith p f first (backTo p (starEach es env)) []) Q E s :=
  PySem.W.callWith_of (P := fun _ => True) (by rw [tr_plain ht]; rfl) (fun _ _ => ⟨_, .inr (.inl rfl), PySem.W.Looks.of_pure hf⟩) (args_of ht (wpAny_mono h (fun _ _ x => ⟨trivial, x⟩) fun _ _ x => x))
theorem callWith_own {f : Value} {first : List Value} {p : Pos} {es : List Expr} {ts : List E} (ht : trEs G cx es = some ts) (hf : PySem.W.keepIn X.K f = true) {Q : Value → Shared → Prop} {E : Value → Shared → Prop}
    (h : wpAny (Mo X) A (spliced (backTo p (starEach es env))) (fun vs s' => X.K.In s'.heap ∧ wpAny (Mo X) A (PySem.call f (first ++ vs)) Q E s') E s) : wpAny (Mo X) A (callWith p f first (backTo p (starEach es env)) []) Q E s :=
  PySem.W.callWith_of (P := fun h => X.K.In h) (by rw [tr_plain ht]; rfl) (PySem.W.keeps_K hf) (args_of ht h)
theorem Cn.kin (c : Cn X A d hn s μ σ) (g : Nm X G) : X.K.In s.heap := g.kin.keeps c.base.keep
end
end Mine

set_option maxRecDepth 100000
namespace Mine
open PySem PyProof.Rows PySem.Calls

section
variable {X : W} {A : Around} {d : Nat} {hn : Bool} {s : Shared} {μ : List Addr} {σ : H} {env : PySem.Env} {cx : Cx} {ρ : Env} {C : Calls} {G : GT}

theorem tr_call {f : Str} {q p : Pos} {args : List Expr} {kws : List Keyword} {t : E} (ht : trE G cx (.Call (.Name f q) args kws p) = some t) : kws = [] ∧ cx.glob f = true ∧
    ((f = "isinstance" ∧ ∃ a ty tp e T, args = [a, .Name ty tp] ∧ cx.glob ty = true ∧ trE G cx a = some e ∧ tyOf ty = some T ∧ t = .isi e T) ∨
     (∃ es, trEs G cx args = some es ∧ ((∃ i, findIx f G.fns 0 = some i ∧ t = .call i es) ∨
        (findIx f G.fns 0 = none ∧ ∃ b, biOf f es.length = some b ∧ t = .bi b es)))) := by
  cases kws with
  | cons _ _ => unfold trE at ht; cases ht
  | nil =>
  unfold trE at ht
  dsimp only at ht
  split at ht
  · rename_i hg
    refine ⟨rfl, hg, ?_⟩
    split at ht
    · rename_i hf
      left
      split at ht
      · rename_i a b
        split at ht
        · rename_i ty tp
          split at ht
          · rename_i h1
            cases h2 : trE G cx a with
            | none => simp [h2] at ht
            | some e =>
              cases h3 : tyOf ty with
              | none => simp [h2, h3] at ht
              | some T =>
                simp only [h2, h3] at ht
                cases ht
                exact ⟨hf, a, ty, tp, e, T, rfl, h1, h2, h3, rfl⟩
          · cases ht
        · cases ht
      · cases ht
    · right
      split at ht
      · cases ht
      · rename_i es h1
        refine ⟨es, h1, ?_⟩
        split at ht
        · rename_i i h2; cases ht; exact .inl ⟨i, h2, rfl⟩
        · rename_i h2
          cases h4 : biOf f es.length with
          | none => rw [h4] at ht; cases ht
          | some b =>
            rw [h4] at ht
            cases ht; exact .inr ⟨h2, b, rfl, rfl⟩
  · cases ht

theorem base_eq {o : Expr} (h : plainBase o = true) (m : Str) (env : PySem.Env) (whole : Sem Value) : attributeBase o m env whole = whole := by
  unfold attributeBase
  split
  · rename_i id p pos
    simp only [plainBase, ne_eq, decide_eq_true_eq] at h
    have : (id != ("super" : Str)) = true := by simpa using h
    simp only [this, Bool.true_or, if_true]
  · rfl

theorem evE_me (ρ : Env) (o : E) (m : Me) (es : List E) : evE X.ns C ρ (.me o m es) = (evE X.ns C ρ o).bnd fun x => (meK m x).bnd fun _ => (evEs X.ns C ρ es).bnd fun vs => meV x m vs := by rw [evE]

theorem sim_method (L : Leaf X G C d hn) {o : Expr} {m : Str} {ap p : Pos} {args : List Expr} {kws : List Keyword} (ho : SimE X C G d hn o) (ha : ∀ e ∈ args, SimE X C G d hn e) : SimE X C G d hn (.Call (.Attribute o m ap) args kws p) := by
  intro cx t ht A env ρ s μ σ c F
  cases kws with
  | cons _ _ => unfold trE at ht; cases ht
  | nil =>
    unfold trE at ht
    dsimp only at ht
    split at ht
    · rename_i hp
      simp only [Bool.and_eq_true, decide_eq_true_eq] at hp
      obtain ⟨⟨hb, hl⟩, hlen⟩ := hp
      cases h1 : trE G cx o with
      | none => simp [h1] at ht
      | some a =>
        cases h2 : trEs G cx args with
        | none => simp [h1, h2] at ht
        | some es =>
          simp only [h1, h2] at ht
          cases h3 : meOf m with
          | none => rw [h3] at ht; cases ht
          | some me =>
            rw [h3] at ht
            cases ht
            rw [evE_me]
            refine (Sm.go c F (ho cx a h1 A env ρ s μ σ c F) fun x σ₁ u s₁ μ₁ c1 F1 _ r => L.me me m x u args p cx es A env ρ s₁ μ₁ σ₁ h3 c1 F1 r h2 fun s μ σ c F => sim_args ha h2 c F).imp fun Q E h => wpAny_Call_method_lateS (base_eq hb _ _ _) ?_ (by simpa using hl) h
            have hall : (backTo p (starEach args env)).all (fun x => !x.1) = true := by
              rw [List.all_eq_true]
              intro x hx
              have := tr_plain (p := p) (env := env) h2
              rw [List.any_eq_false] at this
              simpa using this x hx
            rw [hall]
            show (true && (true && decide (args.length + 0 + 0 < 30))) = true
            simp; omega
    · cases ht
end
end Mine

set_option maxRecDepth 100000
namespace Mine
open PySem PyProof.Rows PySem.Calls

/-- only the places of `own` have changed -/
structure Move (own : List Addr) (s s' : Shared) : Prop where
  keep : ∀ b o, b ∉ own → s.heap.get? b = some o → s'.heap.get? b = some o
  size : s.heap.objs.size ≤ s'.heap.objs.size
  gens : s'.gens = s.gens
  os : s'.os = s.os

/-- an iterator's object -/
noncomputable def PrivAt (h : Heap) (b : Addr) : Prop := ∃ o n fs, h.get? b = some o ∧ o.cls = .type n ∧ n ≠ "tuple" ∧ n ≠ "list" ∧ n ≠ "dict" ∧ o.data = .fields fs

section
variable {X : W} {A : Around} {d : Nat} {hn : Bool} {s s' s₀ : Shared} {μ μ' μ₀ : List Addr} {σ σ' σ₀ : H} {env : PySem.Env} {cx : Cx} {ρ : Env} {own : List Addr}

/-- no value and no list leans on it -/
noncomputable def Soft (h : Heap) (μ : List Addr) (b : Addr) : Prop := b ∉ μ ∧ ∀ o, h.get? b = some o → ¬ Solid o
theorem PrivAt.off {h : Heap} {b : Addr} (p : PrivAt h b) (R : HR X μ σ h) : b ∉ μ := by
  obtain ⟨o, n, fs, e, hc, _, h2, h3, _⟩ := p
  exact R.offC e (by rw [hc]; simpa using h2) (by rw [hc]; simpa using h3)
theorem PrivAt.soft {h : Heap} {b : Addr} {o : Obj} (p : PrivAt h b) (e : h.get? b = some o) : ¬ Solid o := by
  obtain ⟨o', n, fs, e', hc, h1, _, _, _⟩ := p
  rw [e] at e'; cases e'
  intro hS
  rcases hS.1 with q | ⟨c, q⟩
  · rw [hc] at q; simp at q; exact h1 q
  · rw [hc] at q; cases q
theorem PrivAt.notDict {h : Heap} {b : Addr} {o : Obj} (p : PrivAt h b) (e : h.get? b = some o) : ∀ es n, o.data ≠ .dict es n := by
  obtain ⟨o', n, fs, e', _, _, _, _, hd⟩ := p
  rw [e] at e'; cases e'
  intro es n q; rw [hd] at q; cases q
theorem PrivAt.lt {h : Heap} {b : Addr} (p : PrivAt h b) : b < h.objs.size := let ⟨_, _, _, e, _⟩ := p; Heap.lt_size e

theorem Move.solid (m : Move own s s') (hp : ∀ b ∈ own, Soft s.heap μ b) : ∀ a o, s.heap.get? a = some o → Solid o → s'.heap.get? a = some o := fun a o e hS => m.keep a o (fun hm => (hp a hm).2 o e hS) e
theorem Move.vrs (m : Move own s s') (hp : ∀ b ∈ own, Soft s.heap μ b) {v : List V} {u : List Value} (r : VRs X s.heap μ v u) : VRs X s'.heap μ v u := r.mono (m.solid hp) fun _ _ e => e
theorem Move.vr (m : Move own s s') (hp : ∀ b ∈ own, Soft s.heap μ b) {v : V} {u : Value} (r : VR X s.heap μ v u) : VR X s'.heap μ v u := r.mono (m.solid hp) fun _ _ e => e
theorem Move.hr (m : Move own s s') (hp : ∀ b ∈ own, Soft s.heap μ b) (R : HR X μ σ s.heap) : HR X μ σ s'.heap where
  len := R.len
  nodup := R.nodup
  fresh := R.fresh
  obj := fun i o a e1 e2 => (R.obj i o a e1 e2).mono (m.solid hp) (fun _ _ e => e) fun x e => m.keep a x (fun hm => (hp a hm).1 (List.mem_of_getElem? e2)) e
/-- the way so far, and a change to what is newer than its beginning -/
theorem Step.move (S : Step X s₀ μ₀ s μ σ) (m : Move own s s') (hp : ∀ b ∈ own, Soft s.heap μ b) (hnew : ∀ b ∈ own, s₀.heap.objs.size ≤ b) (hB : Base X s₀.heap) : Step X s₀ μ₀ s' μ σ where
  hr := m.hr hp S.hr
  keep := fun b o hb e => by
    obtain ⟨sl, e1, q⟩ := S.keep b o hb e
    refine ⟨sl, m.keep b _ (fun hm => ?_) e1, q⟩
    exact absurd (Heap.lt_size e) (Nat.not_lt.mpr (hnew b hm))
  base := ⟨fun b o e => m.keep b o (fun hm => absurd (Heap.lt_size (hB.keep b o e)) (Nat.not_lt.mpr (hnew b hm))) (S.base.keep b o e), Nat.le_trans S.base.size m.size, S.base.low⟩
  size := Nat.le_trans S.size m.size
  ext := S.ext
  gens := m.gens.trans S.gens
  os := m.os.trans S.os

theorem PrivAt.isSoft {h : Heap} {b : Addr} (p : PrivAt h b) (R : HR X μ σ h) : Soft h μ b := ⟨p.off R, fun _ e => p.soft e⟩
theorem FR.move (F : FR X env cx ρ s.heap μ) (R : HR X μ σ s.heap) (m : Move own s s') (hp : ∀ b ∈ own, PrivAt s.heap b) : FR X env cx ρ s'.heap μ where
  kind := F.kind
  globals := F.globals
  builtins := F.builtins
  names := F.names
  ns := by
    obtain ⟨mm, n, h⟩ := F.ns
    refine ⟨mm, ?_, fun x k v h1 h2 h3 => let ⟨u, a, b⟩ := h x k v h1 h2 h3; ⟨u, a, m.vr (fun b hb => (hp b hb).isSoft R) b⟩⟩
    obtain ⟨o, es, ep, e, hd, r⟩ := n
    exact ⟨o, es, ep, m.keep _ _ (fun hm => (hp _ hm).notDict e es ep hd) e, hd, r⟩
  cell := fun x k h1 h2 => by
    obtain ⟨c, u, a, b, dd⟩ := F.cell x k h1 h2
    obtain ⟨o, e, hd⟩ := b
    refine ⟨c, u, a, ⟨o, m.keep _ _ (fun hm => ?_) e, hd⟩, fun v hv => let ⟨y, p, q⟩ := dd v hv; ⟨y, p, m.vr (fun b hb => (hp b hb).isSoft R) q⟩⟩
    obtain ⟨o', _, fs, e', _, _, _, _, hd'⟩ := hp _ hm
    rw [e] at e'; cases e'
    rw [hd] at hd'; cases hd'
  cells := F.cells
  apart := F.apart
  offL := F.offL
  offC := fun x c h => ⟨(F.offC x c h).1, (F.offC x c h).2.1, Nat.lt_of_lt_of_le (F.offC x c h).2.2 m.size⟩
  slots := F.slots
  bound := F.bound
  len := F.len

end

/-- an iterator under way -/
inductive JR (X : W) (h : Heap) (μ : List Addr) : It → Addr → List Addr → Prop
  | list {l i : Nat} {a J : Addr} : μ[l]? = some a → h.IsListIter J a i → JR X h μ (.list l i) J [J]
  | range {i n : Nat} {J : Addr} : i ≤ n → IsRangeIter h J i ((n : Int) - i) 1 → JR X h μ (.range i n) J [J]
  | str {x : Str} {t : Tok} {i : Nat} {J : Addr} {ty : String} : i ≤ x.cps.size → x.length ≤ lim → (ty = "str_ascii_iterator" ∨ ty = "str_iterator") → h.IsStrIter J ty x t i → JR X h μ (.seq (((codes x).drop i).map fun c => V.str [c])) J [J]

section
variable {X : W} {A : Around} {d : Nat} {hn : Bool} {s s' s₀ : Shared} {μ μ' μ₀ : List Addr} {σ σ' σ₀ : H} {env : PySem.Env} {cx : Cx} {ρ : Env} {own : List Addr} {it : It} {J : Addr}

theorem JR.priv {h : Heap} (j : JR X h μ it J own) : ∀ b ∈ own, PrivAt h b := by
  cases j with
  | list _ e =>
    intro b hb; rw [List.mem_singleton.mp hb]
    obtain ⟨o, e, hc, hd⟩ := e
    exact ⟨o, _, _, e, hc, by decide, by decide, by decide, hd⟩
  | range _ e =>
    intro b hb; rw [List.mem_singleton.mp hb]
    exact ⟨_, _, _, e, rfl, by decide, by decide, by decide, rfl⟩
  | str _ _ ht e =>
    intro b hb; rw [List.mem_singleton.mp hb]
    obtain ⟨o, e, hc, hd⟩ := e
    refine ⟨o, _, _, e, hc, ?_, ?_, ?_, hd⟩ <;> rcases ht with rfl | rfl <;> decide
theorem JR.mem {h : Heap} (j : JR X h μ it J own) : J ∈ own := by cases j <;> exact List.mem_cons_self
theorem JR.keeps {h h' : Heap} (j : JR X h μ it J own) (k : ∀ b ∈ own, ∀ o, h.get? b = some o → h'.get? b = some o) (hμ : ∀ (i : Nat) (a : Addr), μ[i]? = some a → μ'[i]? = some a) : JR X h' μ' it J own := by
  cases j with
  | list hl e => obtain ⟨o, e, r⟩ := e; exact .list (hμ _ _ hl) ⟨o, k _ List.mem_cons_self _ e, r⟩
  | range hi e => exact .range hi (k _ List.mem_cons_self _ e)
  | str hi hz ht e => obtain ⟨o, e, r⟩ := e; exact .str hi hz ht ⟨o, k _ List.mem_cons_self _ e, r⟩
theorem JR.step (j : JR X s.heap μ it J own) (R : HR X μ σ s.heap) (S : Step X s μ s' μ' σ') : JR X s'.heap μ' it J own :=
  j.keeps (fun b hb o e => S.keep.at ((j.priv b hb).off R) e ((j.priv b hb).notDict e)) S.get

noncomputable def ItRel (X : W) (s : Shared) (μ : List Addr) (J : Addr) (own : List Addr) (r : Option (V × It)) (q : Option Value) (s' : Shared) : Prop := Move own s s' ∧ match r, q with
  | none, none => True
  | some (v, it'), some u => VR X s'.heap μ v u ∧ JR X s'.heap μ it' J own
  | _, _ => False

theorem codes_at {x : Str} {i : Nat} : (codes x)[i]? = x.cps[i]? := by simp [codes]

/-- the next one -/
theorem sm_next (c : Cn X A d true s μ σ) (j : JR X s.heap μ it J own) {r : Option (V × It)} (hr : nextIt it σ = some r) {Q : Option Value → Shared → Prop} {E : Value → Shared → Prop} (h : ∀ q s', ItRel X s μ J own r q s' → Q q s') :
    wpAny (Mo X) A (pyNext (.ref J)) Q E s := by
  have hh : A.handled = none := c.rm.handled rfl
  refine sized ?_
  cases j with
  | @list l i a _ hl e =>
    unfold nextIt at hr
    cases ho : σ[l]? with
    | none => simp [ho] at hr
    | some o =>
      cases o with
      | list xs =>
        simp only [ho] at hr
        obtain ⟨vs, n, e', r', hz⟩ := c.list ho hl
        have L : s.heap.IsList a vs.toArray := ⟨_, e', rfl, _, rfl⟩
        cases hx : xs[i]? with
        | none =>
          simp only [hx, Option.some.injEq] at hr
          subst hr
          have hv : vs.toArray[i]? = none := by
            rw [List.getElem?_toArray]
            refine List.getElem?_eq_none ?_
            rw [← r'.length]; exact List.getElem?_eq_none_iff.mp hx
          exact wpAny_pyNext_list_end hh e L hv fun h' he hs => h _ _ ⟨⟨fun b o hb e => he b o (fun q => hb (by simp [q])) e, hs, rfl, rfl⟩, trivial⟩
        | some v =>
          simp only [hx, Option.some.injEq] at hr
          subst hr
          obtain ⟨u, hu, ru⟩ := r'.get hx
          refine wpAny_pyNext_list_item e L (x := u) (by simpa using hu) fun h' hit hs hz' => ?_
          have M : Move [J] s { s with heap := h' } := ⟨fun b o hb e => (hs.2 b fun q => hb (by simp [q])).trans e, hz', rfl, rfl⟩
          exact h _ _ ⟨M, M.vr (fun b hb => (JR.priv (X := X) (μ := μ) (.list hl e) b hb).isSoft c.hr) ru, .list hl hit⟩
  | @range i n _ hi e =>
    replace hr : (if i < n then some (some (V.int i, It.range (i + 1) n)) else some none) = some r := hr
    split at hr
    · rename_i hlt
      cases hr
      refine wpAny_pyNext_range_item e (by omega) fun h' hit hs hz' => ?_
      have M : Move [J] s { s with heap := h', toks := s.toks + 1 } := ⟨fun b o hb e => (hs.2 b fun q => hb (by simp [q])).trans e, hz', rfl, rfl⟩
      refine h _ _ ⟨M, .int _ _, .range hlt ?_⟩
      have e2 : (n : Int) - ((i + 1 : Nat) : Int) = (n : Int) - (i : Int) - 1 := by push_cast; omega
      have e1 : ((i + 1 : Nat) : Int) = (i : Int) + 1 := by push_cast; rfl
      rw [e1, show (n : Int) - ((i : Int) + 1) = (n : Int) - (i : Int) - 1 by omega]; exact hit
    · cases hr
      exact wpAny_pyNext_range_end hh e (by omega) fun h' he hs => h _ _ ⟨⟨fun b o hb e => he b o (fun q => hb (by simp [q])) e, hs, rfl, rfl⟩, trivial⟩
  | @str x t i _ ty hi hz ht e =>
    cases hx : x.cps[i]? with
    | none =>
      have hd : (codes x).drop i = [] := by
        refine List.drop_of_length_le ?_
        rw [codes_length]
        simpa [Str.length] using hx
      rw [hd] at hr
      replace hr : some none = some r := hr
      cases hr
      rcases ht with rfl | rfl
      · exact wpAny_pyNext_ascii_end hh e (by simpa using hx) fun h' he hs => h _ _ ⟨⟨fun b o hb e => he b o (fun q => hb (by simp [q])) e, hs, rfl, rfl⟩, trivial⟩
      · exact wpAny_pyNext_wide_end hh e (by simpa using hx) fun h' he hs => h _ _ ⟨⟨fun b o hb e => he b o (fun q => hb (by simp [q])) e, hs, rfl, rfl⟩, trivial⟩
    | some k =>
      have hlt : i < (codes x).length := by
        have := (Array.getElem?_eq_some_iff.mp hx).1
        rw [codes_length]; exact this
      have hk : (codes x)[i] = k := by
        have := codes_at (x := x) (i := i)
        rw [hx, List.getElem?_eq_getElem hlt] at this
        exact Option.some.inj this
      rw [List.drop_eq_getElem_cons hlt, hk] at hr
      replace hr : some (some (V.str [k], It.seq (((codes x).drop (i + 1)).map fun c => V.str [c]))) = some r := hr
      cases hr
      have go : ∀ h', h'.IsStrIter J ty x t (i + 1) → Heap.SameBut J s.heap h' → s.heap.objs.size ≤ h'.objs.size → Q (some (.str ⟨#[k]⟩ s.toks)) { s with heap := h', toks := s.toks + 1 } := fun h' hit hs hz' => by
        have M : Move [J] s { s with heap := h', toks := s.toks + 1 } := ⟨fun b o hb e => (hs.2 b fun q => hb (by simp [q])).trans e, hz', rfl, rfl⟩
        refine h _ _ ⟨M, ?_, .str (by rw [codes_length] at hlt; exact hlt) hz ht hit⟩
        have := VR.str (X := X) (h := h') (μ := μ) ⟨#[k]⟩ s.toks (by show 1 ≤ lim; decide)
        exact this
      rcases ht with rfl | rfl
      · exact wpAny_pyNext_ascii_item e (c := k) (by simpa using hx) fun h' hit hs hz' => go h' hit hs hz'
      · exact wpAny_pyNext_wide_item e (c := k) (by simpa using hx) fun h' hit hs hz' => go h' hit hs hz'
end
end Mine

set_option maxRecDepth 100000
namespace Mine
open PySem PyProof.Rows PySem.Calls

/-- a value that can be gone through -/
inductive IR (X : W) (n₀ : Nat) (h : Heap) (μ : List Addr) : It → Value → Prop
  | list {l : Nat} {a : Addr} {items : Array Value} : μ[l]? = some a → h.IsList a items → IR X n₀ h μ (.list l 0) (.ref a)
  | range {a : Addr} {k : Int} {t u v : Tok} : -4611686018427387904 < k → k < 4611686018427387904 → IsRange h a 0 k 1 t u v → IR X n₀ h μ (.range 0 k.toNat) (.ref a)
  | str (x : Str) (t : Tok) : x.length ≤ lim → IR X n₀ h μ (.seq ((codes x).map fun c => V.str [c])) (.str x t)

section
variable {X : W} {A : Around} {d : Nat} {hn : Bool} {s s' s₀ : Shared} {μ μ' μ₀ : List Addr} {σ σ' σ₀ : H} {env : PySem.Env} {cx : Cx} {ρ : Env} {own : List Addr} {it : It} {J : Addr} {C : Calls} {G : GT} {n₀ : Nat}

theorem sm_iter (c : Cn X A d hn s μ σ) (hn0 : n₀ ≤ s.heap.objs.size) {u : Value} (i : IR X n₀ s.heap μ it u) {Q : Value → Shared → Prop} {E : Value → Shared → Prop}
    (h : ∀ J own s', JR X s'.heap μ it J own → Step X s μ s' μ σ → (∀ b ∈ own, n₀ ≤ b) → Q (.ref J) s') : wpAny (Mo X) A (pyIter u) Q E s := by
  cases i with
  | @list l a items hl L =>
    refine wpAny_pyIter_list L (h _ [s.heap.objs.size] _ (.list hl ⟨_, Heap.get?_push_size _ rfl, rfl, rfl⟩) (Step.push c _ s.toks) fun b hb => ?_)
    rw [List.mem_singleton.mp hb]; exact hn0
  | @range a k t u v h1 h2 r =>
    have hs : Builtin.Range.small 0 k 1 = true := by
      have e : Builtin.Range.rangeSize 0 k 1 = if 0 < k then k else 0 := by
        unfold Builtin.Range.rangeSize
        by_cases hk : 0 < k
        · simp [hk]
        · simp [hk]
      unfold Builtin.Range.small
      rw [e]
      by_cases hk : 0 < k <;> simp [hk, Builtin.Range.rangeFitsLong] <;> omega
    have e : Builtin.Range.rangeSize 0 k 1 = (k.toNat : Int) := by
      unfold Builtin.Range.rangeSize
      by_cases hk : 0 < k
      · simp [hk]; omega
      · simp [hk]; omega
    refine wpAny_pyIter_range r hs (h _ [s.heap.objs.size] _ (.range (Nat.zero_le _) ?_) (Step.push c _ s.toks) fun b hb => ?_)
    · rw [e]
      have : IsRangeIter (s.heap.push { cls := .type "range_iterator", data := .fields #[rawInt 0, rawInt (k.toNat : Int), rawInt 1] }) s.heap.objs.size 0 (k.toNat : Int) 1 := Heap.get?_push_size _ rfl
      simpa using this
    · rw [List.mem_singleton.mp hb]; exact hn0
  | str x t hz =>
    cases ha : x.cps.all (· < 128)
    · refine wpAny_pyIter_wide ha (h _ [s.heap.objs.size] _ ?_ (Step.push c _ s.toks) fun b hb => ?_)
      · exact JR.str (i := 0) (ty := "str_iterator") (Nat.zero_le _) hz (.inr rfl) ⟨_, Heap.get?_push_size _ rfl, rfl, rfl⟩
      · rw [List.mem_singleton.mp hb]; exact hn0
    · refine wpAny_pyIter_ascii ha (h _ [s.heap.objs.size] _ ?_ (Step.push c _ s.toks) fun b hb => ?_)
      · exact JR.str (i := 0) (ty := "str_ascii_iterator") (Nat.zero_le _) hz (.inl rfl) ⟨_, Heap.get?_push_size _ rfl, rfl, rfl⟩
      · rw [List.mem_singleton.mp hb]; exact hn0

noncomputable def SimI (X : W) (C : Calls) (G : GT) (d : Nat) (hn : Bool) (e : Expr) : Prop :=
  ∀ (cx : Cx) (t : E), trE G cx e = some t → ∀ (A : Around) (env : PySem.Env) (ρ : Env) (s : Shared) (μ : List Addr) (σ : H), Cn X A d hn s μ σ → FR X env cx ρ s.heap μ →
    Sm X (Wp X A (eval e env)) (evSrc X.ns C ρ (srcOf t) σ) (fun h μ p u => IR X s.heap.objs.size h μ p.1 u) s μ

theorem simI_at {e : Expr} (he : SimE X C G d hn e) {cx : Cx} {t : E} (ht : trE G cx e = some t) (hs : srcOf t = .of t) (A : Around) (env : PySem.Env) (ρ : Env) (s : Shared) (μ : List Addr) (σ : H) (c : Cn X A d hn s μ σ) (F : FR X env cx ρ s.heap μ) :
    Sm X (Wp X A (eval e env)) (evSrc X.ns C ρ (srcOf t) σ) (fun h μ p u => IR X s.heap.objs.size h μ p.1 u) s μ := by
  rw [hs, evSrc]
  refine (Sm.go c F (he cx t ht A env ρ s μ σ c F) (P2 := fun u Q E s => Q u s) fun v σ₁ u s₁ μ₁ c1 F1 S1 r => ?_)
  cases hi : itOf v σ₁ with
  | none => exact Sm.stuck
  | some p =>
    refine Sm.ok fun Q E hQ => hQ _ _ _ (Step.refl c1.hr c1.base) ?_
    cases r <;> simp only [itOf, reduceCtorEq, Option.some.injEq] at hi
    · rename_i x t z
      subst hi
      rw [codes_length] 
      exact .str x t z
    · rename_i i a hm
      cases ho : σ₁[i]? with
      | none => simp [ho] at hi
      | some o =>
        cases o with
        | list xs =>
          simp only [ho, Option.some.injEq] at hi
          subst hi
          obtain ⟨l, n, e, _, _⟩ := c1.list ho hm
          exact .list hm ⟨_, e, rfl, _, rfl⟩

theorem simI_of {e : Expr} (he : SimE X C G d hn e) (hs : ∀ cx t, trE G cx e = some t → srcOf t = .of t) : SimI X C G d hn e :=
  fun cx t ht A env ρ s μ σ c F => simI_at he ht (hs cx t ht) A env ρ s μ σ c F

/-- a call of what the machine brings -/
theorem call_bi (L : Leaf X G C d hn) (c : Cn X A d hn s μ σ) (F : FR X env cx ρ s.heap μ) {f : Str} {q p : Pos} {args : List Expr} {es : List E} {b : Bi} {n : Nat} (hg : cx.glob f = true) (h1 : findIx f G.fns 0 = none) (hb : biOf f n = some b)
    (ht : trEs G cx args = some es) {Q : Value → Shared → Prop} {E : Value → Shared → Prop} (h : wpAny (Mo X) A (spliced (backTo p (starEach args env))) (fun vs s' => wpAny (Mo X) A (PySem.call (biVal b) vs) Q E s') E s) :
    wpAny (Mo X) A (eval (.Call (.Name f q) args [] p) env) Q E s := by
  obtain ⟨mg, mb, n1, n2, _, _, hbi, _⟩ := L.nm.ns
  obtain ⟨e1, e2⟩ := hbi f n b h1 hb
  refine Call_ (sim_builtin c F n1 n2 hg e1 e2 (callWith_free ht (by cases b <;> rfl) ?_))
  simpa using h

theorem evE_call (ρ : Env) (f : Nat) (es : List E) : evE X.ns C ρ (.call f es) = (evEs X.ns C ρ es).bnd fun vs => C.call f vs := by rw [evE]
theorem evE_bi (ρ : Env) (b : Bi) (es : List E) : evE X.ns C ρ (.bi b es) = (evEs X.ns C ρ es).bnd fun vs => fun σ => if C.hn then biV X.ns b vs σ else .stuck := by rw [evE]
theorem evE_isi (ρ : Env) (e : E) (t : Ty) : evE X.ns C ρ (.isi e t) = (evE X.ns C ρ e).bnd fun x => isiV t x := by rw [evE]

theorem sim_call (L : Leaf X G C d hn) {f : Str} {q p : Pos} {args : List Expr} {kws : List Keyword} (ha : ∀ e ∈ args, SimE X C G d hn e) : SimE X C G d hn (.Call (.Name f q) args kws p) := by
  intro cx t ht A env ρ s μ σ c F
  obtain ⟨rfl, hg, h⟩ := tr_call ht
  obtain ⟨mg, mb, n1, n2, _, hfns, hbi, hisi, hty⟩ := L.nm.ns
  rcases h with ⟨rfl, a, ty, tp, e, T, rfl, hgt, h1, h2, rfl⟩ | ⟨es, h1, h2⟩
  · rw [evE_isi]
    refine (Sm.go c F (ha a (by simp) cx e h1 A env ρ s μ σ c F) (P2 := fun u Q E s₁ => wpAny (Mo X) A (eval (.Name ty tp) env) (fun w s₂ => wpAny (Mo X) A (PySem.call (.builtin "isinstance") [u, w]) Q E s₂) E s₁) fun x σ₁ u s₁ μ₁ c1 F1 S1 r => ?_).imp fun Q E h => ?_
    · refine (L.isi T x u A s₁ μ₁ σ₁ c1 r).imp fun Q E h => ?_
      obtain ⟨e1, e2⟩ := hty ty T h2
      exact sim_builtin c1 F1 n1 n2 hgt e1 e2 h
    · refine Call_ (sim_builtin c F n1 n2 hg hisi.1 hisi.2 ?_)
      refine PySem.W.callWith_of (P := fun _ => True) ?_ (fun _ _ => ⟨_, .inr (.inl rfl), PySem.W.Looks.of_pure rfl⟩) ?_
      · rw [tr_star h1]; rfl
      · rw [tr_star h1]
        refine evalArgs_plain (spliced_cons (wpAny_mono h (fun u s₁ h₁ => ?_) fun _ _ x => x))
        exact spliced_cons (wpAny_mono h₁ (fun w s₂ h₂ => spliced_nil ⟨trivial, h₂⟩) fun _ _ x => x)
  · rcases h2 with ⟨i, h3, rfl⟩ | ⟨h3, b, h5, rfl⟩
    · rw [evE_call]
      obtain ⟨e1, e2⟩ := hfns f i h3
      refine (Sm.go c F (sim_args (p := p) ha h1 c F) (P2 := fun us Q E s₁ => X.K.In s₁.heap ∧ wpAny (Mo X) A (PySem.call (.ref (X.fa i)) ([] ++ us)) Q E s₁) fun vs σ₁ us s₁ μ₁ c1 F1 S1 r => (L.call i vs us A s₁ μ₁ σ₁ c1 r).imp fun Q E h => ⟨c1.kin L.nm, h⟩).imp fun Q E h => ?_
      exact Call_ (sim_global c F n1 hg e1 (callWith_own h1 e2 h))
    · rw [evE_bi]
      refine (Sm.go c F (sim_args (p := p) ha h1 c F) fun vs σ₁ us s₁ μ₁ c1 F1 S1 r => ?_).imp fun Q E h => call_bi L c F hg h3 h5 h1 h
      split
      · exact L.bi b vs us A s₁ μ₁ σ₁ c1 r
      · exact Sm.stuck
end
end Mine

set_option maxRecDepth 100000
namespace Mine
open PySem PyProof.Rows PySem.Calls

section
variable {X : W} {A : Around} {d : Nat} {hn : Bool} {s s' s₀ : Shared} {μ μ' μ₀ : List Addr} {σ σ' σ₀ : H} {env : PySem.Env} {cx cx' : Cx} {ρ : Env} {own : List Addr} {it : It} {J : Addr} {C : Calls} {G : GT} {n₀ : Nat}

theorem relabel_names (scope : Scope) (F : FR X env cx ρ s.heap μ) : (PySem.relabel scope env).names = Mine.relabel cx.kinds scope.names := by
  show (scope.names.map fun (n, k) => if (k == NameKind.free && env.scope.kind == ScopeKind.function && env.kindOf n == some NameKind.cell) then (n, NameKind.cell) else (n, k)) = _
  generalize scope.names = l
  induction l with
  | nil => rfl
  | cons p r ih =>
    obtain ⟨n, k⟩ := p
    rw [List.map_cons, ih]
    rw [show Mine.relabel cx.kinds ((n, k) :: r) = (n, if k = .free ∧ cx.kinds.lookup n = some .cell then .cell else k) :: Mine.relabel cx.kinds r from rfl]
    congr 1
    have hk : env.scope.kind = .function := F.kind
    have hn : env.kindOf n = cx.kinds.lookup n := F.kindOf
    by_cases h : k = .free ∧ cx.kinds.lookup n = some .cell
    · rw [if_pos h]
      simp [h.1, hk, hn, h.2]
    · rw [if_neg h]
      have : (k == NameKind.free && env.scope.kind == ScopeKind.function && env.kindOf n == some NameKind.cell) = false := by
        rw [hk, hn]
        cases hq : (k == NameKind.free && ScopeKind.function == ScopeKind.function && List.lookup n cx.kinds == some NameKind.cell) with
        | false => rfl
        | true =>
          simp only [Bool.and_eq_true, beq_iff_eq] at hq
          exact absurd ⟨hq.1.1, hq.2⟩ h
      dsimp only
      rw [this]; rfl

noncomputable def freeOf (env : PySem.Env) : List (Str × NameKind) → List (Str × Addr) → List (Str × Addr)
  | [], acc => acc
  | (n, k) :: r, acc => if k = .free then freeOf env r ((n, (env.cells.lookup n).getD 0) :: acc) else freeOf env r acc
theorem closure_eq {scope : Scope} (h : ∀ n k, (n, k) ∈ scope.names → k = .free → (env.cells.lookup n).isSome = true) : closureFor scope env = pure (freeOf env scope.names []) := by
  unfold closureFor
  have : ∀ (l : List (Str × NameKind)) (acc : List (Str × Addr)), (∀ n k, (n, k) ∈ l → k = .free → (env.cells.lookup n).isSome = true) →
      (forIn l acc fun x (cs : List (Str × Addr)) => (match x with | (name, kind) => do
        if (kind == NameKind.free) = true then do let a ← cellOf env name; pure (ForInStep.yield ((name, a) :: cs)) else pure (ForInStep.yield cs) : Sem (ForInStep (List (Str × Addr))))) = pure (freeOf env l acc) := by
    intro l
    induction l with
    | nil => intro acc _; rfl
    | cons p r ih =>
      intro acc hl
      obtain ⟨n, k⟩ := p
      rw [List.forIn_cons]
      unfold freeOf
      by_cases hk : k = .free
      · subst hk
        obtain ⟨a, ha⟩ := Option.isSome_iff_exists.mp (hl n .free List.mem_cons_self rfl)
        have hc : cellOf env n = pure a := by unfold cellOf; rw [ha]
        simp only [beq_self_eq_true, if_true, hc, ha, Option.getD_some]
        rw [pure_bind, pure_bind]
        exact ih _ fun n k hm => hl n k (List.mem_cons_of_mem _ hm)
      · have : (k == NameKind.free) = false := by simpa using hk
        simp only [this, Bool.false_eq_true, if_false, if_neg hk]
        rw [pure_bind]
        exact ih _ fun n k hm => hl n k (List.mem_cons_of_mem _ hm)
  have := this scope.names [] h
  simp only [this]
  rfl

theorem freeOf_lookup (env : PySem.Env) : ∀ (l : List (Str × NameKind)) (acc : List (Str × Addr)) (x : Str) (c : Addr), (freeOf env l acc).lookup x = some c → acc.lookup x = some c ∨ ((x, NameKind.free) ∈ l ∧ (env.cells.lookup x).getD 0 = c)
  | [], _, _, _, h => .inl h
  | (n, k) :: r, acc, x, c, h => by
    unfold freeOf at h
    split at h
    · rename_i hk
      subst hk
      rcases freeOf_lookup env r _ x c h with h1 | ⟨h1, h2⟩
      · rw [List.lookup_cons] at h1
        cases hx : x == n with
        | true =>
          rw [hx] at h1
          have := beq_iff_eq.mp hx
          subst this
          exact .inr ⟨List.mem_cons_self, by simpa using h1⟩
        | false => rw [hx] at h1; exact .inl h1
      · exact .inr ⟨List.mem_cons_of_mem _ h1, h2⟩
    · rcases freeOf_lookup env r _ x c h with h1 | ⟨h1, h2⟩
      · exact .inl h1
      · exact .inr ⟨List.mem_cons_of_mem _ h1, h2⟩
theorem freeOf_mem (env : PySem.Env) : ∀ (l : List (Str × NameKind)) (acc : List (Str × Addr)) (x : Str), ((x, NameKind.free) ∈ l ∨ (acc.lookup x).isSome = true) → ((freeOf env l acc).lookup x).isSome = true
  | [], _, _, h => by rcases h with h | h; cases h; exact h
  | (n, k) :: r, acc, x, h => by
    unfold freeOf
    split
    · rename_i hk
      refine freeOf_mem env r _ x ?_
      rw [List.lookup_cons]
      cases hx : x == n with
      | true => exact .inr rfl
      | false =>
        rcases h with h | h
        · rcases List.mem_cons.mp h with q | q
          · cases q; simp at hx
          · exact .inl q
        · exact .inr h
    · rename_i hk
      refine freeOf_mem env r _ x ?_
      rcases h with h | h
      · rcases List.mem_cons.mp h with q | q
        · cases q; exact absurd rfl hk
        · exact .inl q
      · exact .inr h

theorem blockOk_free {outer : List (Str × NameKind)} {x : Str} : ∀ {l : List (Str × NameKind)}, blockOk outer x l = true → ∀ n k, (n, k) ∈ l → (k = .free → outer.lookup n = some .cell) ∧ k ≠ .cell ∧ (k = .local → n = x ∨ n = ".0")
  | [], _, _, _, h => nomatch h
  | (y, k) :: r, hb, n, k', h => by
    unfold blockOk at hb
    simp only [Bool.and_eq_true] at hb
    rcases List.mem_cons.mp h with q | q
    · cases q
      have h1 := hb.1
      cases k <;> simp at h1 ⊢
      · exact h1
      · exact h1
    · exact blockOk_free hb.2 n k' q

theorem lookup_mem {α : Type} : ∀ {l : List (Str × α)} {n : Str} {a : α}, l.lookup n = some a → (n, a) ∈ l := fun h => PySem.mem_of_lookup h
theorem mem_lookup {α : Type} : ∀ {l : List (Str × α)} {n : Str} {a : α}, (l.map (·.1)).Nodup → (n, a) ∈ l → l.lookup n = some a
  | (m, b) :: r, n, a, hn, h => by
    rw [List.map_cons, List.nodup_cons] at hn
    rw [List.lookup_cons]
    rcases List.mem_cons.mp h with q | q
    · cases q; simp
    · have : (n == m) = false := by
        cases hx : n == m with
        | false => rfl
        | true =>
          have := beq_iff_eq.mp hx
          subst this
          exact absurd (List.mem_map_of_mem (f := (·.1)) q) hn.1
      rw [this]; exact mem_lookup hn.2 q

/-- names of a block as the frame has them -/
theorem relabel_lookup {outer : List (Str × NameKind)} : ∀ {l : List (Str × NameKind)} {n : Str} {k : NameKind}, (Mine.relabel outer l).lookup n = some k → ∃ k', l.lookup n = some k' ∧ k = if k' = .free ∧ outer.lookup n = some .cell then .cell else k'
  | (m, b) :: r, n, k, h => by
    unfold Mine.relabel at h
    rw [List.lookup_cons] at h ⊢
    cases hx : n == m with
    | true =>
      rw [hx] at h
      have := beq_iff_eq.mp hx
      subst this
      exact ⟨b, rfl, by simpa using h.symm⟩
    | false => rw [hx] at h; exact relabel_lookup h
theorem relabel_lookup' {outer : List (Str × NameKind)} : ∀ {l : List (Str × NameKind)} {n : Str} {k' : NameKind}, l.lookup n = some k' → (Mine.relabel outer l).lookup n = some (if k' = .free ∧ outer.lookup n = some .cell then .cell else k')
  | (m, b) :: r, n, k, h => by
    unfold Mine.relabel
    rw [List.lookup_cons] at h ⊢
    cases hx : n == m with
    | true =>
      rw [hx] at h
      have := beq_iff_eq.mp hx
      subst this
      simp at h ⊢; rw [h]
    | false => rw [hx] at h; exact relabel_lookup' h

/-- a block of a comprehension -/
theorem FR.comp {x : Str} {sc : Scope} {Cc : Addr} {m : Str → Option Value} {v : V} {u : Value} (F : FR X env cx ρ s.heap μ) (hc : cx.inComp x sc = some cx') (hm : s.heap.Ns Cc m) (hu : m x = some u) (r : VR X s.heap μ v u) (hC : Cc ∉ μ)
    (hlow : ∀ y c, env.cells.lookup y = some c → c ≠ Cc) : FR X (compEnvC sc (freeOf env sc.names []) Cc env) cx' (ρ ++ [some v]) s.heap μ := by
  unfold Cx.inComp at hc
  split at hc
  · rename_i hq
    obtain ⟨h1, h2, h3, h4, h5, _⟩ := hq
    cases hc
    have hcell : ∀ y, (Mine.relabel cx.kinds sc.names).lookup y = some .cell → (y, NameKind.free) ∈ sc.names ∧ cx.kinds.lookup y = some .cell := fun y hy => by
      obtain ⟨k', e, hk⟩ := relabel_lookup hy
      split at hk
      · rename_i q; obtain ⟨rfl, q2⟩ := q; exact ⟨lookup_mem e, q2⟩
      · subst hk; exact absurd rfl (blockOk_free h2 y _ (lookup_mem e)).2.1
    have hcl : ∀ y c, (freeOf env sc.names []).lookup y = some c → env.cells.lookup y = some c := fun y c hy => by
      rcases freeOf_lookup env sc.names [] y c hy with q | ⟨q1, q2⟩
      · cases q
      · obtain ⟨a, ha⟩ := Option.isSome_iff_exists.mp (F.cells y ((blockOk_free h2 y _ q1).1 rfl))
        rw [ha] at q2 ⊢; simpa using q2
    exact {
      kind := h1
      globals := F.globals
      builtins := F.builtins
      names := relabel_names sc F
      ns := by
        refine ⟨m, hm, fun y k w e1 e2 e3 => ?_⟩
        obtain ⟨k', e, hk⟩ := relabel_lookup e1
        split at hk
        · cases hk
        · subst hk
          rcases (blockOk_free h2 y _ (lookup_mem e)).2.2 rfl with rfl | rfl
          · rw [List.lookup_cons] at e2
            simp at e2
            subst e2
            have hl : ρ.length = cx.n := F.len
            rw [← hl, List.getElem?_append_right (Nat.le_refl _)] at e3
            simp at e3
            subst e3
            exact ⟨u, hu, r⟩
          · rw [List.lookup_cons] at e2
            cases hx : ((".0" : Str) == x) with
            | true =>
              rw [hx] at e2
              have hx' := beq_iff_eq.mp hx
              have hl : ρ.length = cx.n := F.len
              simp at e2
              rw [← e2, ← hl, List.getElem?_append_right (Nat.le_refl _)] at e3
              simp at e3
              subst e3
              exact ⟨u, hx' ▸ hu, r⟩
            | false => rw [hx] at e2; simp [h5] at e2
      cell := fun y k e1 e2 => by
        obtain ⟨q1, q2⟩ := hcell y e1
        have hne : y ≠ x := by
          rintro rfl
          have := mem_lookup h4 q1
          rw [h3] at this; cases this
        rw [List.lookup_cons] at e2
        have hb : (y == x) = false := by simpa using hne
        rw [hb] at e2
        obtain ⟨c, w, a1, a2, a3⟩ := F.cell y k q2 e2
        obtain ⟨c', hc'⟩ := Option.isSome_iff_exists.mp (freeOf_mem env sc.names [] y (.inl q1))
        have := hcl y c' hc'
        rw [a1] at this; cases this
        refine ⟨c, w, hc', a2, fun v' hv' => a3 v' ?_⟩
        rw [List.getElem?_append_left (by rw [F.len]; exact F.bound y k e2)] at hv'; exact hv'
      cells := fun y e1 => freeOf_mem env sc.names [] y (.inl (hcell y e1).1)
      apart := fun y z c e1 e2 => F.apart y z c (hcl y c e1) (hcl z c e2)
      offL := hC
      offC := fun y c e => ⟨(F.offC y c (hcl y c e)).1, hlow y c (hcl y c e), (F.offC y c (hcl y c e)).2.2⟩
      slots := fun y z k e1 e2 => by
        rw [List.lookup_cons] at e1 e2
        cases hy : (y == x) with
        | true =>
          rw [hy] at e1
          cases hz : (z == x) with
          | true => rw [beq_iff_eq.mp hy, beq_iff_eq.mp hz]
          | false =>
            rw [hz] at e2
            simp at e1
            have := F.bound z k e2
            omega
        | false =>
          rw [hy] at e1
          cases hz : (z == x) with
          | true =>
            rw [hz] at e2
            simp at e2
            have := F.bound y k e1
            omega
          | false => rw [hz] at e2; exact F.slots y z k e1 e2
      bound := fun y k e => by
        rw [List.lookup_cons] at e
        cases hy : (y == x) with
        | true => rw [hy] at e; simp at e; subst e; exact Nat.lt_succ_self _
        | false => rw [hy] at e; exact Nat.lt_succ_of_lt (F.bound y k e)
      len := by rw [List.length_append, F.len]; rfl }
  · cases hc
end
end Mine

set_option maxRecDepth 100000
namespace Mine
open PySem PyProof.Rows PySem.Calls

section
variable {X : W} {A : Around} {d : Nat} {hn : Bool} {s s' s₀ : Shared} {μ μ' μ₀ : List Addr} {σ σ' σ₀ : H} {env : PySem.Env} {cx cx' : Cx} {ρ : Env} {own : List Addr} {it : It} {J : Addr} {C : Calls} {G : GT} {n₀ : Nat}

/-- one or none -/
noncomputable def RlO (X : W) : Heap → List Addr → Option V → Option Value → Prop := fun h μ o q => match o, q with
  | some x, some u => VR X h μ x u
  | none, none => True
  | _, _ => False

/-- a comprehension's turn: its tests, then its element -/
noncomputable def turnP (X : W) (A : Around) (ifs : List Expr) (elt : Expr) (cenv : PySem.Env) : PT (Option Value) := fun Q E s =>
  wpAny (Mo X) A (forIn ifs true fun c r => if r = true then do let ok ← isTrue c cenv (eval c cenv); pure (ForInStep.yield ok) else pure (ForInStep.yield r))
    (fun ok s₃ => if ok = true then wpAny (Mo X) A (eval elt cenv) (fun y s₄ => Q (some y) s₄) E s₃ else Q none s₃) E s

structure CInv (X : W) (s₀ : Shared) (μ₀ : List Addr) (own : List Addr) (J D Cc : Addr) (f : V → M (Option V)) (r₀ : R (List V)) (n : Nat) (s : Shared) (μ : List Addr) (σ : H) (it : It) (acc : List V) (ys : Array Value) (m : Str → Option Value) : Prop where
  step : Step X s₀ μ₀ s μ σ
  jr : JR X s.heap μ it J own
  lst : s.heap.PlainList D ys
  rel : VRs X s.heap μ acc ys.toList
  lim : acc.length ≤ lim
  ns : s.heap.Ns Cc m
  offD : D ∉ μ
  offC : Cc ∉ μ
  go : gather f n it acc σ = r₀

theorem softD {h : Heap} {D : Addr} {ys : Array Value} (l : h.PlainList D ys) (hD : D ∉ μ) : ∀ b ∈ [D], Soft h μ b := fun b hb => by
  rw [List.mem_singleton.mp hb]
  obtain ⟨n, e⟩ := l
  refine ⟨hD, fun o e' hS => ?_⟩
  rw [e] at e'; cases e'
  exact hS.offList (.inl rfl)
theorem softC {h : Heap} {Cc : Addr} {m : Str → Option Value} (l : h.Ns Cc m) (hC : Cc ∉ μ) : ∀ b ∈ [Cc], Soft h μ b := fun b hb => by
  rw [List.mem_singleton.mp hb]
  obtain ⟨o, es, ep, e, hd, _⟩ := l
  refine ⟨hC, fun o' e' hS => ?_⟩
  rw [e] at e'; cases e'
  exact hS.2.1 _ _ hd

theorem comp_loop {elt iter : Expr} {x : Str} {px : Pos} {ifs : List Expr} {sc : Scope} {pos : Pos} {D Cc : Addr} {f : V → M (Option V)} {r₀ : R (List V)} {cenv : PySem.Env} {Rr : Result → Shared → Prop} {n : Nat} {acc : List V} {ys : Array Value} {m : Str → Option Value}
    (c₀ : Cn X A d true s₀ μ₀ σ₀) (hne : r₀ ≠ .stuck) (hx : cenv.kindOf x = some .local) (hk : cenv.scope.kind = .function) (hl : cenv.locals = Cc)
    (hown : ∀ b ∈ own, s₀.heap.objs.size ≤ b) (hD : s₀.heap.objs.size ≤ D) (hC : s₀.heap.objs.size ≤ Cc) (hDo : D ∉ own) (hCo : Cc ∉ own) (hDC : D ≠ Cc)
    (hbody : ∀ v u s μ σ m, Cn X A d true s μ σ → Step X s₀ μ₀ s μ σ → s.heap.Ns Cc m → m x = some u → VR X s.heap μ v u → Cc ∉ μ → Sm X (turnP X A ifs elt cenv) (f v σ) (RlO X) s μ)
    (hR : ∀ acc s μ σ ys m, r₀ = .ok acc σ → Step X s₀ μ₀ s μ σ → s.heap.PlainList D ys → VRs X s.heap μ acc ys.toList → acc.length ≤ lim → s.heap.Ns Cc m → D ∉ μ → Cc ∉ μ → Rr (.ok .next) s)
    (h : CInv X s₀ μ₀ own J D Cc f r₀ n s μ σ it acc ys m) :
    codeAny (Mo X) A (.compLoop (.ListComp elt [⟨.Name x px, iter, ifs, 0⟩] sc pos) 0 (.ref J) (.ref D) cenv) Rr s := by
  refine codeAny_compLoop_tests (fun n s => ∃ μ σ it acc ys m, CInv X s₀ μ₀ own J D Cc f r₀ n s μ σ it acc ys m) ?_ n ⟨μ, σ, it, acc, ys, m, h⟩
  clear h
  rintro n s ⟨μ, σ, it, acc, ys, m, I⟩
  have c := c₀.step I.step
  have hgo := I.go
  unfold gather at hgo
  cases hnx : nextIt it σ with
  | none => rw [hnx] at hgo; exact absurd hgo.symm hne
  | some r =>
    refine sm_next c I.jr hnx fun q s₁ hr => ?_
    obtain ⟨M1, hr⟩ := hr
    have soft1 : ∀ b ∈ own, Soft s.heap μ b := fun b hb => (I.jr.priv b hb).isSoft c.hr
    have S1 : Step X s₀ μ₀ s₁ μ σ := I.step.move M1 soft1 hown c₀.base
    have L1 : s₁.heap.PlainList D ys := I.lst.at fun o e => M1.keep D o hDo e
    have R1 : VRs X s₁.heap μ acc ys.toList := M1.vrs soft1 I.rel
    have N1 : s₁.heap.Ns Cc m := I.ns.at' fun o e => M1.keep Cc o hCo e
    cases r with
    | none =>
      cases q with
      | some _ => exact hr.elim
      | none =>
        rw [hnx] at hgo
        exact hR acc s₁ μ σ ys m hgo.symm S1 L1 R1 I.lim N1 I.offD I.offC
    | some p =>
      obtain ⟨v, it'⟩ := p
      cases q with
      | none => exact hr.elim
      | some u =>
        obtain ⟨ru, j1⟩ := hr
        rw [hnx] at hgo
        cases n with
        | zero => exact absurd hgo.symm hne
        | succ n =>
          dsimp only at hgo
          refine wpAny_assign_Name (wpAny_storeName_local hx (by rw [hl]; exact N1) (fun h₂ hn₂ hs₂ => ?_) (by rw [hk]; rfl))
          rw [hl] at hn₂ hs₂
          have M2 : Move [Cc] s₁ { s₁ with heap := h₂, toks := s₁.toks + 1 } := ⟨fun b o hb e => (hs₂.2 b fun q => hb (by simp [q])).trans e, Nat.le_of_eq hs₂.1.symm, rfl, rfl⟩
          have soft2 := softC (μ := μ) N1 I.offC
          have S2 : Step X s₀ μ₀ { s₁ with heap := h₂, toks := s₁.toks + 1 } μ σ := S1.move M2 soft2 (fun b hb => by rw [List.mem_singleton.mp hb]; exact hC) c₀.base
          have L2 : h₂.PlainList D ys := L1.at fun o e => M2.keep D o (by simpa using hDC) e
          have R2 : VRs X h₂ μ acc ys.toList := M2.vrs soft2 R1
          have j2 : JR X h₂ μ it' J own := j1.keeps (fun b hb o e => M2.keep b o (fun hm => hCo (List.mem_singleton.mp hm ▸ hb)) e) fun _ _ e => e
          have ru2 : VR X h₂ μ v u := M2.vr soft2 ru
          have c2 := c₀.step S2
          have hb := hbody v u _ μ σ _ c2 S2 hn₂ (by simp) ru2 I.offC
          refine hb (fun e => by rw [e] at hgo; exact hne hgo.symm) (fun q s₄ => match q with
            | some x => wpAny (Mo X) A (PySem.call (.builtin "list.append") [.ref D, x]) (fun _ s₅ => ∃ m, m < n + 1 ∧ ∃ μ σ it acc ys m_1, CInv X s₀ μ₀ own J D Cc f r₀ m s₅ μ σ it acc ys m_1) (notedBy (Mo X) A cenv fun e s' => Rr (Except.error e) s') s₄
            | none => ∃ m, m < n + 1 ∧ ∃ μ σ it acc ys m_1, CInv X s₀ μ₀ own J D Cc f r₀ m s₄ μ σ it acc ys m_1) (notedBy (Mo X) A cenv fun e s' => Rr (Except.error e) s') fun o σ₃ q s₃ μ₃ e3 S3 r3 => ?_
          have S03 := S2.trans S3
          have L3 : s₃.heap.PlainList D ys := by
            obtain ⟨n, e⟩ := L2
            exact ⟨n, S3.keep.at I.offD e (by intro _ _ q; cases q)⟩
          have R3 : VRs X s₃.heap μ₃ acc ys.toList := S3.vrs c2.hr R2
          have j3 : JR X s₃.heap μ₃ it' J own := j2.step c2.hr S3
          have N3 : s₃.heap.Ns Cc _ := S3.keep.ns I.offC hn₂
          have d3 : D ∉ μ₃ := S3.notIn I.offD (by obtain ⟨n, e⟩ := L2; exact Heap.lt_size e)
          have o3 : Cc ∉ μ₃ := S3.notIn I.offC hn₂.lt
          rw [e3] at hgo
          cases o with
          | none =>
            cases q with
            | some _ => exact r3.elim
            | none => exact ⟨n, Nat.lt_succ_self _, μ₃, σ₃, it', acc, ys, _, S03, j3, L3, R3, I.lim, N3, d3, o3, hgo⟩
          | some y =>
            cases q with
            | none => exact r3.elim
            | some w =>
              dsimp only at hgo
              split at hgo
              · rename_i hlim
                have hys : ys.size ≤ sizeLine := by
                  have := R3.length
                  have h2 : ys.toList.length = ys.size := by simp
                  have h3 : acc.length + 1 ≤ sizeLine := hlim
                  omega
                refine wpAny_list_append_plain (hsz := hys) L3 fun h₅ hl₅ hs₅ => ?_
                have M5 : Move [D] s₃ { s₃ with heap := h₅ } := ⟨fun b o hb e => (hs₅.2 b fun q => hb (by simp [q])).trans e, Nat.le_of_eq hs₅.1.symm, rfl, rfl⟩
                have soft5 := softD (μ := μ₃) L3 d3
                refine ⟨n, Nat.lt_succ_self _, μ₃, σ₃, it', acc ++ [y], ys.push w, _, S03.move M5 soft5 (fun b hb => by rw [List.mem_singleton.mp hb]; exact hD) c₀.base, ?_, hl₅, ?_, ?_, N3.at' fun o e => M5.keep Cc o (by simpa using Ne.symm hDC) e, d3, o3, hgo⟩
                · exact j3.keeps (fun b hb o e => M5.keep b o (fun hm => hDo (List.mem_singleton.mp hm ▸ hb)) e) fun _ _ e => e
                · rw [Array.toList_push]
                  exact (M5.vrs soft5 R3).append (.cons (M5.vr soft5 r3) .nil)
                · rw [List.length_append]; exact hlim
              · exact absurd hgo.symm hne
end
end Mine

set_option maxRecDepth 100000
namespace Mine
open PySem PyProof.Rows PySem.Calls

section
variable {X : W} {A : Around} {d : Nat} {hn : Bool} {s s' s₀ : Shared} {μ μ' μ₀ : List Addr} {σ σ' σ₀ : H} {env : PySem.Env} {cx cx' : Cx} {ρ : Env} {own : List Addr} {it : It} {J : Addr} {C : Calls} {G : GT} {n₀ : Nat}

theorem jr_self (j : JR X s.heap μ it J own) {Q : Value → Shared → Prop} {E : Value → Shared → Prop} (h : Q (.ref J) s) : wpAny (Mo X) A (pyIter (.ref J)) Q E s := by
  cases j with
  | list _ e => exact wpAny_pyIter_listiter e h
  | range _ e => exact wpAny_pyIter_rangeiter e h
  | str _ _ ht e =>
    rcases ht with rfl | rfl
    · exact wpAny_pyIter_striter_ascii e h
    · exact wpAny_pyIter_striter_wide e h

theorem folded_of {e : Expr} {t : E} (h : trE G cx e = some t) (env : PySem.Env) (x : Value) : foldedSetIterable e env x = pure x := by
  cases e <;> first | rfl | skip
  unfold trE at h; cases h

/-- a list that was made on the way comes under the small heap -/
theorem Step.adopt {D : Addr} {o : O} (S : Step X s₀ μ₀ s μ σ) (hB : Base X s₀.heap) (hD : D ∉ μ) (hn : s₀.heap.objs.size ≤ D) (r : OR X s.heap (μ ++ [D]) D o) : Step X s₀ μ₀ s (μ ++ [D]) (σ ++ [o]) where
  hr := S.hr.alloc hD (Nat.le_trans hB.size hn) r
  keep := S.keep
  base := S.base
  size := S.size
  ext := by
    obtain ⟨ν, rfl, h⟩ := S.ext
    refine ⟨ν ++ [D], by rw [List.append_assoc], fun a ha => ?_⟩
    rcases List.mem_append.mp ha with q | q
    · exact h a q
    · rw [List.mem_singleton.mp q]; exact hn
  gens := S.gens
  os := S.os

noncomputable def compF (ns : List Int) (C : Calls) (ρ : Env) (elt : E) (cond : Option E) (v : V) : M (Option V) := match cond with
  | none => (evE ns C (ρ ++ [some v]) elt).bnd fun x => .ret (some x)
  | some c => (evE ns C (ρ ++ [some v]) c).bnd fun t => match t with
      | .bool true => (evE ns C (ρ ++ [some v]) elt).bnd fun x => .ret (some x)
      | .bool false => .ret .none
      | _ => stuck
noncomputable def compE (src : Src) (elt : E) : Option E → E
  | none => .comp src elt
  | some c => .compIf src elt c
theorem evE_comp (ρ : Env) (src : Src) (elt : E) (cond : Option E) : evE X.ns C ρ (compE src elt cond) = (evSrc X.ns C ρ src).bnd fun p => (if C.hn then gather (compF X.ns C ρ elt cond) p.2 p.1 [] else stuck).bnd fun xs => newO (.list xs) := by
  cases cond with
  | none => unfold compE; rw [evE]; rfl
  | some c => unfold compE; rw [evE]; rfl

/-- what a comprehension's tree stands for -/
theorem compTarget_some {gens : List Comprehension} {x : Str} (h : compTarget gens = some x) : ∃ px iter ifs, gens = [⟨.Name x px, iter, ifs, 0⟩] := by
  unfold compTarget at h
  split at h
  · split at h
    · rename_i ha
      cases h
      subst ha
      exact ⟨_, _, _, rfl⟩
    · cases h
  · cases h
theorem tr_comp {elt : Expr} {gens : List Comprehension} {sc : Scope} {p : Pos} {t : E} (ht : trE G cx (.ListComp elt gens sc p) = some t) :
    ∃ x px iter ifs cx' ti e cond, gens = [⟨.Name x px, iter, ifs, 0⟩] ∧ cx.inComp x sc = some cx' ∧ trE G cx iter = some ti ∧ trE G cx' elt = some e ∧ t = compE (srcOf ti) e cond ∧
      ((ifs = [] ∧ cond = none) ∨ ∃ c q, ifs = [c] ∧ trE G cx' c = some q ∧ cond = some q) := by
  unfold trE at ht
  cases h1 : compTarget gens with
  | none => simp [h1] at ht
  | some x =>
    simp only [h1] at ht
    cases h2 : cx.inComp x sc with
    | none => simp [h2] at ht
    | some cx' =>
      simp only [h2] at ht
      obtain ⟨px, iter, ifs, rfl⟩ := compTarget_some h1
      · · cases h3 : trE G cx iter with
          | none => simp [trGens, trGen, h3] at ht
          | some ti =>
            cases h4 : trE G cx' elt with
            | none => simp [trGens, trGen, h3, h4] at ht
            | some e =>
              simp only [trGens, trGen, h3, h4, Option.map_some, trIfs, trIf] at ht
              cases ifs with
              | nil =>
                rw [trEs] at ht
                cases ht
                exact ⟨_, px, iter, [], cx', ti, e, none, rfl, h2, h3, h4, rfl, .inl ⟨rfl, rfl⟩⟩
              | cons c rest =>
                cases h5 : trEs G cx' (c :: rest) with
                | none => simp [h5] at ht
                | some ts =>
                  obtain ⟨q, r, e1, e2, rfl⟩ := trEs_cons h5
                  cases rest with
                  | nil =>
                    cases trEs_nil e2
                    simp only [h5, Option.some.injEq] at ht
                    exact ⟨_, px, iter, [c], cx', ti, e, some q, rfl, h2, h3, h4, ht.symm, .inr ⟨c, q, rfl, e1, rfl⟩⟩
                  | cons c' rest' =>
                    obtain ⟨_, _, _, _, rfl⟩ := trEs_cons e2
                    simp [h5] at ht

/-- a turn -/
theorem sim_turn {elt : Expr} {ifs : List Expr} {cenv : PySem.Env} {e : E} {cond : Option E} (hE : SimE X C G d hn elt) (hT : ∀ c ∈ ifs, SimT X C G d hn c) (h4 : trE G cx' elt = some e)
    (h5 : (ifs = [] ∧ cond = none) ∨ ∃ c q, ifs = [c] ∧ trE G cx' c = some q ∧ cond = some q) {v : V} (c : Cn X A d hn s μ σ) (F : FR X cenv cx' (ρ ++ [some v]) s.heap μ) :
    Sm X (turnP X A ifs elt cenv) (compF X.ns C ρ e cond v σ) (RlO X) s μ := by
  rcases h5 with ⟨rfl, rfl⟩ | ⟨k, q, rfl, h6, rfl⟩
  · refine (Sm.go c F (hE cx' e h4 A cenv _ s μ σ c F) (P2 := fun u Q E s => Q (some u) s) fun x _ u _ _ c1 F1 _ r => Sm.ok fun Q E hQ => hQ _ _ _ (Step.refl c1.hr c1.base) r).imp fun Q E h => ?_
    unfold turnP
    rw [List.forIn_nil]
    exact wpAny_pure h
  · have he : compF X.ns C ρ e (some q) v = ((evE X.ns C (ρ ++ [some v]) q).bnd asB).bnd fun b => if b then (evE X.ns C (ρ ++ [some v]) e).bnd fun x => .ret (some x) else .ret .none := by
      unfold compF
      dsimp only
      rw [bnd_assoc]
      congr 1
      funext w
      cases w with
      | bool b => cases b <;> rfl
      | _ => rfl
    rw [he]
    refine (Sm.go c F (hT k (by simp) cx' q h6 A cenv _ s μ σ c F) (P2 := fun ok Q E s₃ => if ok = true then wpAny (Mo X) A (eval elt cenv) (fun y s₄ => Q (some y) s₄) E s₃ else Q none s₃) fun b σ₁ b' s₁ μ₁ c1 F1 _ r => ?_).imp fun Q E h => ?_
    · cases r
      cases b with
      | true => exact Sm.go c1 F1 (hE cx' e h4 A cenv _ s₁ μ₁ σ₁ c1 F1) (P2 := fun u Q E s => Q (some u) s) fun x _ u _ _ c2 F2 _ r => Sm.ok fun Q E hQ => hQ _ _ _ (Step.refl c2.hr c2.base) r
      | false => exact Sm.ok fun Q E hQ => hQ _ _ _ (Step.refl c1.hr c1.base) trivial
    · unfold turnP
      rw [List.forIn_cons]
      simp only [if_true]
      refine wpAny_bind (wpAny_bind (wpAny_mono h (fun ok s₃ h₃ => wpAny_pure ?_) fun _ _ x => x))
      dsimp only
      rw [List.forIn_nil]
      exact wpAny_pure h₃

theorem comp_core (L : Leaf X G C d hn) {elt iter : Expr} {x : Str} {px p pos' : Pos} {ifs : List Expr} {sc : Scope} {ti e : E} {cond : Option E} (hI : SimI X C G d hn iter) (hE : SimE X C G d hn elt) (hT : ∀ c ∈ ifs, SimT X C G d hn c) (c : Cn X A d hn s μ σ) (F : FR X env cx ρ s.heap μ)
    (hcx : cx.inComp x sc = some cx') (h3 : trE G cx iter = some ti) (h4 : trE G cx' elt = some e) (h5 : (ifs = [] ∧ cond = none) ∨ ∃ c q, ifs = [c] ∧ trE G cx' c = some q ∧ cond = some q) {use : Option (Value → Sem Unit)} {Q : Value → Shared → Prop} {E : Value → Shared → Prop}
    (hne : evE X.ns C ρ (compE (srcOf ti) e cond) σ ≠ .stuck)
    (hfin : ∀ acc σ' s' μ' D Cc k ys m, evE X.ns C ρ (compE (srcOf ti) e cond) σ = .ok (.ref σ'.length) (σ' ++ [.list acc]) → Step X s μ s' μ' σ' → s'.heap.get? D = some { cls := .type "list", data := .seq ys k } → VRs X s'.heap μ' acc ys.toList → acc.length ≤ lim → s'.heap.Ns Cc m →
      D ∉ μ' → Cc ∉ μ' → s.heap.objs.size ≤ D → s.heap.objs.size ≤ Cc → D ≠ Cc → compPost (Mo X) A E use Q (.ref D) Cc (.ok .next) s') :
    wpAny (Mo X) A (comprehension (.ListComp elt [⟨.Name x px, iter, ifs, 0⟩] sc p) sc env pos' (newList []) false (eval iter env) use) Q E s := by
  rw [evE_comp] at hne hfin
  have hcx' := hcx
  unfold Cx.inComp at hcx'
  split at hcx'
  · rename_i hq
    obtain ⟨q1, q2, q3, q4, q5, _⟩ := hq
    refine wpAny_comprehension_free (cl := freeOf env sc.names []) rfl (folded_of h3 env) (closure_eq fun n k hm hk => F.cells n ((blockOk_free q2 n k hm).1 hk)) q1 (fun y hy hl => by
      obtain ⟨n, k⟩ := y
      dsimp only at hl; subst hl
      exact mem_lookup q4 hy) ?_
    refine hI cx ti h3 A env ρ s μ σ c F (fun e => hne (bnd_stuck e)) _ _ fun pr σ₁ u s₁ μ₁ e1 S1 i1 => ?_
    have eq1 := bnd_ok (k := fun p : It × Nat => (if C.hn then gather (compF X.ns C ρ e cond) p.2 p.1 [] else stuck).bnd fun xs => newO (.list xs)) e1
    rw [eq1] at hne hfin
    cases hhn : C.hn with
    | false => simp [hhn, M.bnd, stuck] at hne
    | true =>
      have hnt : hn = true := by rw [← L.eqn]; exact hhn
      subst hnt
      simp only [hhn, if_true] at hne hfin
      refine sm_iter (c.step S1) S1.size i1 fun J own s₂ j2 S2 hown => ?_
      have S02 := S1.trans S2
      have c2 := c.step S02
      refine wpAny_newObj_type (wpAny_newFunctionEnv (fun y hy => (blockOk_free q2 y.1 y.2 hy).2.1) (by intro y hy; simp at hy) (fun h₁ hns₁ hsb₁ => ?_) q1)
      dsimp only at hns₁ hsb₁ ⊢
      generalize hH2 : s₂.heap.push { cls := .type "list", dict := none, data := .seq ([] : List Value).toArray } = H2 at hns₁ hsb₁ ⊢
      have hC : H2.objs.size = s₂.heap.objs.size + 1 := by rw [← hH2, Heap.size_push]
      have hDC : s₂.heap.objs.size ≠ H2.objs.size := by rw [hC]; exact Nat.ne_of_lt (Nat.lt_succ_self _)
      have old : ∀ b o, s₂.heap.get? b = some o → h₁.get? b = some o := fun b o eb => by
        have hb := Heap.lt_size eb
        exact hsb₁.extBut b o (by rw [hC]; exact Nat.ne_of_lt (Nat.lt_succ_of_lt hb)) (Heap.get?_push_of_some _ (hH2 ▸ Heap.get?_push_of_some _ eb))
      have hacc : h₁.PlainList s₂.heap.objs.size #[] := ⟨_, hsb₁.extBut _ _ hDC (Heap.get?_push_of_some _ (hH2 ▸ Heap.get?_push_size _ rfl))⟩
      have hsz : s₂.heap.objs.size ≤ h₁.objs.size := by rw [hsb₁.1, Heap.size_push, hC]; omega
      have S03 : Step X s μ { s₂ with heap := h₁, toks := s₂.toks + ([] : List (Str × Value)).length } μ₁ σ₁ := S02.trans (Step.grow c2 old hsz rfl rfl)
      have dm : s₂.heap.objs.size ∉ μ₁ := fun hm => Nat.lt_irrefl _ (c2.hr.lt hm)
      have cm : H2.objs.size ∉ μ₁ := fun hm => by have := c2.hr.lt hm; rw [hC] at this; exact Nat.lt_irrefl _ (Nat.lt_of_succ_lt this)
      have loop : codeAny (Mo X) A (.compLoop (.ListComp elt [⟨.Name x px, iter, ifs, 0⟩] sc p) 0 (.ref J) (.ref s₂.heap.objs.size) (compEnvC sc (freeOf env sc.names []) H2.objs.size env))
          (compPost (Mo X) A E use Q (.ref s₂.heap.objs.size) H2.objs.size) { s₂ with heap := h₁, toks := s₂.toks + ([] : List (Str × Value)).length } := by
        refine comp_loop (s₀ := s) (μ₀ := μ) (own := own) (it := pr.1) (n := pr.2) (acc := []) (ys := #[]) (D := s₂.heap.objs.size) (Cc := H2.objs.size) (f := compF X.ns C ρ e cond) (r₀ := gather (compF X.ns C ρ e cond) pr.2 pr.1 [] σ₁) c
          (fun q => hne (by unfold M.bnd; rw [q])) ?_ q1 rfl hown S02.size (by rw [hC]; exact Nat.le_succ_of_le S02.size) (fun hm => ?_) (fun hm => ?_) hDC (fun v u s' μ' σ' m c' S' n' hm' r' hC' => ?_) (fun acc s' μ' σ' ys m e' S' l' r' z' n' d' hCm => ?_)
          ⟨S03, j2.keeps (fun b _ o eb => old b o eb) fun _ _ e => e, hacc, .nil, Nat.zero_le _, hns₁, dm, cm, rfl⟩
        · show (PySem.relabel sc env).names.lookup x = some .local
          rw [relabel_names sc F]
          rw [relabel_lookup' q3]; rfl
        · exact Nat.lt_irrefl _ ((j2.priv _ hm).lt)
        · have := (j2.priv _ hm).lt; rw [hC] at this; exact Nat.lt_irrefl _ (Nat.lt_of_succ_lt this)
        · refine sim_turn hE hT h4 h5 c' ((F.step c.hr S').comp hcx n' hm' r' hC' fun y cc hy => ?_)
          have := (F.offC y cc hy).2.2
          have h2 := S02.size
          rw [hC]; exact Nat.ne_of_lt (Nat.lt_succ_of_lt (Nat.lt_of_lt_of_le this h2))
        · obtain ⟨k, el⟩ := l'
          exact hfin acc σ' s' μ' _ _ k ys m (by rw [bnd_ok e']; rfl) S' el r' z' n' d' hCm S02.size (by rw [hC]; exact Nat.le_succ_of_le S02.size) hDC
      exact codeAny_compStart_list loop (jr_self (j2.keeps (fun b _ o eb => old b o eb) fun _ _ e => e) loop)
  · cases hcx'

theorem sim_comp (L : Leaf X G C d hn) {elt : Expr} {gens : List Comprehension} {sc : Scope} {p : Pos} (hI : ∀ g ∈ gens, SimI X C G d hn g.iter) (hE : SimE X C G d hn elt) (hT : ∀ g ∈ gens, ∀ c ∈ g.ifs, SimT X C G d hn c) : SimE X C G d hn (.ListComp elt gens sc p) := by
  intro cx t ht A env ρ s μ σ c F
  obtain ⟨x, px, iter, ifs, cx', ti, e, cond, rfl, hcx, h3, h4, rfl, h5⟩ := tr_comp ht
  intro hne Q E hQ
  refine comp_core L (hI _ List.mem_cons_self) hE (hT _ List.mem_cons_self) c F hcx h3 h4 h5 hne (fun acc σ' s' μ' D Cc k ys m e' S' el r' z' n' d' hCm hD hC hDC => ?_)
  refine ⟨m, n', fun h' hs' => ?_⟩
  have M1 : Move [Cc] s' { s' with heap := h' } := ⟨fun b o hb e => (hs'.2 b fun q => hb (by simp [q])).trans e, Nat.le_of_eq hs'.1.symm, rfl, rfl⟩
  have S1' : Step X s μ { s' with heap := h' } μ' σ' := S'.move M1 (softC n' hCm) (fun b hb => by rw [List.mem_singleton.mp hb]; exact hC) c.base
  have el' : h'.get? D = some { cls := .type "list", data := .seq ys k } := M1.keep _ _ (by simpa using hDC) el
  have rr : VRs X h' μ' acc ys.toList := M1.vrs (softC n' hCm) r'
  refine hQ (.ref σ'.length) (σ' ++ [.list acc]) _ _ (μ' ++ [D]) e' (S1'.adopt c.base d' hD (.list (l := ys.toList) (n := k) (by simpa using el') (by rw [← rr.length]; exact z') (rr.mono (fun _ _ e _ => e) ext_get))) (.ref ?_)
  rw [← S1'.hr.len, List.getElem?_append_right (Nat.le_refl _)]; simp
end
end Mine

set_option maxRecDepth 100000
namespace Mine
open PySem PyProof.Rows PySem.Calls

section
variable {X : W} {A : Around} {d : Nat} {hn : Bool} {s s' s₀ : Shared} {μ μ' μ₀ : List Addr} {σ σ' σ₀ : H} {env : PySem.Env} {cx cx' : Cx} {ρ : Env} {C : Calls} {G : GT}

noncomputable def isBi : E → Bool
  | .bi .. => true
  | _ => false
noncomputable def isCallN : Expr → Bool
  | .Call (.Name _ _) _ _ _ => true
  | _ => false
theorem src_plain {t : E} (h : isBi t = false) : srcOf t = .of t := by
  cases t <;> first | rfl | (simp [isBi] at h)
set_option maxHeartbeats 4000000 in
theorem tr_noBi {e : Expr} {t : E} (ht : trE G cx e = some t) (hc : isCallN e = false) : isBi t = false := by
  cases e with
  | Constant k i p =>
    unfold trE at ht
    obtain ⟨v, _, rfl⟩ := Option.map_eq_some_iff.mp ht; rfl
  | Name x p =>
    unfold trE at ht
    split at ht
    · cases ht
    · split at ht
      · cases ht; rfl
      · split at ht
        · obtain ⟨v, _, rfl⟩ := Option.map_eq_some_iff.mp ht; rfl
        · cases ht
  | BoolOp op es p =>
    unfold trE at ht
    split at ht
    · cases op <;> cases ht <;> rfl
    · cases ht
  | BinOp l op r p =>
    unfold trE at ht
    split at ht
    · cases ht; rfl
    · cases ht
  | UnaryOp op a p =>
    unfold trE at ht
    cases op <;> first | (cases ht; done) | (obtain ⟨v, _, rfl⟩ := Option.map_eq_some_iff.mp ht; rfl)
  | Compare l ops cs p =>
    rcases tr_compare ht with ⟨_, _, _, _, _, _, _, _, rfl⟩ | ⟨_, _, _, _, _, _, _, _, _, _, _, _, rfl⟩ <;> rfl
  | Call f args kws p =>
    cases f with
    | Name _ _ => simp [isCallN] at hc
    | Attribute o m ap =>
      cases kws with
      | cons _ _ => unfold trE at ht; cases ht
      | nil =>
        unfold trE at ht
        dsimp only at ht
        split at ht
        · split at ht
          · obtain ⟨v, _, rfl⟩ := Option.map_eq_some_iff.mp ht; rfl
          · cases ht
        · cases ht
    | _ => unfold trE at ht; cases kws <;> cases ht
  | Subscript a i p =>
    cases hi : isSlice i with
    | false =>
      rw [trE_sub hi] at ht
      split at ht
      · cases ht; rfl
      · cases ht
    | true =>
      cases i <;> first | (simp [isSlice] at hi; done) | skip
      rename_i lo hi' st q
      cases st with
      | none =>
        unfold trE at ht
        dsimp only at ht
        split at ht
        · cases ht; rfl
        · cases ht
      | some e' =>
        rw [trE] at ht
        cases ht
  | List es p => unfold trE at ht; obtain ⟨v, _, rfl⟩ := Option.map_eq_some_iff.mp ht; rfl
  | Tuple es k p => unfold trE at ht; obtain ⟨v, _, rfl⟩ := Option.map_eq_some_iff.mp ht; rfl
  | ListComp elt gens sc p =>
    obtain ⟨_, _, _, _, _, _, _, cond, _, _, _, _, rfl, _⟩ := tr_comp ht
    cases cond <;> rfl
  | _ => unfold trE at ht; cases ht

theorem bi_range {f : Str} {n : Nat} (h : biOf f n = some .range) : n = 1 := by
  unfold biOf at h
  by_cases hn : n = 1
  · exact hn
  · rw [if_neg hn] at h
    exfalso
    split at h
    · split at h <;> cases h
    · cases h
theorem simI_call (L : Leaf X G C d hn) {f : Str} {q p : Pos} {args : List Expr} {kws : List Keyword} (ha : ∀ e ∈ args, SimE X C G d hn e) (hS : SimE X C G d hn (.Call (.Name f q) args kws p)) : SimI X C G d hn (.Call (.Name f q) args kws p) := by
  intro cx t ht A env ρ s μ σ c F
  by_cases hb : ∃ es, t = .bi .range es
  · obtain ⟨es, rfl⟩ := hb
    obtain ⟨rfl, hg, h⟩ := tr_call ht
    rcases h with ⟨_, _, _, _, _, _, _, _, _, _, h⟩ | ⟨es', h1, h2⟩
    · cases h
    · rcases h2 with ⟨_, _, h⟩ | ⟨h3, b, h5, h⟩
      · cases h
      · cases h
        have h6 := bi_range h5
        match es, h6, h1 with
        | [a], _, h1 =>
          have hs : srcOf (.bi .range [a]) = .range a := rfl
          rw [hs, evSrc]
          have heq : (evE X.ns C ρ a).bnd rangeV = (evEs X.ns C ρ [a]).bnd fun vs => match vs with
              | [v] => rangeV v
              | _ => stuck := by
            rw [evEs, evEs, bnd_assoc]
            rfl
          rw [heq]
          refine (Sm.go c F (sim_args (p := p) ha h1 c F) fun vs σ₁ us s₁ μ₁ c1 F1 S1 r => ?_).imp fun Q E h => call_bi L c F hg h3 h5 h1 h
          cases r with
          | nil => exact Sm.stuck
          | cons r1 r2 =>
            cases r2 with
            | cons _ _ => exact Sm.stuck
            | nil =>
              cases r1 <;> first | exact Sm.stuck | skip
              rename_i k tk
              show Sm X _ (rangeV (.int k) σ₁) _ _ _
              unfold rangeV
              dsimp only
              split
              · rename_i hk
                refine Sm.ok fun Q E hQ => call_range_1 (hQ _ _ _ (Step.push c1 _ _) ?_)
                exact .range hk.1 hk.2 (IsRange.new ..)
              · exact Sm.stuck
  · refine simI_at hS ht ?_ A env ρ s μ σ c F
    obtain ⟨rfl, hg, h⟩ := tr_call ht
    rcases h with ⟨_, _, _, _, _, _, _, _, _, _, rfl⟩ | ⟨es', h1, h2⟩
    · rfl
    · rcases h2 with ⟨_, _, rfl⟩ | ⟨h3, b, h5, rfl⟩
      · rfl
      · cases b <;> first | rfl | exact absurd ⟨_, rfl⟩ hb

/-- all trees -/
structure Sim (X : W) (C : Calls) (G : GT) (d : Nat) (hn : Bool) (e : Expr) : Prop where
  ev : SimE X C G d hn e
  tr : SimT X C G d hn e
  it : SimI X C G d hn e
theorem Sim.of_plain {e : Expr} (h : SimE X C G d hn e) (ht : ∀ env whole, isTrue e env whole = (do let v ← whole; standAt e.pos; holding [v] (truthy v))) (hc : isCallN e = false) : Sim X C G d hn e :=
  ⟨h, simT_plain h ht, simI_of h fun _ _ q => src_plain (tr_noBi q hc)⟩
theorem Sim.of_none {e : Expr} (h : ∀ cx, trE G cx e = none) : Sim X C G d hn e :=
  ⟨fun cx t q => (by rw [h cx] at q; cases q), fun cx t q => (by rw [h cx] at q; cases q), fun cx t q => (by rw [h cx] at q; cases q)⟩

theorem sim_all (L : Leaf X G C d hn) : ∀ (e : Expr), Sim X C G d hn e
  | .Constant k i p => .of_plain sim_const (fun _ _ => rfl) rfl
  | .Name x p => .of_plain (sim_name L.nm.gl) (fun _ _ => rfl) rfl
  | .BoolOp op es p => ⟨sim_boolop fun e he => (sim_all L e).ev, simT_boolop fun e he => (sim_all L e).tr, simI_of (sim_boolop fun e he => (sim_all L e).ev) fun _ _ q => src_plain (tr_noBi q rfl)⟩
  | .BinOp l op r p => .of_plain (sim_bin (sim_all L l).ev (sim_all L r).ev) (fun _ _ => rfl) rfl
  | .UnaryOp op a p => ⟨sim_unary (sim_all L a).ev, simT_unary (sim_all L a).ev (sim_all L a).tr, simI_of (sim_unary (sim_all L a).ev) fun _ _ q => src_plain (tr_noBi q rfl)⟩
  | .Compare l ops cs p => ⟨sim_compare (sim_all L l).ev fun e he => (sim_all L e).ev, simT_compare (sim_all L l).ev fun e he => (sim_all L e).ev, simI_of (sim_compare (sim_all L l).ev fun e he => (sim_all L e).ev) fun _ _ q => src_plain (tr_noBi q rfl)⟩
  | .Call (.Name f q) args kws p =>
    have h : SimE X C G d hn (.Call (.Name f q) args kws p) := sim_call L (fun e he => (sim_all L e).ev)
    ⟨h, simT_plain h fun _ _ => rfl, simI_call L (fun e he => (sim_all L e).ev) h⟩
  | .Call (.Attribute o m ap) args kws p => .of_plain (sim_method L (sim_all L o).ev fun e he => (sim_all L e).ev) (fun _ _ => rfl) rfl
  | .Subscript a (.Slice lo hi st q) p => .of_plain (sim_slice (sim_all L a).ev (fun e he => by subst he; exact (sim_all L e).ev) fun e he => by subst he; exact (sim_all L e).ev) (fun _ _ => rfl) rfl
  | .Subscript a i p => by
    by_cases hi : isSlice i = true
    · cases i <;> first | (simp [isSlice] at hi; done) | skip
      rename_i lo hi' st q
      exact .of_plain (sim_slice (sim_all L a).ev (fun e he => by subst he; exact (sim_all L e).ev) fun e he => by subst he; exact (sim_all L e).ev) (fun _ _ => rfl) rfl
    · exact .of_plain (sim_sub (sim_all L a).ev (sim_all L i).ev (by simpa using hi)) (fun _ _ => rfl) rfl
  | .List es p => .of_plain (sim_list fun e he => (sim_all L e).ev) (fun _ _ => rfl) rfl
  | .Tuple es k p => .of_plain (sim_tuple fun e he => (sim_all L e).ev) (fun _ _ => rfl) rfl
  | .ListComp elt gens sc p => .of_plain (sim_comp L (fun g hg => (sim_all L g.iter).it) (sim_all L elt).ev fun g hg c hc => (sim_all L c).tr) (fun _ _ => rfl) rfl
  | .Attribute .. => .of_none fun _ => by unfold trE; rfl
  | .Dict .. => .of_none fun _ => by unfold trE; rfl
  | .NamedExpr .. => .of_none fun _ => by unfold trE; rfl
  | .Lambda .. => .of_none fun _ => by unfold trE; rfl
  | .IfExp .. => .of_none fun _ => by unfold trE; rfl
  | .Set .. => .of_none fun _ => by unfold trE; rfl
  | .SetComp .. => .of_none fun _ => by unfold trE; rfl
  | .DictComp .. => .of_none fun _ => by unfold trE; rfl
  | .GeneratorExp .. => .of_none fun _ => by unfold trE; rfl
  | .Await .. => .of_none fun _ => by unfold trE; rfl
  | .Yield .. => .of_none fun _ => by unfold trE; rfl
  | .YieldFrom .. => .of_none fun _ => by unfold trE; rfl
  | .FormattedValue .. => .of_none fun _ => by unfold trE; rfl
  | .JoinedStr .. => .of_none fun _ => by unfold trE; rfl
  | .Starred .. => .of_none fun _ => by unfold trE; rfl
  | .Slice .. => .of_none fun _ => by unfold trE; rfl
  | .Call f args kws p => by
    cases f <;> first | (refine .of_none fun _ => ?_; unfold trE; cases kws <;> rfl) | skip
    · rename_i o m ap
      exact .of_plain (sim_method L (sim_all L o).ev fun e he => (sim_all L e).ev) (fun _ _ => rfl) rfl
    · rename_i f q
      have h : SimE X C G d hn (.Call (.Name f q) args kws p) := sim_call L (fun e he => (sim_all L e).ev)
      exact ⟨h, simT_plain h fun _ _ => rfl, simI_call L (fun e he => (sim_all L e).ev) h⟩
termination_by e => sizeOf e
decreasing_by
  all_goals first
    | (have h1 := List.sizeOf_lt_of_mem hg; have h2 : sizeOf g.ifs < sizeOf g := (by cases g; simp; omega); have h3 := List.sizeOf_lt_of_mem hc; simp_wf; omega)
    | (have h1 := List.sizeOf_lt_of_mem hg; have h2 : sizeOf g.iter < sizeOf g := (by cases g; simp; omega); simp_wf; omega)
    | (have := List.sizeOf_lt_of_mem he; simp_wf; omega)
    | decreasing_tactic
end
end Mine

set_option maxRecDepth 100000
namespace Mine
open PySem PyProof.Rows PySem.Calls

/-- a frame's own places -/
noncomputable def Own (env : PySem.Env) (b : Addr) : Prop := b = env.locals ∨ ∃ x, env.cells.lookup x = some b
/-- they are newer than the text -/
structure Lo (X : W) (env : PySem.Env) : Prop where
  l : X.h₀.objs.size ≤ env.locals
  c : ∀ x a, env.cells.lookup x = some a → X.h₀.objs.size ≤ a
theorem Lo.own {X : W} {env : PySem.Env} (lo : Lo X env) {b : Addr} (h : Own env b) : X.h₀.objs.size ≤ b := by
  rcases h with rfl | ⟨x, h⟩
  · exact lo.l
  · exact lo.c x b h

structure StepE (X : W) (env : PySem.Env) (s : Shared) (μ : List Addr) (s' : Shared) (μ' : List Addr) (σ' : H) : Prop where
  hr : HR X μ' σ' s'.heap
  keep : ∀ b o, b ∉ μ → ¬ Own env b → s.heap.get? b = some o → ∃ sl, s'.heap.get? b = some { o with slots := sl } ∧ ((∀ es n, o.data ≠ .dict es n) → sl = o.slots)
  base : Base X s'.heap
  size : s.heap.objs.size ≤ s'.heap.objs.size
  ext : ∃ ν, μ' = μ ++ ν ∧ ∀ a ∈ ν, s.heap.objs.size ≤ a
  gens : s'.gens = s.gens
  os : s'.os = s.os

inductive FlR (X : W) (h : Heap) (μ : List Addr) : Fl → Flow → Prop
  | next : FlR X h μ .next .next
  | ret {v : V} {u : Value} : VR X h μ v u → FlR X h μ (.ret v) (.ret u)

noncomputable def SmS (X : W) (env : PySem.Env) (cx : Cx) (P : PT Flow) (r : RS) (s : Shared) (μ : List Addr) : Prop :=
  r ≠ .stuck → ∀ Q E, (∀ f ρ' σ' fl s' μ', r = .ok f ρ' σ' → StepE X env s μ s' μ' σ' → FR X env cx ρ' s'.heap μ' → FlR X s'.heap μ' f fl → Q fl s') → P Q E s

section
variable {X : W} {A : Around} {d : Nat} {hn : Bool} {s s' s'' s₀ : Shared} {μ μ' μ'' μ₀ : List Addr} {σ σ' σ'' σ₀ : H} {env : PySem.Env} {cx cx' : Cx} {ρ ρ' : Env} {C D : Calls} {G : GT}

theorem Step.e (S : Step X s μ s' μ' σ') : StepE X env s μ s' μ' σ' := ⟨S.hr, fun b o hb _ e => S.keep b o hb e, S.base, S.size, S.ext, S.gens, S.os⟩
theorem StepE.trans (S : StepE X env s μ s' μ' σ') (S' : StepE X env s' μ' s'' μ'' σ'') : StepE X env s μ s'' μ'' σ'' := by
  obtain ⟨ν, rfl, hν⟩ := S.ext
  obtain ⟨ν', rfl, hν'⟩ := S'.ext
  refine ⟨S'.hr, fun b o hb hO e => ?_, S'.base, Nat.le_trans S.size S'.size, ⟨ν ++ ν', by rw [List.append_assoc], fun a ha => ?_⟩, S'.gens.trans S.gens, S'.os.trans S.os⟩
  · obtain ⟨sl, e1, q1⟩ := S.keep b o hb hO e
    have hb' : b ∉ μ ++ ν := fun hm => by
      rcases List.mem_append.mp hm with h1 | h1
      · exact hb h1
      · exact absurd (Heap.lt_size e) (Nat.not_lt.mpr (hν b h1))
    obtain ⟨sl', e2, q2⟩ := S'.keep b _ hb' hO e1
    exact ⟨sl', e2, fun hd => (q2 hd).trans (q1 hd)⟩
  · rcases List.mem_append.mp ha with h1 | h1
    · exact hν a h1
    · exact Nat.le_trans S.size (hν' a h1)
theorem StepE.get (S : StepE X env s μ s' μ' σ') : ∀ (i : Nat) (a : Addr), μ[i]? = some a → μ'[i]? = some a := by
  obtain ⟨ν, rfl, _⟩ := S.ext
  exact ext_get
theorem StepE.notIn (S : StepE X env s μ s' μ' σ') {b : Addr} (hb : b ∉ μ) (hl : b < s.heap.objs.size) : b ∉ μ' := by
  obtain ⟨ν, rfl, hν⟩ := S.ext
  intro hm
  rcases List.mem_append.mp hm with h1 | h1
  · exact hb h1
  · exact absurd hl (Nat.not_lt.mpr (hν b h1))
/-- the stack's frames are this one, or others than its places -/
noncomputable def FrOk (A : Around) (env : PySem.Env) : Prop := ∀ fs, A.frames = some fs → ∀ e ∈ fs, ∀ L, e.frame = some L → L = env.locals ∨ ¬ Own env L
theorem StepE.ff (S : StepE X env s μ s' μ' σ') (F : FR X env cx ρ' s'.heap μ') : ∀ {l : List PySem.Env}, (∀ e ∈ l, ∀ L, e.frame = some L → L = env.locals ∨ ¬ Own env L) → FF X s.heap μ l → FF X s'.heap μ' l
  | [], _, _ => trivial
  | e :: r, ho, h => by
    obtain ⟨⟨a, L, o, es, n, e1, e2, e3, e4, e5⟩, hr⟩ := h
    refine ⟨⟨a, L, ?_⟩, S.ff F (fun x hx => ho x (List.mem_cons_of_mem _ hx)) hr⟩
    rcases ho e List.mem_cons_self L e1 with q | q
    · obtain ⟨m, ⟨o', es', ep', k1, k2, _⟩, _⟩ := F.ns
      subst q
      exact ⟨o', es', ep', e1, e2, F.offL, k1, k2⟩
    · obtain ⟨sl, k1, _⟩ := S.keep L o e3 q e4
      exact ⟨_, es, n, e1, e2, S.notIn e3 (Heap.lt_size e4), k1, e5⟩
theorem Cn.stepE (c : Cn X A d hn s μ σ) (S : StepE X env s μ s' μ' σ') (F : FR X env cx ρ' s'.heap μ') (ho : FrOk A env) : Cn X A d hn s' μ' σ' :=
  ⟨c.rm, S.hr, S.base, (let ⟨fs, e, f⟩ := c.fs; ⟨fs, e, S.ff F (ho fs e) f⟩), c.scr⟩

/-- a change to one of the frame's places -/
theorem StepE.of_move {a : Addr} (c : Cn X A d hn s μ σ) (m : Move [a] s s') (ha : Own env a) (lo : Lo X env) (hs : Soft s.heap μ a) : StepE X env s μ s' μ σ where
  hr := m.hr (fun b hb => by rw [List.mem_singleton.mp hb]; exact hs) c.hr
  keep := fun b o _ hO e => ⟨o.slots, m.keep b o (fun hm => hO (List.mem_singleton.mp hm ▸ ha)) e, fun _ => rfl⟩
  base := ⟨fun b o e => m.keep b o (fun hm => absurd (Heap.lt_size e) (Nat.not_lt.mpr (List.mem_singleton.mp hm ▸ lo.own ha))) (c.base.keep b o e), Nat.le_trans c.base.size m.size, c.base.low⟩
  size := m.size
  ext := ⟨[], by simp, fun _ h => nomatch h⟩
  gens := m.gens
  os := m.os

theorem set_get {k j : Nat} {v w : V} (hk : k < ρ.length) (h : (ρ.set k (some v))[j]? = some (some w)) : (j = k ∧ w = v) ∨ (j ≠ k ∧ ρ[j]? = some (some w)) := by
  by_cases hj : k = j
  · subst hj
    rw [List.getElem?_set_self hk] at h
    cases h; exact .inl ⟨rfl, rfl⟩
  · rw [List.getElem?_set_ne hj] at h
    exact .inr ⟨fun e => hj e.symm, h⟩

theorem sm_store (c : Cn X A d hn s μ σ) (F : FR X env cx ρ s.heap μ) (lo : Lo X env) {x : Str} {k : Nat} (hk : cx.slot x = some k) {v : V} {u : Value} (r : VR X s.heap μ v u) {Q : Unit → Shared → Prop} {E : Value → Shared → Prop}
    (h : ∀ s', StepE X env s μ s' μ σ → FR X env cx (ρ.set k (some v)) s'.heap μ → Q () s') : wpAny (Mo X) A (storeName env x u) Q E s := by
  unfold Cx.slot at hk
  split at hk
  · rename_i hkd
    obtain ⟨m, n, hm⟩ := F.ns
    have hkl : k < ρ.length := by rw [F.len]; exact F.bound x k hk
    refine wpAny_storeName_local (by rw [F.kindOf]; exact hkd) n (fun h' hn' hs' => ?_) (by rw [F.kind]; rfl)
    have hsf : Soft s.heap μ env.locals := softC n F.offL _ (List.mem_singleton.mpr rfl)
    have M : Move [env.locals] s { s with heap := h', toks := s.toks + 1 } := ⟨fun b o hb e => (hs'.2 b fun q => hb (by simp [q])).trans e, Nat.le_of_eq hs'.1.symm, rfl, rfl⟩
    have sf : ∀ b ∈ [env.locals], Soft s.heap μ b := fun b hb => by rw [List.mem_singleton.mp hb]; exact hsf
    refine h _ (.of_move c M (.inl rfl) lo hsf) { F with
      ns := ⟨_, hn', fun y j w e1 e2 e3 => ?_⟩
      cell := fun y j e1 e2 => ?_
      offC := fun y cc e => ⟨(F.offC y cc e).1, (F.offC y cc e).2.1, Nat.lt_of_lt_of_le (F.offC y cc e).2.2 M.size⟩
      len := by rw [List.length_set]; exact F.len }
    · rcases set_get hkl e3 with ⟨rfl, rfl⟩ | ⟨hne, e4⟩
      · have : y = x := F.slots y x j e2 hk
        subst this
        exact ⟨u, by simp, M.vr sf r⟩
      · obtain ⟨w', a1, a2⟩ := hm y j w e1 e2 e4
        have hyx : y ≠ x := fun q => by subst q; rw [hk] at e2; cases e2; exact hne rfl
        exact ⟨w', by rw [if_neg hyx]; exact a1, M.vr sf a2⟩
    · obtain ⟨cc, w, a1, a2, a3⟩ := F.cell y j e1 e2
      refine ⟨cc, w, a1, a2.sameBut hs' ((F.offC y cc a1).2.1), fun v' hv' => ?_⟩
      rcases set_get hkl hv' with ⟨rfl, rfl⟩ | ⟨hne, e4⟩
      · have : y = x := F.slots y x j e2 hk
        subst this
        rw [hkd] at e1; cases e1
      · obtain ⟨z, b1, b2⟩ := a3 v' e4
        exact ⟨z, b1, M.vr sf b2⟩
  · rename_i hkd
    have hkl : k < ρ.length := by rw [F.len]; exact F.bound x k hk
    obtain ⟨cc, w, a1, a2, a3⟩ := F.cell x k hkd hk
    refine wpAny_storeName_cell F.kind (by rw [F.kindOf]; exact hkd) a1 a2 fun h' hc' hs' => ?_
    have hsf : Soft s.heap μ cc := ⟨(F.offC x cc a1).1, fun o e hS => by
      obtain ⟨o', e', hd⟩ := a2
      rw [e] at e'; cases e'
      exact hS.2.2 _ hd⟩
    have M : Move [cc] s { s with heap := h' } := ⟨fun b o hb e => (hs'.2 b fun q => hb (by simp [q])).trans e, Nat.le_of_eq hs'.1.symm, rfl, rfl⟩
    have sf : ∀ b ∈ [cc], Soft s.heap μ b := fun b hb => by rw [List.mem_singleton.mp hb]; exact hsf
    obtain ⟨m, n, hm⟩ := F.ns
    refine h _ (.of_move c M (.inr ⟨x, a1⟩) lo hsf) { F with
      ns := ⟨m, n.sameBut hs' (Ne.symm (F.offC x cc a1).2.1), fun y j w' e1 e2 e3 => ?_⟩
      cell := fun y j e1 e2 => ?_
      offC := fun y c' e => ⟨(F.offC y c' e).1, (F.offC y c' e).2.1, Nat.lt_of_lt_of_le (F.offC y c' e).2.2 M.size⟩
      len := by rw [List.length_set]; exact F.len }
    · rcases set_get hkl e3 with ⟨rfl, rfl⟩ | ⟨hne, e4⟩
      · have : y = x := F.slots y x j e2 hk
        subst this
        rw [hkd] at e1; cases e1
      · obtain ⟨w2, b1, b2⟩ := hm y j w' e1 e2 e4
        exact ⟨w2, b1, M.vr sf b2⟩
    · obtain ⟨c2, w2, b1, b2, b3⟩ := F.cell y j e1 e2
      by_cases hyx : y = x
      · subst hyx
        rw [a1] at b1; cases b1
        rw [hk] at e2; cases e2
        refine ⟨cc, some u, a1, hc', fun v' hv' => ?_⟩
        rcases set_get hkl hv' with ⟨_, rfl⟩ | ⟨hne, _⟩
        · exact ⟨u, rfl, M.vr sf r⟩
        · exact absurd rfl hne
      · have hcc : c2 ≠ cc := fun q => hyx (F.apart y x cc (q ▸ b1) a1)
        refine ⟨c2, w2, b1, b2.sameBut hs' hcc, fun v' hv' => ?_⟩
        rcases set_get hkl hv' with ⟨rfl, rfl⟩ | ⟨hne, e4⟩
        · exact absurd (F.slots y x j e2 hk) hyx
        · obtain ⟨z, d1, d2⟩ := b3 v' e4
          exact ⟨z, d1, M.vr sf d2⟩
  · cases hk

theorem SmS.mono {P P' : PT Flow} {r : RS} (h : SmS X env cx P r s μ) (hp : ∀ Q E, P Q E s → P' Q E s) : SmS X env cx P' r s μ := fun hne Q E hQ => hp Q E (h hne Q E hQ)
end
end Mine

set_option maxRecDepth 100000
namespace Mine
open PySem PyProof.Rows PySem.Calls

section
variable {X : W} {A : Around} {d : Nat} {hn : Bool} {s s' s'' s₀ : Shared} {μ μ' μ'' μ₀ : List Addr} {σ σ' σ'' σ₀ : H} {env : PySem.Env} {cx cx' : Cx} {ρ ρ' : Env} {C : Calls} {G : GT} {own : List Addr} {it : It} {J : Addr}

theorem ofE_ok {α : Type} {r : R α} {k : α → H → RS} {a : α} {σ : H} (e : r = .ok a σ) : RS.ofE r k = k a σ := by rw [e]; rfl
theorem ofE_stuck {α : Type} {r : R α} {k : α → H → RS} (e : r = .stuck) : RS.ofE r k = .stuck := by rw [e]; rfl

theorem SmS.bind {α β : Type} {P : PT β} {P2 : β → PT Flow} {m : M α} {k : α → H → RS} {rel : Heap → List Addr → α → β → Prop} (c : Cn X A d hn s μ σ) (F : FR X env cx ρ s.heap μ)
    (h1 : Sm X P (m σ) rel s μ) (h2 : ∀ a σ₁ b s₁ μ₁, Cn X A d hn s₁ μ₁ σ₁ → FR X env cx ρ s₁.heap μ₁ → Step X s μ s₁ μ₁ σ₁ → rel s₁.heap μ₁ a b → SmS X env cx (P2 b) (k a σ₁) s₁ μ₁) :
    SmS X env cx (fun Q E s => P (fun b s₁ => P2 b Q E s₁) E s) (RS.ofE (m σ) k) s μ := by
  intro hne Q E hQ
  refine h1 (fun e => hne (ofE_stuck e)) _ _ fun a σ₁ b s₁ μ₁ e1 S1 r1 => ?_
  have e : RS.ofE (m σ) k = k a σ₁ := ofE_ok e1
  exact h2 a σ₁ b s₁ μ₁ (c.step S1) (F.step c.hr S1) S1 r1 (e ▸ hne) Q E fun f ρ' σ₂ fl s₂ μ₂ e2 S2 F2 r2 => hQ f ρ' σ₂ fl s₂ μ₂ (e.trans e2) (S1.e.trans S2) F2 r2
theorem SmS.ok {P : PT Flow} {f : Fl} (h : ∀ Q E, (∀ fl s' μ', StepE X env s μ s' μ' σ → FR X env cx ρ s'.heap μ' → FlR X s'.heap μ' f fl → Q fl s') → P Q E s) : SmS X env cx P (.ok f ρ σ) s μ :=
  fun _ Q E hQ => h Q E fun fl s' μ' S F r => hQ f ρ σ fl s' μ' rfl S F r
theorem SmS.stuck {P : PT Flow} : SmS X env cx P .stuck s μ := fun h => absurd rfl h
theorem Cn.e (c : Cn X A d hn s μ σ) : StepE X env s μ s μ σ := (Step.refl c.hr c.base).e

/-- what the statements do -/
noncomputable def SimS (X : W) (C : Calls) (G : GT) (d : Nat) (hn : Bool) (st : Stmt) : Prop :=
  ∀ (cx : Cx) (t : S), trS G cx st = some t → ∀ (A : Around) (env : PySem.Env) (ρ : Env) (s : Shared) (μ : List Addr) (σ : H), Cn X A d hn s μ σ → FR X env cx ρ s.heap μ → Lo X env → FrOk A env →
    SmS X env cx (fun Q E s => wpAny (Mo X) A (exec st env) Q E s) (evS X.ns C ρ σ t) s μ
noncomputable def SimSs (X : W) (C : Calls) (G : GT) (d : Nat) (hn : Bool) (sts : List Stmt) : Prop :=
  ∀ (cx : Cx) (ts : List S), trSs G cx sts = some ts → ∀ (A : Around) (env : PySem.Env) (ρ : Env) (s : Shared) (μ : List Addr) (σ : H), Cn X A d hn s μ σ → FR X env cx ρ s.heap μ → Lo X env → FrOk A env →
    SmS X env cx (fun Q E s => wpAny (Mo X) A (execs sts env) Q E s) (evSs X.ns C ρ σ ts) s μ

theorem sim_nil : SimSs X C G d hn [] := by
  intro cx ts ht A env ρ s μ σ c F lo ho
  unfold trSs at ht; cases ht
  rw [evSs]
  exact SmS.ok fun Q E hQ => wpAny_execs_nil (hQ _ _ _ c.e F .next)
theorem evSs_cons {t : S} {ts : List S} : evSs X.ns C ρ σ (t :: ts) = match evS X.ns C ρ σ t with
    | .ok .next ρ' σ' => evSs X.ns C ρ' σ' ts
    | x => x := by rw [evSs] <;> rfl
theorem sim_cons {st : Stmt} {sts : List Stmt} (h1 : SimS X C G d hn st) (h2 : SimSs X C G d hn sts) : SimSs X C G d hn (st :: sts) := by
  intro cx ts ht A env ρ s μ σ c F lo ho
  unfold trSs at ht
  cases e1 : trS G cx st with
  | none => simp [e1] at ht
  | some a =>
    cases e2 : trSs G cx sts with
    | none => simp [e1, e2] at ht
    | some b =>
      simp only [e1, e2, Option.some.injEq] at ht
      subst ht
      rw [evSs_cons]
      intro hne Q E hQ
      refine wpAny_execs_cons (h1 cx a e1 A env ρ s μ σ c F lo ho (fun e => by rw [e] at hne; exact hne rfl) _ _ fun f ρ' σ' fl s' μ' e' S' F' r' => ?_)
      · rw [e'] at hne hQ
        cases r' with
        | next =>
          exact h2 cx b e2 A env ρ' s' μ' σ' (c.stepE S' F' ho) F' lo ho hne Q E fun f ρ'' σ'' fl s'' μ'' e'' S'' F'' r'' => hQ f ρ'' σ'' fl s'' μ'' e'' (S'.trans S'') F'' r''
        | ret r => exact hQ _ ρ' σ' _ s' μ' rfl S' F' (.ret r)

theorem sim_return {v : Expr} {p : Pos} (hv : SimE X C G d hn v) : SimS X C G d hn (.Return (some v) p) := by
  intro cx t ht A env ρ s μ σ c F lo ho
  unfold trS at ht
  cases e1 : trE G cx v with
  | none => simp [e1] at ht
  | some a =>
    simp only [e1, Option.map_some, Option.some.injEq] at ht
    subst ht
    rw [evS]
    exact (SmS.bind c F (hv cx a e1 A env ρ s μ σ c F) (P2 := fun u Q E s => Q (.ret u) s) fun v σ₁ u s₁ μ₁ c1 F1 S1 r => SmS.ok fun Q E hQ => hQ _ _ _ c1.e F1 (.ret r)).mono fun Q E h => wpAny_Return_some h
theorem sim_if {t : Expr} {a b : List Stmt} {p : Pos} (ht : SimT X C G d hn t) (ha : SimSs X C G d hn a) (hb : SimSs X C G d hn b) : SimS X C G d hn (.If t a b p) := by
  intro cx T hT A env ρ s μ σ c F lo ho
  unfold trS at hT
  cases e1 : trE G cx t with
  | none => simp [e1] at hT
  | some q =>
    cases e2 : trSs G cx a with
    | none => simp [e1, e2] at hT
    | some x =>
      cases e3 : trSs G cx b with
      | none => simp [e1, e2, e3] at hT
      | some y =>
        simp only [e1, e2, e3, Option.some.injEq] at hT
        subst hT
        have he : evS X.ns C ρ σ (.ite q x y) = RS.ofE ((evE X.ns C ρ q).bnd asB σ) fun b σ' => if b then evSs X.ns C ρ σ' x else evSs X.ns C ρ σ' y := by
          rw [evS]
          unfold M.bnd
          cases evE X.ns C ρ q σ with
          | ok v σ' =>
            cases v with
            | bool b => cases b <;> rfl
            | _ => rfl
          | stuck => rfl
        rw [he]
        refine (SmS.bind c F (ht cx q e1 A env ρ s μ σ c F) (P2 := fun b' Q E s₂ => if b' then wpAny (Mo X) A (execs a env) Q E s₂ else wpAny (Mo X) A (execs b env) Q E s₂) fun b' σ₁ b'' s₁ μ₁ c1 F1 S1 r => ?_).mono fun Q E h => wpAny_If h
        cases r
        cases b' with
        | true => exact ha cx x e2 A env ρ s₁ μ₁ σ₁ c1 F1 lo ho
        | false => exact hb cx y e3 A env ρ s₁ μ₁ σ₁ c1 F1 lo ho
theorem notList_swap {e : Expr} {env : PySem.Env} {tg : Option Expr} {l : Nat} (h : ∀ a b c p, e ≠ .ListComp a b c p) (h2 : ∀ a b c p, e ≠ .SetComp a b c p) (h3 : ∀ a b c q p, e ≠ .DictComp a b c q p) : swapsWith e tg l env = pure false := by
  unfold swapsWith
  cases e <;> first | rfl | exact absurd rfl (h _ _ _ _) | exact absurd rfl (h2 _ _ _ _) | exact absurd rfl (h3 _ _ _ _ _)

theorem sim_assign (L : Leaf X G C d hn) {x : Str} {px p : Pos} {v : Expr} (hv : SimE X C G d hn v) (hc : ∀ elt gens sc q, v = .ListComp elt gens sc q → (∀ g ∈ gens, SimI X C G d hn g.iter) ∧ SimE X C G d hn elt ∧ ∀ g ∈ gens, ∀ c ∈ g.ifs, SimT X C G d hn c) :
    SimS X C G d hn (.Assign [.Name x px] v p) := by
  intro cx t ht A env ρ s μ σ c F lo ho
  unfold trS at ht
  simp only [oneName, nameOf, Option.bind_some] at ht
  cases e1 : cx.slot x with
  | none => simp [e1] at ht
  | some k =>
    cases e2 : trE G cx v with
    | none => simp [e1, e2] at ht
    | some a =>
      simp only [e1, e2, Option.some.injEq] at ht
      subst ht
      have hkl : k < ρ.length := by
        rw [F.len]
        unfold Cx.slot at e1
        split at e1
        · exact F.bound x k e1
        · exact F.bound x k e1
        · cases e1
      have he : evS X.ns C ρ σ (.assign k a) = RS.ofE (evE X.ns C ρ a σ) fun v σ' => .ok .next (ρ.set k (some v)) σ' := by
        rw [evS]
        simp only [if_pos hkl]
      rw [he]
      have plain : swapsWith v (some (.Name x px)) p.line env = pure false → SmS X env cx (fun Q E s => wpAny (Mo X) A (exec (.Assign [.Name x px] v p) env) Q E s) (RS.ofE (evE X.ns C ρ a σ) fun v σ' => .ok .next (ρ.set k (some v)) σ') s μ := fun hsw =>
        (SmS.bind c F (hv cx a e2 A env ρ s μ σ c F) (P2 := fun u Q E s₁ => wpAny (Mo X) A (storeName env x u) (fun _ => Q .next) E s₁) fun w σ₁ u s₁ μ₁ c1 F1 S1 r =>
          SmS.ok fun Q E hQ => sm_store c1 F1 lo e1 r fun s' S' F' => hQ _ _ _ S' F' .next).mono fun Q E h => wpAny_Assign_Name h hsw
      by_cases hlc : ∃ elt gens sc q, v = .ListComp elt gens sc q
      · obtain ⟨elt, gens, sc, q, rfl⟩ := hlc
        obtain ⟨i1, i2, i3⟩ := hc elt gens sc q rfl
        obtain ⟨y, py, iter, ifs, cx', ti, e, cond, rfl, hcx, h3, h4, rfl, h5⟩ := tr_comp e2
        have hsw : ∃ b, swapsWith (.ListComp elt [⟨.Name y py, iter, ifs, 0⟩] sc q) (some (.Name x px)) p.line env = pure b ∧ (b = true → env.kindOf x = some .local) := by
          refine ⟨_, rfl, fun hb => ?_⟩
          simp only [Bool.and_eq_true, beq_iff_eq] at hb
          exact hb.1.1.2
        obtain ⟨b, hsw, hloc⟩ := hsw
        cases b with
        | false => exact plain hsw
        | true =>
          intro hne Q E hQ
          rw [exec_Assign_Name_used _ _ _ _ hsw]
          refine wpAny_bind (wpAny_standAt (wpAny_bind ?_))
          show wpAny _ A (do let _ ← comprehension (.ListComp elt [⟨.Name y py, iter, ifs, 0⟩] sc q) sc env _ (newList []) false (eval iter env) (some (assign (.Name x px) env))) _ _ s
          refine wpAny_bind (wpAny_mono (comp_core L (i1 _ List.mem_cons_self) i2 (i3 _ List.mem_cons_self) c F hcx h3 h4 h5 (use := some (assign (.Name x px) env)) (Q := fun _ s' => Q .next s') (E := E) (fun e => hne (ofE_stuck e)) ?_) (fun _ s' hq => wpAny_pure (wpAny_pure hq)) fun _ _ e => e)
          intro acc σ' s' μ' D' Cc k' ys m e' S' el r' z' n' d' hCm hD hC hDC
          show wpAny _ A (assign (.Name x px) env (.ref D')) _ _ _
          have eS := S'.adopt c.base d' hD (o := .list acc) (.list (l := ys.toList) (n := k') (by simpa using el) (by rw [← r'.length]; exact z') (r'.mono (fun _ _ e _ => e) ext_get))
          have c1 := c.step eS
          have F1 := F.step c.hr eS
          have hCm' : Cc ∉ μ' ++ [D'] := fun hm => by
            rcases List.mem_append.mp hm with q | q
            · exact hCm q
            · exact hDC (List.mem_singleton.mp q).symm
          refine wpAny_assign_Name (sm_store c1 F1 lo e1 (v := .ref σ'.length) (.ref (by rw [← S'.hr.len, List.getElem?_append_right (Nat.le_refl _)]; simp)) fun s₂ S₂ F₂ => ?_)
          have hlc : env.locals ≠ Cc := by
            obtain ⟨m', n', _⟩ := F.ns
            exact Nat.ne_of_lt (Nat.lt_of_lt_of_le n'.lt hC)
          have hOC : ¬ Own env Cc := fun h => by
            rcases h with h | ⟨z, h⟩
            · exact hlc h.symm
            · exact absurd (F.offC z Cc h).2.2 (Nat.not_lt.mpr hC)
          have nC : s₂.heap.Ns Cc m := by
            obtain ⟨o, es, ep, eo, hd, rr⟩ := n'
            obtain ⟨sl, e'', _⟩ := S₂.keep Cc o hCm' hOC eo
            exact ⟨_, es, ep, e'', hd, rr⟩
          refine ⟨m, nC, fun h' hs' => ?_⟩
          have hCm2 : Cc ∉ μ' ++ [D'] := hCm'
          have M1 : Move [Cc] s₂ { s₂ with heap := h' } := ⟨fun b o hb e => (hs'.2 b fun q => hb (by simp [q])).trans e, Nat.le_of_eq hs'.1.symm, rfl, rfl⟩
          have sf := softC nC hCm2
          have SE : StepE X env s μ s₂ (μ' ++ [D']) (σ' ++ [.list acc]) := eS.e.trans S₂
          refine hQ .next _ (σ' ++ [.list acc]) .next _ (μ' ++ [D']) (ofE_ok e') ⟨M1.hr sf SE.hr, fun b o hb hO eb => ?_, ⟨fun b o eb => M1.keep b o (fun hm => ?_) (SE.base.keep b o eb), Nat.le_trans SE.base.size M1.size, SE.base.low⟩, Nat.le_trans SE.size M1.size, SE.ext, M1.gens.trans SE.gens, M1.os.trans SE.os⟩ ?_ .next
          · obtain ⟨sl, e'', q''⟩ := SE.keep b o hb hO eb
            exact ⟨sl, M1.keep b _ (fun hm => absurd (Heap.lt_size eb) (Nat.not_lt.mpr (List.mem_singleton.mp hm ▸ hC))) e'', q''⟩
          · have := Heap.lt_size (c.base.keep b o eb)
            exact absurd this (Nat.not_lt.mpr (List.mem_singleton.mp hm ▸ hC))
          · exact { F₂ with
              ns := by
                obtain ⟨mm, n2, hm2⟩ := F₂.ns
                exact ⟨mm, n2.sameBut hs' hlc, fun z j w e1 e2 e3 => let ⟨u, b1, b2⟩ := hm2 z j w e1 e2 e3; ⟨u, b1, M1.vr sf b2⟩⟩
              cell := fun z j e1 e2 => by
                obtain ⟨cc, w, b1, b2, b3⟩ := F₂.cell z j e1 e2
                exact ⟨cc, w, b1, b2.sameBut hs' (fun q => absurd (F.offC z cc b1).2.2 (Nat.not_lt.mpr (q ▸ hC))), fun v' hv' => let ⟨u, d1, d2⟩ := b3 v' hv'; ⟨u, d1, M1.vr sf d2⟩⟩
              offC := fun z cc h => ⟨(F₂.offC z cc h).1, (F₂.offC z cc h).2.1, Nat.lt_of_lt_of_le (F₂.offC z cc h).2.2 M1.size⟩ }
      · refine plain (notList_swap (fun a b c' p' h => hlc ⟨a, b, c', p', h⟩) (fun a b c' p' h => ?_) fun a b c' q' p' h => ?_)
        · subst h; unfold trE at e2; cases e2
        · subst h; unfold trE at e2; cases e2
end
end Mine

set_option maxRecDepth 100000
namespace Mine
open PySem PyProof.Rows PySem.Calls

section
variable {X : W} {A : Around} {d : Nat} {hn : Bool} {s s' s'' s₀ : Shared} {μ μ' μ'' μ₀ : List Addr} {σ σ' σ'' σ₀ : H} {env : PySem.Env} {cx cx' : Cx} {ρ ρ' ρ₀ : Env} {C : Calls} {G : GT} {own : List Addr} {it : It} {J : Addr}

theorem StepE.move (S : StepE X env s₀ μ₀ s μ σ) (m : Move own s s') (hp : ∀ b ∈ own, Soft s.heap μ b) (hnew : ∀ b ∈ own, s₀.heap.objs.size ≤ b) (hB : Base X s₀.heap) : StepE X env s₀ μ₀ s' μ σ where
  hr := m.hr hp S.hr
  keep := fun b o hb hO e => by
    obtain ⟨sl, e1, q⟩ := S.keep b o hb hO e
    exact ⟨sl, m.keep b _ (fun hm => absurd (Heap.lt_size e) (Nat.not_lt.mpr (hnew b hm))) e1, q⟩
  base := ⟨fun b o e => m.keep b o (fun hm => absurd (Heap.lt_size (hB.keep b o e)) (Nat.not_lt.mpr (hnew b hm))) (S.base.keep b o e), Nat.le_trans S.base.size m.size, S.base.low⟩
  size := Nat.le_trans S.size m.size
  ext := S.ext
  gens := m.gens.trans S.gens
  os := m.os.trans S.os
theorem JR.stepE (j : JR X s.heap μ it J own) (R : HR X μ σ s.heap) (S : StepE X env s μ s' μ' σ') (ho : ∀ b ∈ own, ¬ Own env b) : JR X s'.heap μ' it J own :=
  j.keeps (fun b hb o e => by
    obtain ⟨sl, e1, q⟩ := S.keep b o ((j.priv b hb).off R) (ho b hb) e
    rw [q ((j.priv b hb).notDict e)] at e1; exact e1) S.get

structure LInv (X : W) (env : PySem.Env) (cx : Cx) (s₀ : Shared) (μ₀ : List Addr) (own : List Addr) (J : Addr) (go : Nat → It → Env → H → RS) (r₀ : RS) (n : Nat) (s : Shared) (μ : List Addr) (σ : H) (it : It) (ρ : Env) : Prop where
  step : StepE X env s₀ μ₀ s μ σ
  fr : FR X env cx ρ s.heap μ
  jr : JR X s.heap μ it J own
  go : go n it ρ σ = r₀

/-- a for loop -/
theorem for_loop {target : Expr} {body : List Stmt} {tgt : V → Env → Option Env} {bd : Env → H → RS} {r₀ : RS} {n : Nat} {Q : Flow → Shared → Prop} {E : Value → Shared → Prop}
    (c₀ : Cn X A d true s₀ μ₀ σ₀) (F₀ : FR X env cx ρ₀ s₀.heap μ₀) (ho : FrOk A env) (hne : r₀ ≠ .stuck) (hown : ∀ b ∈ own, s₀.heap.objs.size ≤ b)
    (hasg : ∀ v u ρ ρ' s μ σ, tgt v ρ = some ρ' → Cn X A d true s μ σ → FR X env cx ρ s.heap μ → VR X s.heap μ v u → ∀ (Q : Unit → Shared → Prop) (E : Value → Shared → Prop), (∀ s', StepE X env s μ s' μ σ → FR X env cx ρ' s'.heap μ → Q () s') → wpAny (Mo X) A (assign target env u) Q E s)
    (hlet : ∀ v, letOwnedTupleGo target (.ref J) v = pure ())
    (hbody : ∀ ρ s μ σ, Cn X A d true s μ σ → FR X env cx ρ s.heap μ → SmS X env cx (fun Q E s => wpAny (Mo X) A (execs body env) Q E s) (bd ρ σ) s μ)
    (hQ : ∀ f ρ' σ' fl s' μ', r₀ = .ok f ρ' σ' → StepE X env s₀ μ₀ s' μ' σ' → FR X env cx ρ' s'.heap μ' → FlR X s'.heap μ' f fl → Q fl s')
    (h : LInv X env cx s₀ μ₀ own J (forLoop tgt bd) r₀ n s μ σ it ρ) :
    codeAny (Mo X) A (.forLoop target (.ref J) body [] env) (fun r s' => match r with | .ok f => Q f s' | .error e => cameBackBy (Mo X) A env E e s') s := by
  refine codeAny_forLoop (fun n s => ∃ μ σ it ρ, LInv X env cx s₀ μ₀ own J (forLoop tgt bd) r₀ n s μ σ it ρ) ?_ n ⟨μ, σ, it, ρ, h⟩ hlet
  clear h
  rintro n s ⟨μ, σ, it, ρ, I⟩
  have c := c₀.stepE I.step I.fr ho
  have hno : ∀ b ∈ own, ¬ Own env b := fun b hb h => by
    have h1 := hown b hb
    rcases h with rfl | ⟨x, h⟩
    · obtain ⟨m, n', _⟩ := F₀.ns
      exact absurd n'.lt (Nat.not_lt.mpr h1)
    · exact absurd (F₀.offC x b h).2.2 (Nat.not_lt.mpr h1)
  have hgo := I.go
  unfold forLoop at hgo
  cases hnxt : nextIt it σ with
  | none => rw [hnxt] at hgo; exact absurd hgo.symm hne
  | some r =>
    refine sm_next c I.jr hnxt fun q s₁ hr => ?_
    obtain ⟨M1, hr⟩ := hr
    have soft1 : ∀ b ∈ own, Soft s.heap μ b := fun b hb => (I.jr.priv b hb).isSoft c.hr
    have S1 := I.step.move M1 soft1 hown c₀.base
    have F1 := I.fr.move c.hr M1 I.jr.priv
    rw [hnxt] at hgo
    cases r with
    | none =>
      cases q with
      | some _ => exact hr.elim
      | none => exact wpAny_execs_nil (hQ .next ρ σ .next s₁ μ hgo.symm S1 F1 .next)
    | some p =>
      obtain ⟨v, it'⟩ := p
      cases q with
      | none => exact hr.elim
      | some u =>
        obtain ⟨ru, j1⟩ := hr
        cases n with
        | zero => exact absurd hgo.symm hne
        | succ n =>
          dsimp only at hgo
          cases ht : tgt v ρ with
          | none => rw [ht] at hgo; exact absurd hgo.symm hne
          | some ρ' =>
            rw [ht] at hgo
            dsimp only at hgo
            have c1 := c₀.stepE S1 F1 ho
            refine hasg v u ρ ρ' s₁ μ σ ht c1 F1 ru _ _ fun s₂ S2 F2 => ?_
            have S02 := S1.trans S2
            have c2 := c₀.stepE S02 F2 ho
            have j2 := j1.stepE c1.hr S2 hno
            refine hbody ρ' s₂ μ σ c2 F2 (fun e => by rw [e] at hgo; exact hne hgo.symm) _ _ fun f ρ'' σ'' fl s₃ μ₃ e3 S3 F3 r3 => ?_
            rw [e3] at hgo
            cases r3 with
            | next => exact ⟨n, Nat.lt_succ_self _, μ₃, σ'', it', ρ'', S02.trans S3, F3, j2.stepE c2.hr S3 hno, hgo⟩
            | ret r => exact hQ _ ρ'' σ'' _ s₃ μ₃ hgo.symm (S02.trans S3) F3 (.ret r)

theorem sim_for {target iter : Expr} {body : List Stmt} {p : Pos} {tgt : V → Env → Option Env} {ti : E} {tb : List S} (L : Leaf X G C d hn) (hI : SimI X C G d hn iter) (hB : SimSs X C G d hn body)
    (h3 : trE G cx iter = some ti) (h4 : trSs G cx body = some tb) (c : Cn X A d hn s μ σ) (F : FR X env cx ρ s.heap μ) (lo : Lo X env) (ho : FrOk A env)
    (hasg : ∀ v u ρ ρ' s μ σ, tgt v ρ = some ρ' → Cn X A d true s μ σ → FR X env cx ρ s.heap μ → VR X s.heap μ v u → ∀ (Q : Unit → Shared → Prop) (E : Value → Shared → Prop), (∀ s', StepE X env s μ s' μ σ → FR X env cx ρ' s'.heap μ → Q () s') → wpAny (Mo X) A (assign target env u) Q E s)
    (hlet : ∀ J v, letOwnedTupleGo target (.ref J) v = pure ()) :
    SmS X env cx (fun Q E s => wpAny (Mo X) A (exec (.For target iter body [] p) env) Q E s) (RS.ofE (evSrc X.ns C ρ (srcOf ti) σ) fun q σ' => if C.hn then (forLoop tgt (fun ρ σ => evSs X.ns C ρ σ tb) q.2 q.1 ρ σ') else .stuck) s μ := by
  intro hne Q E hQ
  refine wpAny_For ?_ (folded_of h3 env)
  refine hI cx ti h3 A env ρ s μ σ c F (fun e => hne (ofE_stuck e)) _ _ fun pr σ₁ u s₁ μ₁ e1 S1 i1 => ?_
  have eq1 := ofE_ok (k := fun (q : It × Nat) σ' => if C.hn then (forLoop tgt (fun ρ σ => evSs X.ns C ρ σ tb) q.2 q.1 ρ σ') else .stuck) e1
  rw [eq1] at hne hQ
  cases hhn : C.hn with
  | false => simp [hhn] at hne
  | true =>
    have hnt : hn = true := by rw [← L.eqn]; exact hhn
    subst hnt
    simp only [hhn, if_true] at hne hQ
    refine sm_iter (c.step S1) S1.size i1 fun J own s₂ j2 S2 hown => ?_
    have S02 := S1.trans S2
    exact for_loop (s₀ := s) (μ₀ := μ) (σ₀ := σ) (ρ₀ := ρ) (own := own) (it := pr.1) (n := pr.2) (ρ := ρ) c F ho hne hown hasg (hlet J) (fun ρ s μ σ c F => hB cx tb h4 A env ρ s μ σ c F lo ho)
      (fun f ρ' σ' fl s' μ' e' S' F' r' => hQ f ρ' σ' fl s' μ' e' S' F' r') ⟨S02.e, F.step c.hr S02, j2, rfl⟩

theorem sim_forN {x : Str} {px p : Pos} {iter : Expr} {body orelse : List Stmt} (L : Leaf X G C d hn) (hI : SimI X C G d hn iter) (hB : SimSs X C G d hn body) : SimS X C G d hn (.For (.Name x px) iter body orelse p) := by
  intro cx t ht A env ρ s μ σ c F lo ho
  cases orelse with
  | cons _ _ => unfold trS at ht; cases ht
  | nil =>
    unfold trS at ht
    simp only [nameOf, Option.bind_some] at ht
    cases e1 : cx.slot x with
    | none => simp [e1] at ht
    | some k =>
      cases e2 : trE G cx iter with
      | none => simp [e1, e2] at ht
      | some ti =>
        cases e3 : trSs G cx body with
        | none => simp [e1, e2, e3] at ht
        | some tb =>
          simp only [e1, e2, e3, Option.some.injEq] at ht
          subst ht
          rw [evS]
          refine sim_for (tgt := tgtN k) L hI hB e2 e3 c F lo ho (fun v u ρ ρ' s μ σ et c F r Q E h => ?_) fun _ _ => rfl
          unfold tgtN at et
          split at et
          · cases et
            exact wpAny_assign_Name (sm_store c F lo e1 r h)
          · cases et

/-- a while loop -/
theorem sim_while {test : Expr} {body orelse : List Stmt} {p : Pos} (L : Leaf X G C d hn) (hT : SimT X C G d hn test) (hB : SimSs X C G d hn body) : SimS X C G d hn (.While test body orelse p) := by
  intro cx t ht A env ρ s μ σ c F lo ho
  cases orelse with
  | cons _ _ => unfold trS at ht; cases ht
  | nil =>
    unfold trS at ht
    cases e2 : trE G cx test with
    | none => simp [e2] at ht
    | some tt =>
      cases e3 : trSs G cx body with
      | none => simp [e2, e3] at ht
      | some tb =>
        simp only [e2, e3, Option.some.injEq] at ht
        subst ht
        rw [evS]
        intro hne Q E hQ
        generalize hr0 : whileLoop (fun ρ => evE X.ns C ρ tt) (fun ρ σ => evSs X.ns C ρ σ tb) C.fuel ρ σ = r₀ at hne hQ
        have hne' := hne
        refine wpAny_While (codeAny_whileLoop (fun n s' => ∃ μ' σ' ρ', StepE X env s μ s' μ' σ' ∧ FR X env cx ρ' s'.heap μ' ∧ whileLoop (fun ρ => evE X.ns C ρ tt) (fun ρ σ => evSs X.ns C ρ σ tb) n ρ' σ' = r₀) ?_ C.fuel ⟨μ, σ, ρ, c.e, F, hr0⟩)
        rintro n s' ⟨μ', σ', ρ', S', F', hgo⟩
        have c' := c.stepE S' F' ho
        cases n with
        | zero => exact absurd hgo.symm hne'
        | succ n =>
          unfold whileLoop at hgo
          have hb : (evE X.ns C ρ' tt).bnd asB σ' ≠ .stuck := fun e => by
            unfold M.bnd at e
            cases he : evE X.ns C ρ' tt σ' with
            | ok v σ₁ =>
              rw [he] at hgo e
              cases v with
              | bool b => cases e
              | _ => exact hne' hgo.symm
            | stuck => rw [he] at hgo; exact hne' hgo.symm
          refine hT cx tt e2 A env ρ' s' μ' σ' c' F' hb _ _ fun b σ₁ b' s₁ μ₁ e1 S1 r1 => ?_
          · cases r1
            have he : evE X.ns C ρ' tt σ' = .ok (.bool b) σ₁ := by
              unfold M.bnd at e1
              cases he : evE X.ns C ρ' tt σ' with
              | ok v σ₂ =>
                rw [he] at e1
                cases v with
                | bool b'' => cases e1; rfl
                | _ => cases e1
              | stuck => rw [he] at e1; cases e1
            rw [ofE_ok he] at hgo
            have F1 := F'.step c'.hr S1
            have c1 := c'.step S1
            cases b with
            | false => exact wpAny_execs_nil (hQ .next ρ' σ₁ .next s₁ μ₁ (by rw [← hgo]) (S'.trans S1.e) F1 .next)
            | true =>
              dsimp only at hgo
              refine hB cx tb e3 A env ρ' s₁ μ₁ σ₁ c1 F1 lo ho (fun e => by rw [e] at hgo; exact hne' hgo.symm) _ _ fun f ρ'' σ'' fl s₃ μ₃ e3' S3 F3 r3 => ?_
              rw [e3'] at hgo
              have S03 := (S'.trans S1.e).trans S3
              cases r3 with
              | next => exact ⟨n, Nat.lt_succ_self _, μ₃, σ'', ρ'', S03, F3, hgo⟩
              | ret r => exact hQ _ ρ'' σ'' _ s₃ μ₃ hgo.symm S03 F3 (.ret r)
end
end Mine

set_option maxRecDepth 100000
namespace Mine
open PySem PyProof.Rows PySem.Calls

section
variable {X : W} {A : Around} {d : Nat} {hn : Bool} {s s' s'' s₀ : Shared} {μ μ' μ'' μ₀ : List Addr} {σ σ' σ'' σ₀ : H} {env : PySem.Env} {cx cx' : Cx} {ρ ρ' ρ₀ : Env} {C : Calls} {G : GT} {own : List Addr} {it : It} {J : Addr}

theorem nameOf_some {e : Expr} {x : Str} (h : nameOf e = some x) : ∃ p, e = .Name x p := by
  unfold nameOf at h
  split at h
  · cases h; exact ⟨_, rfl⟩
  · cases h
theorem oneName_some {es : List Expr} {x : Str} (h : oneName es = some x) : ∃ p, es = [.Name x p] := by
  unfold oneName at h
  split at h
  · obtain ⟨p, rfl⟩ := nameOf_some h; exact ⟨p, rfl⟩
  · cases h
mutual
theorem sim_stmt (L : Leaf X G C d hn) (st : Stmt) : SimS X C G d hn st := by
  intro cx t ht
  have ht' := ht
  unfold trS at ht'
  split at ht'
  · rename_i ts v p
    cases h1 : oneName ts with
    | none => simp [h1] at ht'
    | some x =>
      obtain ⟨px, rfl⟩ := oneName_some h1
      exact sim_assign L (sim_all L _).ev (fun elt gens sc q _ => ⟨fun g _ => (sim_all L g.iter).it, (sim_all L elt).ev, fun g _ c _ => (sim_all L c).tr⟩) cx t ht
  · rename_i v p
    cases v with
    | none => cases ht'
    | some v => exact sim_return (sim_all L _).ev cx t ht
  · rename_i c a b p
    exact sim_if (sim_all L _).tr (sim_stmts L a) (sim_stmts L b) cx t ht
  · rename_i tg iter body orelse p
    cases h1 : nameOf tg with
    | none => cases orelse <;> simp [h1] at ht'
    | some x =>
      obtain ⟨px, rfl⟩ := nameOf_some h1
      exact sim_forN L (sim_all L _).it (sim_stmts L body) cx t ht
  · rename_i c body orelse p
    exact sim_while L (sim_all L _).tr (sim_stmts L body) cx t ht
  · cases ht'
termination_by sizeOf st
theorem sim_stmts (L : Leaf X G C d hn) (sts : List Stmt) : SimSs X C G d hn sts := by
  match sts with
  | [] => exact sim_nil
  | st :: sts => exact sim_cons (sim_stmt L st) (sim_stmts L sts)
termination_by sizeOf sts
end
end
end Mine

set_option maxRecDepth 100000
namespace Mine
open PySem PyProof.Rows PySem.Calls

theorem slotsOf_ge : ∀ {l : List (Str × NameKind)} {i : Nat} {x : Str} {k : Nat}, (x, k) ∈ slotsOf l i → i ≤ k
  | [], _, _, _, h => nomatch h
  | (y, kd) :: r, i, x, k, h => by
    cases kd <;> simp only [slotsOf] at h
    all_goals first
      | (rcases List.mem_cons.mp h with q | q
         · cases q; exact Nat.le_refl _
         · exact Nat.le_of_succ_le (slotsOf_ge q))
      | exact slotsOf_ge h
theorem slotsOf_at : ∀ {l : List (Str × NameKind)} {i : Nat} {x : Str} {k : Nat}, (x, k) ∈ slotsOf l i → (slotsOf l i)[k - i]? = some (x, k)
  | [], _, _, _, h => nomatch h
  | (y, kd) :: r, i, x, k, h => by
    cases kd <;> simp only [slotsOf] at h ⊢
    all_goals first
      | (rcases List.mem_cons.mp h with q | q
         · cases q; simp
         · have h1 := slotsOf_ge q
           have h2 := slotsOf_at q
           rw [show k - i = (k - (i + 1)) + 1 by omega, List.getElem?_cons_succ]
           exact h2)
      | exact slotsOf_at h
theorem slotsOf_names : ∀ {l : List (Str × NameKind)} {i : Nat} {x : Str} {k : Nat}, (x, k) ∈ slotsOf l i → (x, NameKind.local) ∈ l ∨ (x, NameKind.cell) ∈ l
  | [], _, _, _, h => nomatch h
  | (y, kd) :: r, i, x, k, h => by
    cases kd <;> simp only [slotsOf] at h
    all_goals first
      | (rcases List.mem_cons.mp h with q | q
         · cases q; first | exact .inl List.mem_cons_self | exact .inr List.mem_cons_self
         · rcases slotsOf_names q with w | w
           · exact .inl (List.mem_cons_of_mem _ w)
           · exact .inr (List.mem_cons_of_mem _ w))
      | (rcases slotsOf_names h with w | w
         · exact .inl (List.mem_cons_of_mem _ w)
         · exact .inr (List.mem_cons_of_mem _ w))

theorem cells_some : ∀ {l : List (Str × NameKind)} {n : Nat} {acc : List (Str × Addr)} {x : Str}, ((x, NameKind.cell) ∈ l ∨ (acc.lookup x).isSome = true) → ((cellsFrom n l acc).lookup x).isSome = true
  | [], _, _, _, h => by rcases h with h | h; cases h; exact h
  | (y, kd) :: r, n, acc, x, h => by
    unfold cellsFrom
    split
    · rename_i hk
      refine cells_some ?_
      rw [List.lookup_cons]
      cases hx : x == y with
      | true => exact .inr rfl
      | false =>
        rcases h with h | h
        · rcases List.mem_cons.mp h with q | q
          · cases q; simp at hx
          · exact .inl q
        · exact .inr h
    · rename_i hk
      refine cells_some ?_
      rcases h with h | h
      · rcases List.mem_cons.mp h with q | q
        · cases q; simp at hk
        · exact .inl q
      · exact .inr h
theorem cells_of : ∀ {l : List (Str × NameKind)} {n : Nat} {acc : List (Str × Addr)} {x : Str} {c : Addr}, (cellsFrom n l acc).lookup x = some c → acc.lookup x = some c ∨ n ≤ c
  | [], _, _, _, _, h => .inl h
  | (y, kd) :: r, n, acc, x, c, h => by
    unfold cellsFrom at h
    split at h
    · rcases cells_of h with q | q
      · rw [List.lookup_cons] at q
        cases hx : x == y with
        | true => rw [hx] at q; cases q; exact .inr (Nat.le_refl _)
        | false => rw [hx] at q; exact .inl q
      · exact .inr (Nat.le_of_succ_le q)
    · exact cells_of h

theorem bindL_off {kd : Str → Option NameKind} {x : Str} : ∀ {names : List Str} {us : List Value} {m : Str → Option Value}, x ∉ names → bindL kd (names.zip us) m x = m x
  | [], _, _, _ => by simp [bindL]
  | n :: names, [], _, _ => by simp [bindL]
  | n :: names, u :: us, m, h => by
    rw [List.zip_cons_cons, bindL, bindL_off (fun q => h (List.mem_cons_of_mem _ q))]
    have hx : x ≠ n := fun e => h (e ▸ List.mem_cons_self)
    split
    · show (if x = n then _ else _) = _
      rw [if_neg hx]
    · rfl
theorem bindC_off {kd : Str → Option NameKind} {x : Str} : ∀ {names : List Str} {us : List Value} {m : Str → Option Value}, x ∉ names → bindC kd (names.zip us) m x = m x
  | [], _, _, _ => by simp [bindC]
  | n :: names, [], _, _ => by simp [bindC]
  | n :: names, u :: us, m, h => by
    rw [List.zip_cons_cons, bindC, bindC_off (fun q => h (List.mem_cons_of_mem _ q))]
    have hx : x ≠ n := fun e => h (e ▸ List.mem_cons_self)
    split
    · rfl
    · show (if x = n then _ else _) = _
      rw [if_neg hx]
theorem bindL_at {kd : Str → Option NameKind} {x : Str} {u : Value} (hk : kd x = some .local) : ∀ {names : List Str} {us : List Value} {m : Str → Option Value} {k : Nat}, names.Nodup → names[k]? = some x → us[k]? = some u → bindL kd (names.zip us) m x = some u
  | [], _, _, _, _, h, _ => by simp at h
  | n :: names, [], _, _, _, _, h => by simp at h
  | n :: names, v :: us, m, 0, hn, h1, h2 => by
    simp at h1 h2
    subst h1 h2
    rw [List.zip_cons_cons, bindL, bindL_off (List.nodup_cons.mp hn).1, if_pos hk]; simp
  | n :: names, v :: us, m, k + 1, hn, h1, h2 => by
    rw [List.zip_cons_cons, bindL]
    exact bindL_at hk (List.nodup_cons.mp hn).2 (by simpa using h1) (by simpa using h2)
theorem bindC_at {kd : Str → Option NameKind} {x : Str} {u : Value} (hk : kd x ≠ some .local) : ∀ {names : List Str} {us : List Value} {m : Str → Option Value} {k : Nat}, names.Nodup → names[k]? = some x → us[k]? = some u → bindC kd (names.zip us) m x = some u
  | [], _, _, _, _, h, _ => by simp at h
  | n :: names, [], _, _, _, _, h => by simp at h
  | n :: names, v :: us, m, 0, hn, h1, h2 => by
    simp at h1 h2
    subst h1 h2
    rw [List.zip_cons_cons, bindC, bindC_off (List.nodup_cons.mp hn).1, if_neg hk]; simp
  | n :: names, v :: us, m, k + 1, hn, h1, h2 => by
    rw [List.zip_cons_cons, bindC]
    exact bindC_at hk (List.nodup_cons.mp hn).2 (by simpa using h1) (by simpa using h2)

/-- a def of the text is what its small one says -/
noncomputable def FnOk (X : W) (G : GT) (i : Nat) (fn : Fn) : Prop := ∃ o fd body, X.h₀.get? (X.fa i) = some o ∧ o.data = .func fd ∧ X.h₀.CodeRec fd.code fd.qualname ∧ fd.body = .stmts body ∧ fd.closure = [] ∧ fd.globals = mainGlobals ∧ fd.builtins = builtinsNs ∧
  (∀ vals : List Value, vals.length = fd.params.args.length → bindArgs fd ⟨vals, []⟩ = pure ((fd.params.args.map (·.arg)).zip vals)) ∧ trFn G fd.params body fd.scope = some fn

section
variable {X : W} {A : Around} {d : Nat} {hn : Bool} {s s' s'' s₀ : Shared} {μ μ' μ'' μ₀ : List Addr} {σ σ' σ'' σ₀ : H} {env : PySem.Env} {cx cx' : Cx} {ρ ρ' ρ₀ : Env} {C : Calls} {G : GT}

theorem tr_fn {a : Arguments} {body : List Stmt} {sc : Scope} {fn : Fn} (h : trFn G a body sc = some fn) : ((slotsOf sc.names 0).map (·.1)).take a.args.length = a.args.map (·.arg) ∧ (sc.names.map (·.1)).Nodup ∧ sc.kind = .function ∧ sc.isGenerator = false ∧ sc.isCoroutine = false ∧
    ∃ b, trSs G ⟨sc.names, slotsOf sc.names 0, (slotsOf sc.names 0).length⟩ body = some b ∧ fn = ⟨a.args.length, (slotsOf sc.names 0).length, b⟩ := by
  unfold trFn at h
  dsimp only at h
  split at h
  · rename_i hq
    simp only [Bool.and_eq_true, decide_eq_true_eq, Bool.not_eq_true'] at hq
    obtain ⟨⟨⟨⟨⟨_, h2⟩, h3⟩, h4⟩, h5⟩, h6⟩ := hq
    obtain ⟨b, h7, h8⟩ := Option.map_eq_some_iff.mp h
    exact ⟨h2, h3, h4, h5, h6, b, h7, h8.symm⟩
  · cases h

theorem FF.lt {h : Heap} : ∀ {l : List PySem.Env}, FF X h μ l → ∀ e ∈ l, ∀ L, e.frame = some L → L < h.objs.size
  | [], _, _, hm, _, _ => nomatch hm
  | e0 :: l, hf, e, hm, L, hL => by
    obtain ⟨⟨_, L0, o0, es0, n0, k1, _, _, k4, _⟩, hr0⟩ := hf
    rcases List.mem_cons.mp hm with rfl | hm
    · rw [k1] at hL; cases hL; exact Heap.lt_size k4
    · exact FF.lt hr0 e hm L hL
/-- back from a frame -/
theorem Step.close (S : Step X s₀ μ₀ s μ σ) (S' : StepE X env s μ s' μ' σ') (h : ∀ b, Own env b → s₀.heap.objs.size ≤ b) : Step X s₀ μ₀ s' μ' σ' := by
  obtain ⟨ν, rfl, hν⟩ := S.ext
  obtain ⟨ν', rfl, hν'⟩ := S'.ext
  refine ⟨S'.hr, fun b o hb e => ?_, S'.base, Nat.le_trans S.size S'.size, ⟨ν ++ ν', by rw [List.append_assoc], fun a ha => ?_⟩, S'.gens.trans S.gens, S'.os.trans S.os⟩
  · obtain ⟨sl, e1, q1⟩ := S.keep b o hb e
    have hlt := Heap.lt_size e
    have hb' : b ∉ μ₀ ++ ν := fun hm => by
      rcases List.mem_append.mp hm with h1 | h1
      · exact hb h1
      · exact absurd hlt (Nat.not_lt.mpr (hν b h1))
    obtain ⟨sl', e2, q2⟩ := S'.keep b _ hb' (fun hO => absurd hlt (Nat.not_lt.mpr (h b hO))) e1
    exact ⟨sl', e2, fun hd => (q2 hd).trans (q1 hd)⟩
  · rcases List.mem_append.mp ha with h1 | h1
    · exact hν a h1
    · exact Nat.le_trans S.size (hν' a h1)

theorem sim_fn {i : Nat} {fn : Fn} (hf : FnOk X G i fn) (hlim : X.h₀.NoLimit) (hB : ∀ sts, SimSs X C G d hn sts) (c : Cn X A (d + 1) hn s μ σ) {vs : List V} {us : List Value} (r : VRs X s.heap μ vs us) :
    Sm X (Wp X A (PySem.call (.ref (X.fa i)) us)) (evF X.ns C fn vs σ) (Rl X) s μ := by
  obtain ⟨o, fd, body, h1, h2, h3, h4, h5, h6, h7, h8, h9⟩ := hf
  obtain ⟨t1, t2, t3, t4, t5, b, t6, rfl⟩ := tr_fn h9
  unfold evF
  dsimp only
  split
  · rename_i hlen
    intro hne Q E hQ
    have hul : us.length = fd.params.args.length := by rw [← r.length]; exact hlen
    have hbind := h8 us hul
    generalize hnm : fd.params.args.map (·.arg) = names at hbind t1
    have hnl : names.length = fd.params.args.length := by rw [← hnm, List.length_map]
    have hnat : ∀ x k, (x, k) ∈ slotsOf fd.scope.names 0 → k < names.length → names[k]? = some x := fun x k hm hk => by
      rw [← t1, List.getElem?_take, if_pos (by rw [← hnl]; exact hk), List.getElem?_map]
      have := slotsOf_at hm
      simp only [Nat.sub_zero] at this
      rw [this]; rfl
    have hmem : ∀ x ∈ names, ∃ k, (x, k) ∈ slotsOf fd.scope.names 0 := fun x hxm => by
      rw [← t1] at hxm
      obtain ⟨p, hp, rfl⟩ := List.mem_map.mp (List.mem_of_mem_take hxm)
      exact ⟨p.2, hp⟩
    have hnd : names.Nodup := by
      rw [← t1]
      refine List.Nodup.sublist (List.take_sublist _ _) ?_
      have : ∀ (l : List (Str × NameKind)) (i : Nat), ((slotsOf l i).map (·.1)).Sublist (l.map (·.1)) := by
        intro l
        induction l with
        | nil => intro i; exact List.Sublist.refl _
        | cons p l ih =>
          intro i
          obtain ⟨y, kd⟩ := p
          cases kd <;> simp only [slotsOf, List.map_cons] <;> first | exact (ih _).cons_cons _ | exact (ih _).cons _
      exact List.Nodup.sublist (this _ _) t2
    have hkindof : ∀ x ∈ names, fd.scope.names.lookup x = some .local ∨ (fd.scope.names.lookup x = some .cell ∧ ((cellsFrom (s.heap.objs.size + 1) fd.scope.names []).lookup x).isSome = true) := fun x hxm => by
      obtain ⟨k, hk⟩ := hmem x hxm
      rcases slotsOf_names hk with q | q
      · exact .inl (mem_lookup t2 q)
      · exact .inr ⟨mem_lookup t2 q, cells_some (.inl q)⟩
    refine wpAny_call (codeAny_call_cells (by have := c.rm.depth; omega) (c.base.keep _ _ h1) h2 (hlim.keeps c.base.keep) (h3.keeps c.base.keep) h4 hbind h5 (fun x hxm => ?_) (fun s₁ I => ?_) t5 t4 t3)
    · obtain ⟨a, b'⟩ := x
      exact hkindof a (List.of_mem_zip hxm).1
    · generalize hE' : callEnvC fd s.heap.objs.size (X.fa i) = env at I
      have eL : env.locals = s.heap.objs.size := by rw [← hE']; rfl
      have eS : env.scope = fd.scope := by rw [← hE']; rfl
      have eC : env.cells = cellsFrom (s.heap.objs.size + 1) fd.scope.names [] := by rw [← hE']; rfl
      have eG : env.globals = mainGlobals := by rw [← hE']; exact h6
      have eB : env.builtins = builtinsNs := by rw [← hE']; exact h7
      have eF : env.frame = some s.heap.objs.size := by rw [← hE']; rfl
      have hns := I.toInCall.ns
      obtain ⟨h', tk, rfl⟩ := I.toInCall.same
      have hsz : s.heap.objs.size ≤ h'.objs.size := by
        have := hns.lt
        rw [eL] at this
        exact Nat.le_of_lt this
      have S1 : Step X s μ { s with heap := h', toks := tk } μ σ := Step.grow c I.toInCall.keep hsz rfl rfl
      have hLm : env.locals ∉ μ := fun hm => by rw [eL] at hm; exact Nat.lt_irrefl _ (c.hr.lt hm)
      have hcell : ∀ x cc, env.cells.lookup x = some cc → s.heap.objs.size < cc := fun x cc hc => by
        rw [eC] at hc
        rcases cells_of hc with q | q
        · cases q
        · exact q
      have hown : ∀ bb, Own env bb → s.heap.objs.size ≤ bb := fun bb hb => by
        rcases hb with rfl | ⟨x, hb⟩
        · rw [eL]; exact Nat.le_refl _
        · exact Nat.le_of_lt (hcell x bb hb)
      have hz : ∀ a o, X.h₀.get? a = some o → a < s.heap.objs.size := fun a o e => Heap.lt_size (c.base.keep a o e)
      have r1 : VRs X h' μ vs us := S1.vrs c.hr r
      have hkd : ∀ x, env.kindOf x = fd.scope.names.lookup x := fun x => by show env.scope.names.lookup x = _; rw [eS]
      have hval : ∀ (k : Nat) (v : V), (vs.map some ++ List.replicate ((slotsOf fd.scope.names 0).length - fd.params.args.length) (none : Option V))[k]? = some (some v) → k < names.length ∧ ∃ u, us[k]? = some u ∧ VR X h' μ v u := fun k v hv => by
        by_cases hk : k < vs.length
        · rw [List.getElem?_append_left (by rw [List.length_map]; exact hk), List.getElem?_map] at hv
          obtain ⟨w, hw, e⟩ := Option.map_eq_some_iff.mp hv
          cases e
          exact ⟨by rw [hnl, ← hlen]; exact hk, r1.get hw⟩
        · rw [List.getElem?_append_right (by rw [List.length_map]; exact Nat.le_of_not_lt hk)] at hv
          rw [List.getElem?_replicate] at hv
          split at hv <;> cases hv
      have F1 : FR X env ⟨fd.scope.names, slotsOf fd.scope.names 0, (slotsOf fd.scope.names 0).length⟩ (vs.map some ++ List.replicate ((slotsOf fd.scope.names 0).length - fd.params.args.length) none) h' μ := {
        kind := by rw [eS]; exact t3
        globals := eG
        builtins := eB
        names := by rw [eS]
        ns := ⟨_, hns, fun x k v e1 e2 e3 => by
          obtain ⟨hk, u, hu, rv⟩ := hval k v e3
          exact ⟨u, bindL_at (by rw [hkd]; exact e1) hnd (hnat x k (lookup_mem e2) hk) hu, rv⟩⟩
        cell := fun x k e1 e2 => by
          obtain ⟨cc, hc⟩ := Option.isSome_iff_exists.mp (cells_some (n := s.heap.objs.size + 1) (acc := []) (.inl (lookup_mem e1)))
          rw [← eC] at hc
          refine ⟨cc, _, hc, I.cell x cc hc, fun v hv => ?_⟩
          obtain ⟨hk, u, hu, rv⟩ := hval k v hv
          exact ⟨u, bindC_at (by rw [hkd]; rw [show List.lookup x fd.scope.names = some NameKind.cell from e1]; simp) hnd (hnat x k (lookup_mem e2) hk) hu, rv⟩
        cells := fun x e1 => by rw [eC]; exact cells_some (.inl (lookup_mem e1))
        apart := fun x y cc a1 a2 => name_of_addr I.apart (lookup_mem a1) (lookup_mem a2)
        offL := hLm
        offC := fun x cc hc => ⟨fun hm => absurd (c.hr.lt hm) (Nat.not_lt.mpr (Nat.le_of_lt (hcell x cc hc))), by rw [eL]; exact Nat.ne_of_gt (hcell x cc hc), (I.cell x cc hc).lt⟩
        slots := fun x y k a1 a2 => by
          have b1 := slotsOf_at (lookup_mem a1)
          have b2 := slotsOf_at (lookup_mem a2)
          rw [b1] at b2; cases b2; rfl
        bound := fun x k a1 => by
          have b1 := slotsOf_at (lookup_mem a1)
          have := (List.getElem?_eq_some_iff.mp b1).1
          simpa using this
        len := by
          rw [List.length_append, List.length_map, List.length_replicate, hlen]
          have : fd.params.args.length ≤ (slotsOf fd.scope.names 0).length := by
            have e := congrArg List.length t1
            rw [hnl, List.length_take, List.length_map] at e
            omega
          show fd.params.args.length + ((slotsOf fd.scope.names 0).length - fd.params.args.length) = (slotsOf fd.scope.names 0).length
          omega }
      obtain ⟨fs, hfs, hff⟩ := c.fs
      have c1 : Cn X (A.deeper env) d hn { s with heap := h', toks := tk } μ σ := {
        rm := {
          depth := by have := c.rm.depth; show A.depth + 1 + 4 * d + 4 < _; omega
          units := by have := c.rm.units; show A.units + 3 + 40 * d + 40 < _; omega
          handled := c.rm.handled
          nb := c.rm.nb }
        hr := S1.hr
        base := S1.base
        fs := by
          refine ⟨env :: fs, by show A.frames.map _ = _; rw [hfs]; rfl, ⟨by rw [eS, t3]; simp, ?_⟩, S1.ff hff⟩
          obtain ⟨oL, es, ep, e1, e2, _⟩ := hns
          refine ⟨env.locals, oL, es, ep, by rw [eF, eL], ?_, hLm, e1, e2⟩
          cases hg : X.h₀.get? env.locals with
          | none => rfl
          | some oo => have := hz _ _ hg; rw [eL] at this; exact absurd this (Nat.lt_irrefl _)
        scr := c.scr }
      have lo : Lo X env := ⟨by rw [eL]; exact c.base.size, fun x a ha => Nat.le_of_lt (Nat.lt_of_le_of_lt c.base.size (hcell x a ha))⟩
      have ho : FrOk (A.deeper env) env := fun fs' e' en hm L hL => by
        have : fs' = env :: fs := by
          have e2 : (A.deeper env).frames = some (env :: fs) := by show A.frames.map _ = _; rw [hfs]; rfl
          rw [e2] at e'; cases e'; rfl
        subst this
        rcases List.mem_cons.mp hm with rfl | hm
        · left; rw [eF] at hL; cases hL; exact eL.symm
        · right
          intro hO
          have : L < s.heap.objs.size := hff.lt en hm L hL
          exact absurd this (Nat.not_lt.mpr (hown L hO))
      refine hB body ⟨fd.scope.names, slotsOf fd.scope.names 0, _⟩ b t6 (A.deeper env) env _ _ μ σ c1 F1 lo ho (fun e => by rw [e] at hne; exact hne rfl) _ _ fun f ρ' σ' fl s' μ' e' S' F' r' => ?_
      · have SS := S1.close S' hown
        rw [e'] at hQ
        cases r' with
        | next => exact hQ .none σ' .none s' μ' rfl SS .none
        | ret rr => exact hQ _ σ' _ s' μ' rfl SS rr
  · exact Sm.stuck
end
end Mine

set_option maxRecDepth 100000
namespace Mine
open PySem PyProof.Rows PySem.Calls PySem.SeqAt

section
variable {X : W} {A : Around} {d : Nat} {hn : Bool} {s s' s'' s₀ : Shared} {μ μ' μ'' μ₀ : List Addr} {σ σ' σ'' σ₀ : H} {env : PySem.Env} {cx cx' : Cx} {ρ ρ' ρ₀ : Env} {C : Calls} {G : GT}

theorem Cn.ok0 (c : Cn X A d hn s μ σ) {v : V} {u : Value} {t : Sem Value} (r : VR X s.heap μ v u) (h : ∀ (Q : Value → Shared → Prop) (E : Value → Shared → Prop), (∀ tk, Q u { s with toks := tk }) → wpAny (Mo X) A t Q E s) : Sm X (Wp X A t) (.ok v σ) (Rl X) s μ :=
  Sm.ok fun Q E hQ => h Q E fun tk => hQ _ _ _ ((Step.refl c.hr c.base).toks tk) r
/-- what is made without a change to what was -/
theorem Cn.ok1 (c : Cn X A d hn s μ σ) {v : V} {u : Value} {t : Sem Value} (r : VR X s.heap μ v u) (h : ∀ (Q : Value → Shared → Prop) (E : Value → Shared → Prop), (∀ h' tk, (∀ b o, s.heap.get? b = some o → h'.get? b = some o) → Q u { s with heap := h', toks := tk }) → wpAny (Mo X) A t Q E s) : Sm X (Wp X A t) (.ok v σ) (Rl X) s μ :=
  Sm.ok fun Q E hQ => sized (h _ _ fun h' tk k hz => by
    have S : Step X s μ { s with heap := h', toks := tk } μ σ := Step.grow c k hz rfl rfl
    exact hQ _ _ _ S (S.vr c.hr r))

open IsiPair in
theorem sm_isi (c : Cn X A d hn s μ σ) {v : V} {u : Value} (r : VR X s.heap μ v u) (t : Ty) :
    Sm X (Wp X A (PySem.call (.builtin "isinstance") [u, tyVal t])) (isiV t v σ) (Rl X) s μ := by
  cases r with
  | none => cases t <;> (refine c.ok0 (.bool _) fun Q E h => ?_; first | exact NoneType_int (h _) | exact NoneType_bool (h _) | exact NoneType_str (h _))
  | bool b => cases t <;> (refine c.ok0 (.bool _) fun Q E h => ?_; first | exact bool_int (h s.toks) | exact bool_bool (h s.toks) | exact bool_str (h _))
  | int i tk => cases t <;> (refine c.ok0 (.bool _) fun Q E h => ?_; first | exact int_int (h s.toks) | exact int_bool (h _) | exact int_str (h _))
  | str x tk z => cases t <;> (refine c.ok0 (.bool _) fun Q E h => ?_; first | exact str_int (h _) | exact str_bool (h _) | exact str_str (h s.toks))
  | tup e z rr => cases t <;> (refine c.ok0 (.bool _) fun Q E h => ?_; first | exact tuple_int e rfl (h _) | exact tuple_bool e rfl (h _) | exact tuple_str e rfl (h _))
  | scr => exact Sm.stuck
  | @ref i a hm =>
    have hlt : i < σ.length := by rw [← c.hr.len]; exact (List.getElem?_eq_some_iff.mp hm).1
    show Sm X _ (if i < σ.length then R.ok (V.bool false) σ else R.stuck) _ _ _
    rw [if_pos hlt]
    cases ho : σ[i]? with
    | none => rw [List.getElem?_eq_getElem hlt] at ho; cases ho
    | some o =>
      cases o with
      | list xs =>
        obtain ⟨l, n, e, _, _⟩ := c.list ho hm
        cases t <;> (refine c.ok0 (.bool _) fun Q E h => ?_; first | exact list_int e rfl (h _) | exact list_bool e rfl (h _) | exact list_str e rfl (h _))

theorem sm_len (c : Cn X A d hn s μ σ) {v : V} {u : Value} (r : VR X s.heap μ v u) : Sm X (Wp X A (PySem.call (.builtin "len") [u])) (lenV X.ns v σ) (Rl X) s μ := by
  have hl : lim = 16777216 := rfl
  cases r with
  | @ref i a hm =>
    show Sm X _ (match σ[i]? with | some (.list xs) => R.ok (V.int xs.length) σ | none => R.stuck) _ _ _
    cases ho : σ[i]? with
    | none => exact Sm.stuck
    | some o =>
      cases o with
      | list xs =>
        obtain ⟨l, n, e, rr, hz⟩ := c.list ho hm
        refine c.ok0 (u := .int l.toArray.size (s.toks + 1)) (by rw [List.size_toArray, ← rr.length]; exact .int _ _) fun Q E h => ?_
        exact call_len_list ⟨_, e, rfl, _, rfl⟩ (by rw [List.size_toArray]; omega) (h _)
  | @tup vs a l n e z rr =>
    show Sm X _ (R.ok (V.int vs.length) σ) _ _ _
    refine c.ok0 (u := .int l.toArray.size (s.toks + 1)) (by rw [List.size_toArray, ← rr.length]; exact .int _ _) fun Q E h => ?_
    exact PyProof.Rows.len_tuple ⟨_, e, rfl, _, rfl⟩ (by rw [List.size_toArray]; omega) (h _)
  | str x tk z =>
    show Sm X _ (R.ok (V.int (codes x).length) σ) _ _ _
    refine c.ok0 (u := .int x.length (s.toks + 1)) (by rw [← codes_length]; exact .int _ _) fun Q E h => ?_
    exact len_str (by omega) (h _)
  | scr =>
    show Sm X _ (R.ok (V.int X.ns.length) σ) _ _ _
    obtain ⟨vs, L, hi, hz⟩ := c.scr
    refine c.ok0 (u := .int vs.toArray.size (s.toks + 1)) (by rw [List.size_toArray, hi.length]; exact .int _ _) fun Q E h => ?_
    exact call_len_list (c.isScr L) (by rw [List.size_toArray]; omega) (h _)
  | _ => exact Sm.stuck

theorem bools_at {h : Heap} : ∀ {xs : List V} {l : List Value} {bs : List Bool}, boolsOf xs = some bs → VRs X h μ xs l → l = bs.map Value.bool
  | [], _, _, e, .nil => by simp only [boolsOf] at e; cases e; rfl
  | x :: xs, _, _, e, .cons r rs => by
    cases r <;> simp only [boolsOf, reduceCtorEq] at e
    obtain ⟨b, hb, rfl⟩ := Option.map_eq_some_iff.mp e
    rw [bools_at hb rs]; rfl

theorem iter_list {l : Addr} {items : Array Value} {A : Around} {Q : Value → Shared → Prop} {E : Value → Shared → Prop} (hl : s.heap.IsList l items)
    (h : ∀ s₂ : Shared, s₂ = { s with heap := s.heap.push { cls := .type "list_iterator", data := .fields #[.ref l, .int 0 0] } } → (s₂.heap.IsListIter s.heap.objs.size l 0 ∧ s₂.heap.IsList l items) → l ≠ s.heap.objs.size → Q (.ref s.heap.objs.size) s₂) :
    wpAny (Mo X) A (pyIter (.ref l)) Q E s := by
  have hlt : l < s.heap.objs.size := by obtain ⟨_, e, _⟩ := hl; exact Heap.lt_size e
  exact wpAny_pyIter_list hl (h _ rfl ⟨⟨_, Heap.get?_push_size _ rfl, rfl, rfl⟩, hl.push _⟩ (Nat.ne_of_lt hlt))

theorem sm_all (c : Cn X A d true s μ σ) {i : Nat} {a : Addr} {xs : List V} {bs : List Bool} (ho : σ[i]? = some (.list xs)) (hm : μ[i]? = some a) (hb : boolsOf xs = some bs) :
    Sm X (Wp X A (PySem.call (.builtin "all") [.ref a])) (.ok (.bool (bs.all id)) σ) (Rl X) s μ := by
  obtain ⟨l, n, e, rr, hz⟩ := c.list ho hm
  have hl := bools_at hb rr
  subst hl
  refine c.ok1 (.bool _) fun Q E h => ?_
  have L : s.heap.IsList a (bs.map Value.bool).toArray := ⟨_, e, rfl, _, rfl⟩
  refine call_all_walk (iter_list L fun s₂ e2 st hne => ?_)
  subst e2
  refine ⟨_, _, _, _, _, _, fun i => (bs[i]?).getD false, rfl, Walks.list (A := A.in1) (c.rm.handled rfl) _ a hne _, st, ?_, fun h' tk hk => ?_⟩
  · intro i v s' Q' E' hP hQ'
    rw [List.getElem?_toArray, List.getElem?_map] at hP
    obtain ⟨b, hb', rfl⟩ := Option.map_eq_some_iff.mp hP
    have hQ2 : Q' ((bs[i]?).getD false) s' := hQ'
    rw [hb'] at hQ2
    exact wpAny_truthy_bool hQ2
  · have : ((List.range (bs.map Value.bool).toArray.size).all fun i => (bs[i]?).getD false) = bs.all id := by
      rw [List.size_toArray, List.length_map]
      rw [Bool.eq_iff_iff, List.all_eq_true, List.all_eq_true]
      constructor
      · intro hq b hb'
        obtain ⟨j, hj, e'⟩ := List.getElem_of_mem hb'
        have := hq j (List.mem_range.mpr hj)
        rw [List.getElem?_eq_getElem hj, e'] at this
        exact this
      · intro hq j hj
        rw [List.getElem?_eq_getElem (List.mem_range.mp hj)]
        exact hq _ (List.getElem_mem _)
    rw [this]
    refine h h' tk fun b o eb => hk b o (fun hm' => ?_) (Heap.get?_push_of_some _ eb)
    rw [List.mem_singleton.mp hm'] at eb
    exact Nat.lt_irrefl _ (Heap.lt_size eb)

theorem sm_listOf (c : Cn X A d hn s μ σ) {a : Addr} {xs : List V} {l : List Value} {T : String} {n : Nat} (hT : T = "list" ∨ T = "tuple") (e : s.heap.get? a = some { cls := .type T, data := .seq l.toArray n }) (rr : VRs X s.heap μ xs l) :
    Sm X (Wp X A (PySem.call (.type "list") [.ref a])) (newL xs σ) (Rl X) s μ := by
  unfold newL
  split
  · rename_i hz
    refine Sm.ok fun Q E hQ => sized ?_
    refine call_list_seq a hT e rfl rfl (fun h' c' k hD hz' => ?_) (by rw [List.size_toArray, ← rr.length]; exact hz)
    have S1 : Step X s μ { s with heap := h' } μ σ := Step.grow c k hz' rfl rfl
    have hno : s.heap.objs.size ∉ μ := fun hm => Nat.lt_irrefl _ (c.hr.lt hm)
    have rr1 := S1.vrs c.hr rr
    refine hQ _ _ (μ ++ [s.heap.objs.size]) (S1.adopt c.base hno (Nat.le_refl _) (.list (l := l) (n := c') hD (by rw [← rr.length]; exact hz) (rr1.mono (fun _ _ e _ => e) ext_get))) (.ref ?_)
    rw [List.getElem?_append_right (by rw [c.hr.len]; exact Nat.le_refl _), c.hr.len]; simp
  · exact Sm.stuck

theorem sm_min2 (c : Cn X A d true s μ σ) {x y : Int} {t u : Tok} : Sm X (Wp X A (PySem.call (.builtin "min") [.int x t, .int y u])) (.ok (.int (min x y)) σ) (Rl X) s μ := by
  have e : (if y < x then Value.int y u else .int x t) = .int (min x y) (if y < x then u else t) := by
    split
    · rw [Int.min_eq_right (by omega)]
    · rw [Int.min_eq_left (by omega)]
  refine c.ok1 (.int _ (if y < x then u else t)) fun Q E h => min_two_ints (c.rm.handled rfl) fun h' tk k => ?_
  rw [e]; exact h h' tk k
theorem first_at {h : Heap} {a : V} {u : Value} (ha : VR X h μ a u) (A : Around) (s : Shared) : ∀ {xs : List V} {l : List Value} {i j : Nat}, firstEq a xs i = some j → VRs X h μ xs l →
    i ≤ j ∧ ∃ (hj : j - i < l.length), ceq l[j - i] u = true ∧ (∀ m (hm : m < l.length), m < j - i → ceq l[m] u = false) ∧ ∀ y ∈ l, EqAt A s y u (ceq y u)
  | [], _, _, _, e, _ => by simp [firstEq] at e
  | x :: xs, _, i, j, e, .cons (u := w) (us := l) r rs => by
    unfold firstEq at e
    cases hf : feq x a with
    | none => simp [hf] at e
    | some b =>
      obtain ⟨h1, h2⟩ := feq_at hf r ha A s
      cases b with
      | true =>
        simp only [hf] at e
        split at e
        · rename_i hs
          cases e
          refine ⟨Nat.le_refl _, by simp, by simpa using h1.symm, fun m hm hlt => by omega, fun y hy => ?_⟩
          rcases List.mem_cons.mp hy with rfl | hy
          · exact h2
          · obtain ⟨b, hb⟩ := Option.isSome_iff_exists.mp hs
            exact (anyEq_at ha hb rs).1 y hy A s
        · cases e
      | false =>
        simp only [hf] at e
        obtain ⟨q1, q2, q3, q4, q5⟩ := first_at ha A s e rs
        have hji : j - i = (j - (i + 1)) + 1 := by omega
        refine ⟨by omega, by simp; omega, ?_, fun m hm hlt => ?_, fun y hy => ?_⟩
        · simp only [hji, List.getElem_cons_succ]; exact q3
        · cases m with
          | zero => simpa using h1.symm
          | succ m => simp only [List.getElem_cons_succ]; exact q4 m (by simpa using hm) (by omega)
        · rcases List.mem_cons.mp hy with rfl | hy
          · exact h2
          · exact q5 y hy
end
end Mine

set_option maxRecDepth 100000
namespace Mine
open PySem PyProof.Rows PySem.Calls PySem.SeqAt

section
variable {X : W} {A : Around} {d : Nat} {hn : Bool} {s s' s'' s₀ : Shared} {μ μ' μ'' μ₀ : List Addr} {σ σ' σ'' σ₀ : H} {env : PySem.Env} {cx cx' : Cx} {ρ ρ' ρ₀ : Env} {C : Calls} {G : GT}

theorem VRs.of_get {h : Heap} : ∀ {xs : List V} {l : List Value}, xs.length = l.length → (∀ (j : Nat) (u : Value), l[j]? = some u → ∃ x, xs[j]? = some x ∧ VR X h μ x u) → VRs X h μ xs l
  | [], [], _, _ => .nil
  | [], _ :: _, e, _ => by simp at e
  | _ :: _, [], e, _ => by simp at e
  | x :: xs, u :: l, e, hg => by
    obtain ⟨y, h1, h2⟩ := hg 0 u (by simp)
    simp at h1; subst h1
    exact .cons h2 (VRs.of_get (by simpa using e) fun j w hw => by simpa using hg (j + 1) w (by simpa using hw))
theorem sm_bi (c : Cn X A d true s μ σ) {b : Bi} {vs : List V} {us : List Value} (r : VRs X s.heap μ vs us) : Sm X (Wp X A (PySem.call (biVal b) us)) (biV X.ns b vs σ) (Rl X) s μ := by
  cases b with
  | len =>
    cases r with
    | nil => exact Sm.stuck
    | cons r1 r2 =>
      cases r2 with
      | nil => exact sm_len c r1
      | cons _ _ => exact Sm.stuck
  | list =>
    cases r with
    | nil => exact Sm.stuck
    | cons r1 r2 =>
      cases r2 with
      | cons _ _ => cases r1 <;> exact Sm.stuck
      | nil =>
        cases r1 with
        | @ref i a hm =>
          show Sm X _ (match σ[i]? with | some (.list xs) => newL xs σ | none => .stuck) _ _ _
          cases ho : σ[i]? with
          | none => exact Sm.stuck
          | some o =>
            cases o with
            | list xs =>
              obtain ⟨l, n, e, rr, hz⟩ := c.list ho hm
              exact sm_listOf c (.inl rfl) e rr
        | _ => exact Sm.stuck
  | min2 =>
    cases r with
    | nil => exact Sm.stuck
    | cons r1 r2 =>
      cases r2 with
      | nil => cases r1 <;> exact Sm.stuck
      | cons r2 r3 =>
        cases r3 with
        | cons _ _ => cases r1 <;> first | exact Sm.stuck | (cases r2 <;> exact Sm.stuck)
        | nil => cases r1 <;> first | exact Sm.stuck | (cases r2 <;> first | exact Sm.stuck | exact sm_min2 c)
  | all =>
    cases r with
    | nil => exact Sm.stuck
    | cons r1 r2 =>
      cases r2 with
      | cons _ _ => cases r1 <;> exact Sm.stuck
      | nil =>
        cases r1 with
        | @ref i a hm =>
          show Sm X _ (match σ[i]? with | some (.list xs) => (match boolsOf xs with | some bs => R.ok (V.bool (bs.all id)) σ | none => .stuck) | none => .stuck) _ _ _
          cases ho : σ[i]? with
          | none => exact Sm.stuck
          | some o =>
            cases o with
            | list xs =>
              cases hb' : boolsOf xs with
              | none => simp only [hb']; exact Sm.stuck
              | some bs => simp only [hb']; exact sm_all c ho hm hb'
        | _ => exact Sm.stuck
  | range => exact Sm.stuck

theorem pre_starts : ∀ (y x : List Nat), pre y x = true ↔ ∃ z, x = y ++ z
  | [], x => by simp [pre]
  | a :: y, [] => by simp [pre]
  | a :: y, b :: x => by
    simp only [pre, Bool.and_eq_true, beq_iff_eq, pre_starts y x]
    constructor
    · rintro ⟨rfl, z, rfl⟩; exact ⟨z, rfl⟩
    · rintro ⟨z, h⟩; simp at h; exact ⟨h.1.symm, z, h.2⟩

theorem sm_meth {T id : String} {name : Str} {es : List Expr} {ts : List E} {p : Pos} {u : Value} {k : List V → M V} (pa : PlainAttrs T) (slot : Slot T name id) (hty : typeOf (.builtin id) = pure (.type "method_descriptor")) (c : Cn X A d hn s μ σ) (F : FR X env cx ρ s.heap μ)
    (hT : s.TypeIs u T) (hd : ∀ a, u = .ref a → ∃ ob, s.heap.get? a = some ob ∧ ob.dict = none) (ht : trEs G cx es = some ts)
    (ha : ∀ (s : Shared) (μ : List Addr) (σ : H), Cn X A d hn s μ σ → FR X env cx ρ s.heap μ → Sm X (Wp X A (spliced (backTo p (starEach es env)))) (evEs X.ns C ρ ts σ) (Rls X) s μ)
    (h : ∀ vs us s₁ μ₁ σ₁, Cn X A d hn s₁ μ₁ σ₁ → Step X s μ s₁ μ₁ σ₁ → VRs X s₁.heap μ₁ vs us → Sm X (Wp X A (PySem.call (.builtin id) ([u] ++ us))) (k vs σ₁) (Rl X) s₁ μ₁) :
    Sm X (fun Q E s => MethodOnS X.prog X.w A E name u p (backTo p (starEach es env)) Q s) ((evEs X.ns C ρ ts).bnd k σ) (Rl X) s μ :=
  (Sm.go c F (ha s μ σ c F) fun vs σ₁ us s₁ μ₁ c1 _ S1 r => h vs us s₁ μ₁ σ₁ c1 S1 r).imp fun Q E hq => ⟨T, id, pa, slot, hty, hT, hd, callWith_free ht rfl hq⟩

theorem sm_index (c : Cn X A d hn s μ σ) {i : Nat} {a : Addr} {xs : List V} (ho : σ[i]? = some (.list xs)) (hm : μ[i]? = some a) {v : V} {w : Value} (r : VR X s.heap μ v w) :
    Sm X (Wp X A (PySem.call (.builtin "list.index") [.ref a, w])) (meV (.ref i) .index [v] σ) (Rl X) s μ := by
  show Sm X _ (match σ[i]? with | some (.list xs) => (match firstEq v xs 0 with | some j => R.ok (V.int j) σ | none => .stuck) | none => .stuck) _ _ _
  simp only [ho]
  obtain ⟨l, n, e, rr, hz⟩ := c.list ho hm
  cases hf : firstEq v xs 0 with
  | none => exact Sm.stuck
  | some j =>
    obtain ⟨_, hj, h1, h2, h3⟩ := first_at r A.in1 s hf rr
    simp only [Nat.sub_zero] at hj h1 h2
    have hl : lim = 16777216 := rfl
    refine c.ok0 (.int j s.toks) fun Q E h => ?_
    refine call_meets F.slot_list_index ⟨_, e, rfl⟩ F.entry_list_index (F.args_list_index_2 _ _) (list_indexAt a l.toArray n none #[] w (fun y => ceq y w) j (by simpa using hj) (by omega) (by simpa using h1) fun m hm' hlt => by simpa using h2 m (by simpa using hm') hlt) ⟨e, fun y hy => h3 y (by simpa using hy), h _⟩

theorem sm_starts (c : Cn X A d hn s μ σ) {x y : Str} {t u : Tok} : Sm X (Wp X A (PySem.call (.builtin "str.startswith") [.str x t, .str y u])) (.ok (.bool (pre (codes y) (codes x))) σ) (Rl X) s μ := by
  have e : (decide (0 + y.length ≤ x.length) && Builtin.Str.subAt x y 0) = pre (codes y) (codes x) := by
    rw [StrLaws.subAt_eq, Bool.eq_iff_iff, pre_starts, Bool.and_eq_true, decide_eq_true_eq, beq_iff_eq]
    simp only [List.drop_zero, Nat.zero_add]
    have hx : x.cps.toList = codes x := rfl
    have hy : y.cps.toList = codes y := rfl
    rw [hx, hy, ← codes_length, ← codes_length]
    constructor
    · rintro ⟨_, h⟩
      exact ⟨(codes x).drop (codes y).length, by conv => lhs; rw [← List.take_append_drop (codes y).length (codes x), h]⟩
    · rintro ⟨z, h⟩
      rw [h]; simp
  refine c.ok0 (.bool _) fun Q E h => ?_
  refine call_gives F.slot_str_startswith (typeIs_str _ _ _) F.entry_str_startswith (F.args_str_startswith_2 _ _) (gives_str_startswith x y t u) ?_
  rw [e]; exact h _
end
end Mine

set_option maxRecDepth 100000
namespace Mine
open PySem PyProof.Rows PySem.Calls PySem.SeqAt

/-- what is known of a text without classes -/
structure WdL (X : W) (G : GT) (fs : List Fn) : Prop where
  nm : Nm X G
  fns : ∀ i fn, fs[i]? = some fn → FnOk X G i fn
  lim : X.h₀.NoLimit

section
variable {X : W} {A : Around} {d : Nat} {hn : Bool} {s s' s'' s₀ : Shared} {μ μ' μ'' μ₀ : List Addr} {σ σ' σ'' σ₀ : H} {env : PySem.Env} {cx cx' : Cx} {ρ ρ' ρ₀ : Env} {C : Calls} {G : GT} {fs : List Fn} {fuel : Nat}

theorem sm_meLite {m : Me} {name : Str} {x : V} {u : Value} {es : List Expr} {p : Pos} {ts : List E} (hn' : meOf name = some m) (c : Cn X A d hn s μ σ) (F : FR X env cx ρ s.heap μ) (r : VR X s.heap μ x u) (ht : trEs G cx es = some ts)
    (ha : ∀ (s : Shared) (μ : List Addr) (σ : H), Cn X A d hn s μ σ → FR X env cx ρ s.heap μ → Sm X (Wp X A (spliced (backTo p (starEach es env)))) (evEs X.ns C ρ ts σ) (Rls X) s μ) :
    Sm X (fun Q E s => MethodOnS X.prog X.w A E name u p (backTo p (starEach es env)) Q s) ((meK m x).bnd (fun _ => (evEs X.ns C ρ ts).bnd fun vs => meV x m vs) σ) (Rl X) s μ := by
  unfold meOf at hn'
  split at hn'
  · rename_i hname
    cases hn'
    subst hname
    cases r <;> first | exact Sm.stuck | skip
    rename_i i a hi
    cases ho : σ[i]? with
    | none => rw [bnd_stuck (by simp [meK, ho])]; exact Sm.stuck
    | some o =>
      cases o with
      | list xs =>
        rw [bnd_ok (a := V.none) (σ' := σ) (by simp [meK, ho])]
        obtain ⟨l, n, e, _, _⟩ := c.list ho hi
        refine sm_meth PySem.F.plainAttrs_list PySem.F.slot_list_index PySem.F.type_list_index c F ⟨_, e, rfl⟩ (fun b hb => by cases hb; exact ⟨_, e, rfl⟩) ht ha fun vs us s₁ μ₁ σ₁ c1 S1 r1 => ?_
        cases r1 with
        | nil => exact Sm.stuck
        | cons r1 r2 =>
          cases r2 with
          | cons _ _ => exact Sm.stuck
          | nil =>
            cases ho1 : σ₁[i]? with
            | none => show Sm X _ (match σ₁[i]? with | some (.list xs) => _ | none => R.stuck) _ _ _; simp only [ho1]; exact Sm.stuck
            | some o =>
              cases o with
              | list ys => exact sm_index c1 ho1 (S1.get _ _ hi) r1
  · split at hn'
    · rename_i hname
      cases hn'
      subst hname
      cases r <;> first | exact Sm.stuck | skip
      rename_i x t hz
      refine sm_meth PySem.F.plainAttrs_str PySem.F.slot_str_startswith PySem.F.type_str_startswith c F (typeIs_str _ _ _) (fun b hb => by cases hb) ht ha fun vs us s₁ μ₁ σ₁ c1 S1 r1 => ?_
      cases r1 with
      | nil => exact Sm.stuck
      | cons r1 r2 =>
        cases r2 with
        | cons _ _ => cases r1 <;> exact Sm.stuck
        | nil => cases r1 <;> first | exact Sm.stuck | exact sm_starts c1
    · cases hn'

theorem leaf_mk (w : WdL X G fs) (h1 : C.hn = true)
    (hc : ∀ (f : Nat) (vs : List V) (us : List Value) (A : Around) (s : Shared) (μ : List Addr) (σ : H), Cn X A d true s μ σ → VRs X s.heap μ vs us → Sm X (Wp X A (PySem.call (.ref (X.fa f)) us)) (C.call f vs σ) (Rl X) s μ) : Leaf X G C d true where
  eqn := h1
  nm := w.nm
  call := hc
  bi := fun b vs us A s μ σ c r => sm_bi c r
  me := fun m name x u es p cx ts A env ρ s μ σ hn' c F r ht ha => sm_meLite hn' c F r ht ha
  isi := fun t v u A s μ σ c r => sm_isi c r t

theorem leafL (w : WdL X G fs) : ∀ (n : Nat), Leaf X G (callsOf X.ns fs fuel n) n true := by
  intro n
  induction n with
  | zero => exact leaf_mk w rfl fun f vs us A s μ σ c r => Sm.stuck
  | succ n ih =>
    refine leaf_mk w rfl fun f vs us A s μ σ c r => ?_
    show Sm X _ ((match fs[f]? with | some fn => evF X.ns (callsOf X.ns fs fuel n) fn vs | none => stuck : M V) σ) _ _ _
    cases hf : fs[f]? with
    | none => exact Sm.stuck
    | some fn => exact sim_fn (w.fns f fn hf) w.lim (fun sts => sim_stmts ih sts) c r
end
end Mine

set_option maxRecDepth 100000
namespace Mine
open PySem PyProof.Rows PySem.Calls PySem.SeqAt

theorem zip_lookup : ∀ {names : List Str} {vals : List Value}, vals.length = names.length → ∀ n ∈ names, ((names.zip vals).lookup n).isSome = true
  | [], _, _, _, h => nomatch h
  | m :: names, [], e, _, _ => by simp at e
  | m :: names, v :: vals, e, n, h => by
    rw [List.zip_cons_cons, List.lookup_cons]
    cases hx : n == m with
    | true => rfl
    | false =>
      rcases List.mem_cons.mp h with q | q
      · subst q; simp at hx
      · exact zip_lookup (by simpa using e) n q
theorem zip_same : ∀ {names : List Str} {vals : List Value} {S : List (Str × Value)}, vals.length = names.length → (∀ (k : Nat) (n : Str) (v : Value), names[k]? = some n → vals[k]? = some v → S.lookup n = some v) → names.filterMap (fun n => (S.lookup n).map (n, ·)) = names.zip vals
  | [], _, _, _, _ => by simp
  | m :: names, [], _, e, _ => by simp at e
  | m :: names, v :: vals, S, e, h => by
    have h0 := h 0 m v (by simp) (by simp)
    rw [List.filterMap_cons, h0, List.zip_cons_cons]
    show (m, v) :: _ = _
    rw [zip_same (by simpa using e) fun k n w h1 h2 => h (k + 1) n w (by simpa using h1) (by simpa using h2)]
theorem zip_at : ∀ {names : List Str} {vals : List Value}, names.Nodup → ∀ (k : Nat) (n : Str) (v : Value), names[k]? = some n → vals[k]? = some v → (names.zip vals).lookup n = some v
  | [], _, _, _, _, _, h, _ => by simp at h
  | m :: names, [], _, _, _, _, _, h => by simp at h
  | m :: names, w :: vals, hn, 0, n, v, h1, h2 => by
    simp at h1 h2; subst h1 h2
    rw [List.zip_cons_cons, List.lookup_cons]; simp
  | m :: names, w :: vals, hn, k + 1, n, v, h1, h2 => by
    rw [List.zip_cons_cons, List.lookup_cons]
    have hm : n ∈ names := List.mem_of_getElem? (by simpa using h1)
    have hb : (n == m) = false := by
      cases hx : n == m with
      | false => rfl
      | true => exact absurd (beq_iff_eq.mp hx ▸ hm) (List.nodup_cons.mp hn).1
    rw [hb]
    exact zip_at (List.nodup_cons.mp hn).2 k n v (by simpa using h1) (by simpa using h2)

theorem bind_plain {fd : FuncData} {vals : List Value} (h1 : fd.params.posonlyargs = []) (h2 : fd.params.vararg = none) (h3 : fd.params.kwonlyargs = []) (h4 : fd.params.kwarg = none) (h5 : fd.defaults = .none) (hl : vals.length = fd.params.args.length)
    (hnd : (fd.params.args.map (·.arg)).Nodup) : bindArgs fd ⟨vals, []⟩ = pure ((fd.params.args.map (·.arg)).zip vals) := by
  have hl' : vals.length = (fd.params.args.map (·.arg)).length := by rw [List.length_map]; exact hl
  have hmiss : ((fd.params.args.map (·.arg)).filter fun n => ((fd.params.args.map (·.arg)).zip vals |>.lookup n).isNone) = [] := by
    rw [List.filter_eq_nil_iff]
    intro n hn
    have := zip_lookup hl' n hn
    simp only [Option.isNone_iff_eq_none]
    intro q; rw [q] at this; cases this
  have hsame := zip_same hl' (zip_at (vals := vals) hnd)
  unfold bindArgs
  simp only [h1, h2, h3, h4, h5, List.map_nil, List.nil_append, List.append_nil]
  generalize fd.params.args.map (·.arg) = names at *
  have hg : ¬ (decide (vals.length > names.length) && true) = true := by simp; omega
  have hs : seqItems? .none = pure none := rfl
  simp only [List.forIn_nil, pure_bind, hs, Option.getD_none, List.drop_nil, List.length_nil, Nat.sub_zero, List.take_length, hmiss, List.zip_nil_right]
  rw [if_neg (by simp; omega), hsame]
  rfl

/-! What the text's objects say. -/
noncomputable def isNoneVal : Value → Bool
  | .none => true
  | _ => false
noncomputable def chkFn (K : PySem.W.Frag) (G : GT) (a : Addr) : Option Fn := match K.lookup a with
  | some ⟨_, _, .func fd, _⟩ => match fd.body, fd.code with
    | .stmts body, .ref c => match K.lookup c with
      | some ⟨_, _, .fields vs, _⟩ => match vs.toList with
        | _ :: .str q _ :: _ => if decide (q = fd.qualname) && fd.closure.isEmpty && decide (fd.globals = mainGlobals) && decide (fd.builtins = builtinsNs) && isNoneVal fd.defaults then trFn G fd.params body fd.scope else none
        | _ => none
      | _ => none
    | _, _ => none
  | _ => none

section
variable {X : W} {G : GT}
theorem fn_nodup {a : Arguments} {body : List Stmt} {sc : Scope} {fn : Fn} (h : trFn G a body sc = some fn) : (a.args.map (·.arg)).Nodup ∧ a.posonlyargs = [] ∧ a.vararg = none ∧ a.kwonlyargs = [] ∧ a.kwarg = none := by
  have hp : plainArgs a = true := by
    unfold trFn at h
    dsimp only at h
    split at h
    · rename_i hq
      simp only [Bool.and_eq_true] at hq
      exact hq.1.1.1.1.1
    · cases h
  obtain ⟨t1, t2, _⟩ := tr_fn h
  refine ⟨?_, ?_⟩
  · rw [← t1]
    refine List.Nodup.sublist (List.take_sublist _ _) ?_
    have : ∀ (l : List (Str × NameKind)) (i : Nat), ((slotsOf l i).map (·.1)).Sublist (l.map (·.1)) := by
      intro l
      induction l with
      | nil => intro i; exact List.Sublist.refl _
      | cons p l ih =>
        intro i
        obtain ⟨y, kd⟩ := p
        cases kd <;> simp only [slotsOf, List.map_cons] <;> first | exact (ih _).cons_cons _ | exact (ih _).cons _
    exact List.Nodup.sublist (this _ _) t2
  · unfold plainArgs at hp
    simp only [Bool.and_eq_true, List.isEmpty_iff, Option.isNone_iff_eq_none] at hp
    obtain ⟨⟨⟨⟨⟨p1, p2⟩, p3⟩, p4⟩, _⟩, _⟩ := hp
    exact ⟨p1, p2, p3, p4⟩

theorem chkFn_ok (kx : X.K.In X.h₀) {i : Nat} {fn : Fn} (h : chkFn X.K G (X.fa i) = some fn) : FnOk X G i fn := by
  unfold chkFn at h
  split at h
  · rename_i oc od fd sl ho
    split at h
    · rename_i body c hb hc
      split at h
      · rename_i c1 c2 vs c3 hcode
        split at h
        · rename_i v0 q tq rest hv
          split at h
          · rename_i hq
            simp only [Bool.and_eq_true, decide_eq_true_eq, List.isEmpty_iff] at hq
            obtain ⟨⟨⟨⟨q1, q2⟩, q3⟩, q4⟩, q5⟩ := hq
            obtain ⟨n1, n2, n3, n4, n5⟩ := fn_nodup h
            have hd : fd.defaults = .none := by cases hdf : fd.defaults <;> simp [hdf, isNoneVal] at q5; rfl
            refine ⟨_, fd, body, kx _ _ ho, rfl, ⟨c, _, vs, tq, hc, kx _ _ hcode, rfl, ?_⟩, hb, q2, q3, q4, fun vals hl => bind_plain n2 n3 n4 n5 hd hl n1, h⟩
            rw [← Array.getElem?_toList, hv]
            subst q1; rfl
          · cases h
        · cases h
      · cases h
    · cases h
  · cases h

noncomputable def sameLit : V → Value → Bool
  | .none, .none => true
  | .bool b, .bool c => b == c
  | .int i, .int j _ => decide (i = j)
  | .str x, .str y _ => decide (x = codes y) && decide (y.length ≤ lim)
  | _, _ => false
theorem sameLit_vr {v : V} {u : Value} {h : Heap} (e : sameLit v u = true) : VR X h [] v u := by
  cases v <;> cases u <;> simp [sameLit] at e
  · exact .none
  · subst e; exact .bool _
  · subst e; exact .int _ _
  · obtain ⟨rfl, h2⟩ := e; exact .str _ _ h2

noncomputable def biTable : List (Str × Bi) := [("len", .len), ("list", .list), ("all", .all), ("range", .range), ("min", .min2)]
theorem bi_mem {x : Str} {n : Nat} {b : Bi} (h : biOf x n = some b) : (x, b) ∈ biTable := by
  unfold biOf at h
  repeat' (split at h)
  all_goals first | (cases h; done) | skip
  all_goals (rename_i h1; cases h; subst h1; simp [biTable])
noncomputable def tyTable : List (Str × Ty) := [("int", .int), ("bool", .bool), ("str", .str)]
theorem ty_mem {x : Str} {t : Ty} (h : tyOf x = some t) : (x, t) ∈ tyTable := by
  unfold tyOf at h
  repeat' (split at h)
  all_goals first | (cases h; done) | skip
  all_goals (rename_i h1; cases h; subst h1; simp [tyTable])

noncomputable def isFree (K : PySem.W.Frag) (x : Str) : Bool := match PySem.W.nsIn K mainGlobals x with
  | some none => true
  | _ => false
noncomputable def isRefTo (K : PySem.W.Frag) (x : Str) (a : Addr) : Bool := match PySem.W.nsIn K mainGlobals x with
  | some (some (.ref b)) => decide (a = b)
  | _ => false
noncomputable def isLitAt (K : PySem.W.Frag) (x : Str) (v : V) : Bool := match PySem.W.nsIn K mainGlobals x with
  | some (some u) => sameLit v u
  | _ => false
noncomputable def zipAll {α : Type} (f : Str → α → Bool) : List Str → List α → Bool
  | [], _ => true
  | x :: xs, a :: as => f x a && zipAll f xs as
  | _ :: _, [] => false
/-- the names of a text, as its objects have them -/
noncomputable def chkNm (K : PySem.W.Frag) (G : GT) (fns : List Addr) : Bool :=
  zipAll (fun x a => isRefTo K x a && PySem.W.keepIn K (.ref a)) G.fns fns &&
  G.consts.all (fun p => isLitAt K p.1 p.2) && biTable.all (fun p => isFree K p.1) && tyTable.all (fun p => isFree K p.1) && isFree K "isinstance"

theorem findIx_at : ∀ {l : List Str} {x : Str} {k i : Nat}, findIx x l k = some i → k ≤ i ∧ l[i - k]? = some x
  | [], _, _, _, h => by cases h
  | y :: l, x, k, i, h => by
    unfold findIx at h
    split at h
    · rename_i e; cases h; subst e; simp
    · obtain ⟨h1, h2⟩ := findIx_at h
      refine ⟨by omega, ?_⟩
      rw [show i - k = (i - (k + 1)) + 1 by omega, List.getElem?_cons_succ]; exact h2
theorem zipAll_at {α : Type} {f : Str → α → Bool} : ∀ {xs : List Str} {as : List α}, zipAll f xs as = true → ∀ (i : Nat) (x : Str), xs[i]? = some x → ∃ a, as[i]? = some a ∧ f x a = true
  | [], _, _, _, _, h => by simp at h
  | x :: xs, [], h, _, _, _ => by cases h
  | x :: xs, a :: as, h, 0, y, e => by
    simp only [zipAll, Bool.and_eq_true] at h
    simp at e; subst e
    exact ⟨a, rfl, h.1⟩
  | x :: xs, a :: as, h, i + 1, y, e => by
    simp only [zipAll, Bool.and_eq_true] at h
    simpa using zipAll_at h.2 i y (by simpa using e)

theorem boot_bi : (biTable.all fun p => decide (bootBuiltins p.1 = some (biVal p.2))) = true := by decide +kernel
theorem boot_ty : (tyTable.all fun p => decide (bootBuiltins p.1 = some (tyVal p.2))) = true := by decide +kernel
theorem boot_isi : bootBuiltins "isinstance" = some (.builtin "isinstance") := by decide +kernel
theorem bi_noName : (biTable.all fun p => decide (p.1 ≠ "__name__")) = true := by decide +kernel
theorem ty_noName : (tyTable.all fun p => decide (p.1 ≠ "__name__")) = true := by decide +kernel

theorem nm_of {p : Program} {loose : List Str} {mg mb : Str → Option Value} (kx : X.K.In X.h₀) (t : PySem.W.TopRead p loose mg mb X.h₀) {fns : List Addr} (hf : ∀ i, X.fa i = fns.getD i 0) (h : chkNm X.K G fns = true) : Nm X G := by
  simp only [chkNm, Bool.and_eq_true] at h
  obtain ⟨⟨⟨⟨h1, h3⟩, h4⟩, h5⟩, h6⟩ := h
  have free : ∀ x, isFree X.K x = true → mg x = none := fun x hx => by
    unfold isFree at hx
    split at hx
    · rename_i e; exact PySem.W.mg_none_of kx t.g e
    · cases hx
  have ref : ∀ x a, isRefTo X.K x a = true → mg x = some (.ref a) := fun x a hx => by
    unfold isRefTo at hx
    split at hx
    · rename_i b e
      have := of_decide_eq_true hx
      subst this
      exact PySem.W.mg_of kx t.g e
    · cases hx
  refine ⟨kx, mg, mb, t.g, t.b, fun x v e => ?_, fun x i e => ?_, fun x n b _ e => ?_, ⟨free _ h6, (t.builtins _ (by decide +kernel)).trans boot_isi⟩, fun x ty e => ?_⟩
  · have := List.all_eq_true.mp h3 (x, v) (lookup_mem e)
    unfold isLitAt at this
    split at this
    · rename_i u e'
      exact ⟨u, PySem.W.mg_of kx t.g e', sameLit_vr this⟩
    · cases this
  · obtain ⟨_, e'⟩ := findIx_at e
    obtain ⟨a, ea, q⟩ := zipAll_at h1 i x (by simpa using e')
    simp only [Bool.and_eq_true] at q
    have : X.fa i = a := by rw [hf, List.getD_eq_getElem?_getD, ea]; rfl
    rw [this]; exact ⟨ref x a q.1, q.2⟩
  · have hm := bi_mem e
    exact ⟨free x (List.all_eq_true.mp h4 _ hm), (t.builtins x (of_decide_eq_true (List.all_eq_true.mp bi_noName _ hm))).trans (of_decide_eq_true (List.all_eq_true.mp boot_bi _ hm))⟩
  · have hm := ty_mem e
    exact ⟨free x (List.all_eq_true.mp h5 _ hm), (t.builtins x (of_decide_eq_true (List.all_eq_true.mp ty_noName _ hm))).trans (of_decide_eq_true (List.all_eq_true.mp boot_ty _ hm))⟩
end

/-- a text without classes: what its law gives back -/
theorem run_lite {prog p : Program} {w : World} {K : PySem.W.Frag} {G : GT} {fns : List Addr} {fs : List Fn} {loose : List Str} {mg mb : Str → Option Value} {s : Shared} {scr : Addr} {vs : List Value} {ns : List Int} (kx : K.In s.heap) (t : PySem.W.TopRead p loose mg mb s.heap) (hg : s.gens = #[])
    (L : s.heap.IsList scr vs.toArray) (hi : IntsAre vs ns) (hn : ns.length ≤ 63) (hc : chkNm K G fns = true) (hf : fns.map (chkFn K G) = fs.map some) {law : Nat} {fa : Addr} (hlaw : fns.getD law 0 = fa) {n fuel : Nat} (hn12 : n ≤ 12) {σ : H}
    (hrun : (callsOf ns fs fuel n).call law [.scr] [] = .ok (.bool true) σ) :
    wpAny (model prog w) callerA (PySem.call (.ref fa) [.ref scr]) (fun v s' => v = .bool true ∧ (∀ b o, s.heap.get? b = some o → s'.heap.get? b = some o) ∧ s'.os = s.os ∧ s'.gens = #[]) (fun _ _ => False) s := by
  let X : W := ⟨prog, w, s.heap, scr, ns, fun i => fns.getD i 0, K⟩
  have nm : Nm X G := nm_of (X := X) kx t (fun _ => rfl) hc
  have wd : WdL X G fs := {
    nm := nm
    fns := fun i fn e => by
      refine chkFn_ok (X := X) kx ?_
      have h1 : (fs.map some)[i]? = some (some fn) := by rw [List.getElem?_map, show fs[i]? = some fn from e]; rfl
      rw [← hf, List.getElem?_map] at h1
      obtain ⟨a, ea, q⟩ := Option.map_eq_some_iff.mp h1
      show chkFn K G (fns.getD i 0) = some fn
      rw [List.getD_eq_getElem?_getD, ea]; exact q
    lim := t.nolimit }
  have hlow : sysModules < s.heap.objs.size := by
    have e : ∃ o, K.lookup mainGlobals = some o := by
      have h6 : isFree K "isinstance" = true := by
        simp only [chkNm, Bool.and_eq_true] at hc; exact hc.2
      unfold isFree PySem.W.nsIn at h6
      cases ho : K.lookup mainGlobals with
      | none => rw [ho] at h6; cases h6
      | some o => exact ⟨o, rfl⟩
    obtain ⟨o, e⟩ := e
    exact Nat.lt_trans (by decide +kernel) (Heap.lt_size (kx _ _ e))
  have c : Cn X callerA n true s [] [] := {
    rm := { depth := by show 1 + claimMargin + 4 * n + 4 < recursionLimit; simp only [claimMargin, recursionLimit]; omega
            units := by show 4 + 40 * n + 40 < cLine; simp only [cLine]; omega
            handled := fun _ => rfl
            nb := by intro h; cases h }
    hr := ⟨rfl, .nil, (fun _ h => nomatch h), (fun i o a e => by simp at e)⟩
    base := ⟨fun _ _ e => e, Nat.le_refl _, hlow⟩
    fs := ⟨[], rfl, trivial⟩
    scr := ⟨vs, L, hi, by rw [hi.length]; exact Nat.le_trans hn (by decide)⟩ }
  subst hlaw
  refine (leafL (fuel := fuel) wd n).call law [.scr] [.ref scr] callerA s [] [] c (.cons .scr .nil) (by rw [show (callsOf X.ns fs fuel n).call law [.scr] [] = _ from hrun]; intro q; cases q) _ _ fun a σ' b s' μ' e S r => ?_
  · rw [show (callsOf X.ns fs fuel n).call law [.scr] [] = _ from hrun] at e
    cases e
    cases r
    exact ⟨rfl, S.base.keep, S.os, S.gens.trans hg⟩
end Mine

namespace Mine.L01
open Mine
/- place_in slots [("row", 0), ("ahead", 1), ("behind", 2), ("place", 3), ("at", 4), ("one", 5)] -/
noncomputable def fn0 : Fn := ⟨3, 6, [Mine.S.assign 3 (Mine.E.bi (Mine.Bi.len) [Mine.E.var 0]),
           Mine.S.forN
             4
             (Mine.Src.range (Mine.E.bi (Mine.Bi.len) [Mine.E.var 0]))
             [Mine.S.ite (Mine.E.cmp (Mine.Cmp.isin) (Mine.E.idx (Mine.E.var 0) (Mine.E.var 4)) (Mine.E.var 2)) [Mine.S.assign 3 (Mine.E.bi (Mine.Bi.min2) [Mine.E.var 3, Mine.E.var 4])] []],
           Mine.S.forN
             5
             (Mine.Src.of (Mine.E.var 1))
             [Mine.S.ite (Mine.E.cmp (Mine.Cmp.ge) (Mine.E.me (Mine.E.var 0) (Mine.Me.index) [Mine.E.var 5]) (Mine.E.var 3)) [Mine.S.ret (Mine.E.lit (Mine.V.none))] []],
           Mine.S.ret (Mine.E.var 3)]⟩
/- _law_whole slots [("_law_found", 0)] -/
noncomputable def fn1 : Fn := ⟨1, 1, [Mine.S.ret (Mine.E.and [Mine.E.isi (Mine.E.var 0) (Mine.Ty.int), Mine.E.not (Mine.E.isi (Mine.E.var 0) (Mine.Ty.bool))])]⟩
/- _law_cell_at slots [("_law_script", 0), ("_law_k", 1)] -/
noncomputable def fn2 : Fn := ⟨2, 2, [Mine.S.ite (Mine.E.cmp (Mine.Cmp.lt) (Mine.E.var 1) (Mine.E.bi (Mine.Bi.len) [Mine.E.var 0])) [Mine.S.ret (Mine.E.idx (Mine.E.var 0) (Mine.E.var 1))] [],
           Mine.S.ret (Mine.E.lit (Mine.V.int 0))]⟩
/- _law_some slots [("_law_script", 0), ("_law_k", 1), ("_law_many", 2), ("_law_row", 3)] -/
noncomputable def fn3 : Fn := ⟨4, 4, [Mine.S.ite (Mine.E.cmp (Mine.Cmp.eq) (Mine.E.var 3) (Mine.E.list [])) [Mine.S.ret (Mine.E.list [])] [],
           Mine.S.ret
             (Mine.E.comp
               (Mine.Src.range (Mine.E.var 2))
               (Mine.E.idx
                 (Mine.E.var 3)
                 (Mine.E.bin
                   (Mine.Bin.mod)
                   (Mine.E.bin
                     (Mine.Bin.add)
                     (Mine.E.call 2 [Mine.E.var 0, Mine.E.bin (Mine.Bin.add) (Mine.E.var 1) (Mine.E.bin (Mine.Bin.mod) (Mine.E.var 4) (Mine.E.lit (Mine.V.int 4)))])
                     (Mine.E.bin (Mine.Bin.mul) (Mine.E.bin (Mine.Bin.fdiv) (Mine.E.var 4) (Mine.E.lit (Mine.V.int 4))) (Mine.E.lit (Mine.V.int 7))))
                   (Mine.E.bi (Mine.Bi.len) [Mine.E.var 3]))))]⟩
/- _law_due slots [("_law_row", 0), ("_law_ahead", 1), ("_law_behind", 2), ("_law_place", 3)] -/
noncomputable def fn4 : Fn := ⟨3, 4, [Mine.S.assign 3 (Mine.E.bi (Mine.Bi.len) [Mine.E.var 0]),
           Mine.S.while
             (Mine.E.and
               [Mine.E.cmp (Mine.Cmp.gt) (Mine.E.var 3) (Mine.E.lit (Mine.V.int 0)),
                Mine.E.cmp
                  (Mine.Cmp.ne)
                  (Mine.E.compIf (Mine.Src.of (Mine.E.var 2)) (Mine.E.var 4) (Mine.E.cmp (Mine.Cmp.isin) (Mine.E.var 4) (Mine.E.slice (Mine.E.var 0) (Mine.E.lit (Mine.V.none)) (Mine.E.var 3))))
                  (Mine.E.list [])])
             [Mine.S.assign 3 (Mine.E.bin (Mine.Bin.sub) (Mine.E.var 3) (Mine.E.lit (Mine.V.int 1)))],
           Mine.S.ite
             (Mine.E.cmp
               (Mine.Cmp.ne)
               (Mine.E.compIf (Mine.Src.of (Mine.E.var 1)) (Mine.E.var 4) (Mine.E.cmp (Mine.Cmp.isin) (Mine.E.var 4) (Mine.E.slice (Mine.E.var 0) (Mine.E.var 3) (Mine.E.lit (Mine.V.none)))))
               (Mine.E.list []))
             [Mine.S.ret (Mine.E.lit (Mine.V.none))]
             [],
           Mine.S.ret (Mine.E.var 3)]⟩
/- law slots [("_law_script", 0),
 ("_law_size", 1),
 ("_law_many", 2),
 ("_law_step", 3),
 ("_law_row", 4),
 ("_law_cut", 5),
 ("_law_low", 6),
 ("_law_high", 7),
 ("_law_ahead", 8),
 ("_law_behind", 9),
 ("_law_handed", 10),
 ("_law_found", 11),
 ("_law_due_here", 12),
 ("_law_again", 13)] -/
noncomputable def fn5 : Fn := ⟨1, 14, [Mine.S.assign 1 (Mine.E.bin (Mine.Bin.mod) (Mine.E.call 2 [Mine.E.var 0, Mine.E.lit (Mine.V.int 0)]) (Mine.E.lit (Mine.V.int 8))),
           Mine.S.assign
             2
             (Mine.E.list
               [Mine.E.bin (Mine.Bin.mod) (Mine.E.call 2 [Mine.E.var 0, Mine.E.lit (Mine.V.int 5)]) (Mine.E.lit (Mine.V.int 5)),
                Mine.E.bin (Mine.Bin.mod) (Mine.E.call 2 [Mine.E.var 0, Mine.E.lit (Mine.V.int 6)]) (Mine.E.lit (Mine.V.int 4))]),
           Mine.S.ite
             (Mine.E.cmp
               (Mine.Cmp.eq)
               (Mine.E.bin (Mine.Bin.mod) (Mine.E.bin (Mine.Bin.fdiv) (Mine.E.call 2 [Mine.E.var 0, Mine.E.lit (Mine.V.int 0)]) (Mine.E.lit (Mine.V.int 8))) (Mine.E.lit (Mine.V.int 4)))
               (Mine.E.lit (Mine.V.int 1)))
             [Mine.S.assign 1 (Mine.E.bin (Mine.Bin.mod) (Mine.E.call 2 [Mine.E.var 0, Mine.E.lit (Mine.V.int 15)]) (Mine.E.lit (Mine.V.int 60))),
              Mine.S.assign
                2
                (Mine.E.list
                  [Mine.E.bin (Mine.Bin.mod) (Mine.E.call 2 [Mine.E.var 0, Mine.E.lit (Mine.V.int 5)]) (Mine.E.lit (Mine.V.int 60)),
                   Mine.E.bin (Mine.Bin.mod) (Mine.E.call 2 [Mine.E.var 0, Mine.E.lit (Mine.V.int 6)]) (Mine.E.lit (Mine.V.int 60))])]
             [],
           Mine.S.assign 3 (Mine.E.bin (Mine.Bin.add) (Mine.E.lit (Mine.V.int 1)) (Mine.E.bin (Mine.Bin.mod) (Mine.E.call 2 [Mine.E.var 0, Mine.E.lit (Mine.V.int 1)]) (Mine.E.lit (Mine.V.int 60)))),
           Mine.S.assign
             4
             (Mine.E.comp
               (Mine.Src.range (Mine.E.var 1))
               (Mine.E.bin
                 (Mine.Bin.add)
                 (Mine.E.bin (Mine.Bin.mod) (Mine.E.call 2 [Mine.E.var 0, Mine.E.lit (Mine.V.int 2)]) (Mine.E.lit (Mine.V.int 1000)))
                 (Mine.E.bin (Mine.Bin.mod) (Mine.E.bin (Mine.Bin.mul) (Mine.E.var 14) (Mine.E.var 3)) (Mine.E.lit (Mine.V.int 61))))),
           Mine.S.assign 5 (Mine.E.bin (Mine.Bin.mod) (Mine.E.call 2 [Mine.E.var 0, Mine.E.lit (Mine.V.int 3)]) (Mine.E.bin (Mine.Bin.add) (Mine.E.var 1) (Mine.E.lit (Mine.V.int 1)))),
           Mine.S.assign 6 (Mine.E.slice (Mine.E.var 4) (Mine.E.lit (Mine.V.none)) (Mine.E.var 5)),
           Mine.S.assign 7 (Mine.E.slice (Mine.E.var 4) (Mine.E.var 5) (Mine.E.lit (Mine.V.none))),
           Mine.S.ite
             (Mine.E.cmp (Mine.Cmp.eq) (Mine.E.bin (Mine.Bin.mod) (Mine.E.call 2 [Mine.E.var 0, Mine.E.lit (Mine.V.int 4)]) (Mine.E.lit (Mine.V.int 3))) (Mine.E.lit (Mine.V.int 0)))
             [Mine.S.assign 6 (Mine.E.var 4), Mine.S.assign 7 (Mine.E.var 4)]
             [],
           Mine.S.assign 8 (Mine.E.call 3 [Mine.E.var 0, Mine.E.lit (Mine.V.int 7), Mine.E.idx (Mine.E.var 2) (Mine.E.lit (Mine.V.int 0)), Mine.E.var 6]),
           Mine.S.assign 9 (Mine.E.call 3 [Mine.E.var 0, Mine.E.lit (Mine.V.int 11), Mine.E.idx (Mine.E.var 2) (Mine.E.lit (Mine.V.int 1)), Mine.E.var 7]),
           Mine.S.assign 10 (Mine.E.list [Mine.E.bi (Mine.Bi.list) [Mine.E.var 4], Mine.E.bi (Mine.Bi.list) [Mine.E.var 8], Mine.E.bi (Mine.Bi.list) [Mine.E.var 9]]),
           Mine.S.assign
             11
             (Mine.E.call 0 [Mine.E.idx (Mine.E.var 10) (Mine.E.lit (Mine.V.int 0)), Mine.E.idx (Mine.E.var 10) (Mine.E.lit (Mine.V.int 1)), Mine.E.idx (Mine.E.var 10) (Mine.E.lit (Mine.V.int 2))]),
           Mine.S.assign 12 (Mine.E.call 4 [Mine.E.var 4, Mine.E.var 8, Mine.E.var 9]),
           Mine.S.ite
             (Mine.E.or
               [Mine.E.cmp (Mine.Cmp.ne) (Mine.E.idx (Mine.E.var 10) (Mine.E.lit (Mine.V.int 0))) (Mine.E.var 4),
                Mine.E.cmp (Mine.Cmp.ne) (Mine.E.idx (Mine.E.var 10) (Mine.E.lit (Mine.V.int 1))) (Mine.E.var 8),
                Mine.E.cmp (Mine.Cmp.ne) (Mine.E.idx (Mine.E.var 10) (Mine.E.lit (Mine.V.int 2))) (Mine.E.var 9)])
             [Mine.S.ret (Mine.E.lit (Mine.V.bool false))]
             [],
           Mine.S.ite
             (Mine.E.or
               [Mine.E.cmp (Mine.Cmp.ne) (Mine.E.call 0 [Mine.E.bi (Mine.Bi.list) [Mine.E.var 4], Mine.E.list [], Mine.E.list []]) (Mine.E.bi (Mine.Bi.len) [Mine.E.var 4]),
                Mine.E.cmp (Mine.Cmp.ne) (Mine.E.call 0 [Mine.E.bi (Mine.Bi.list) [Mine.E.var 4], Mine.E.list [], Mine.E.bi (Mine.Bi.list) [Mine.E.var 4]]) (Mine.E.lit (Mine.V.int 0))])
             [Mine.S.ret (Mine.E.lit (Mine.V.bool false))]
             [],
           Mine.S.assign
             13
             (Mine.E.call 0 [Mine.E.idx (Mine.E.var 10) (Mine.E.lit (Mine.V.int 0)), Mine.E.idx (Mine.E.var 10) (Mine.E.lit (Mine.V.int 1)), Mine.E.idx (Mine.E.var 10) (Mine.E.lit (Mine.V.int 2))]),
           Mine.S.ite
             (Mine.E.cmp (Mine.Cmp.is) (Mine.E.var 12) (Mine.E.lit (Mine.V.none)))
             [Mine.S.ret (Mine.E.and [Mine.E.cmp (Mine.Cmp.is) (Mine.E.var 11) (Mine.E.lit (Mine.V.none)), Mine.E.cmp (Mine.Cmp.is) (Mine.E.var 13) (Mine.E.lit (Mine.V.none))])]
             [],
           Mine.S.ret
             (Mine.E.and
               [Mine.E.call 1 [Mine.E.var 11], Mine.E.cmp (Mine.Cmp.eq) (Mine.E.var 11) (Mine.E.var 12), Mine.E.call 1 [Mine.E.var 13], Mine.E.cmp (Mine.Cmp.eq) (Mine.E.var 13) (Mine.E.var 12)])]⟩


noncomputable def fs : List Fn := [fn0, fn1, fn2, fn3, fn4, fn5]
noncomputable def G : GT := ⟨["place_in", "_law_whole", "_law_cell_at", "_law_some", "_law_due", "law"], []⟩
end Mine.L01

set_option maxRecDepth 100000
namespace Mine

noncomputable def Ok {α : Type} (r : R α) (Q : α → H → Prop) : Prop := ∃ a σ, r = .ok a σ ∧ Q a σ
noncomputable def OkS (r : RS) (Q : Fl → Env → H → Prop) : Prop := ∃ f ρ σ, r = .ok f ρ σ ∧ Q f ρ σ

theorem ok_ok {α : Type} {a : α} {σ : H} {Q : α → H → Prop} : Ok (.ok a σ) Q ↔ Q a σ := by
  constructor
  · rintro ⟨_, _, h, q⟩; cases h; exact q
  · intro q; exact ⟨_, _, rfl, q⟩
theorem ok_ret {α : Type} {a : α} {σ : H} {Q : α → H → Prop} : Ok (M.ret a σ) Q ↔ Q a σ := ok_ok
theorem ok_bnd {α β : Type} {m : M α} {f : α → M β} {σ : H} {Q : β → H → Prop} : Ok (M.bnd m f σ) Q ↔ Ok (m σ) fun a σ' => Ok (f a σ') Q := by
  unfold M.bnd
  cases h : m σ with
  | ok a σ' => simp only [ok_ok]
  | stuck =>
    constructor
    · rintro ⟨_, _, h, _⟩; cases h
    · rintro ⟨_, _, h, _⟩; cases h
theorem oks_ok {f : Fl} {ρ : Env} {σ : H} {Q : Fl → Env → H → Prop} : OkS (.ok f ρ σ) Q ↔ Q f ρ σ := by
  constructor
  · rintro ⟨_, _, _, h, q⟩; cases h; exact q
  · intro q; exact ⟨_, _, _, rfl, q⟩
theorem oks_ofE {α : Type} {r : R α} {k : α → H → RS} {Q : Fl → Env → H → Prop} : OkS (RS.ofE r k) Q ↔ Ok r fun a σ => OkS (k a σ) Q := by
  cases r with
  | ok a σ' => simp only [ok_ok, RS.ofE]
  | stuck =>
    constructor
    · rintro ⟨_, _, _, h, _⟩; cases h
    · rintro ⟨_, _, h, _⟩; cases h
theorem Ok.mono {α : Type} {r : R α} {P Q : α → H → Prop} (h : Ok r P) (k : ∀ a σ, P a σ → Q a σ) : Ok r Q := by
  obtain ⟨a, σ, e, p⟩ := h; exact ⟨a, σ, e, k _ _ p⟩
theorem OkS.mono {r : RS} {P Q : Fl → Env → H → Prop} (h : OkS r P) (k : ∀ f ρ σ, P f ρ σ → Q f ρ σ) : OkS r Q := by
  obtain ⟨a, ρ, σ, e, p⟩ := h; exact ⟨a, ρ, σ, e, k _ _ _ p⟩
theorem Ok.use {α : Type} {r : R α} {a : α} {σ : H} {Q : α → H → Prop} (e : r = .ok a σ) (q : Q a σ) : Ok r Q := ⟨a, σ, e, q⟩
theorem Ok.use2 {α : Type} {r : R α} {P Q : α → H → Prop} (h : Ok r P) (k : ∀ a σ, P a σ → Q a σ) : Ok r Q := h.mono k

/-- how a row of statements goes on -/
noncomputable def cont (Q : Fl → Env → H → Prop) (k : Env → H → Prop) : Fl → Env → H → Prop
  | .next, ρ, σ => k ρ σ
  | .ret v, ρ, σ => Q (.ret v) ρ σ

section
variable {ns : List Int} {C : Calls} {ρ : Env} {σ : H} {Q : Fl → Env → H → Prop}

theorem oks_nil : OkS (evSs ns C ρ σ []) Q ↔ Q .next ρ σ := by simp only [evSs, oks_ok]
theorem oks_cons {s : S} {r : List S} : OkS (evSs ns C ρ σ (s :: r)) Q ↔ OkS (evS ns C ρ σ s) (cont Q fun ρ' σ' => OkS (evSs ns C ρ' σ' r) Q) := by
  rw [evSs]
  cases h : evS ns C ρ σ s with
  | ok f ρ' σ' => cases f <;> simp only [oks_ok, cont]
  | stuck =>
    constructor
    · rintro ⟨_, _, _, h, _⟩; cases h
    · rintro ⟨_, _, _, h, _⟩; cases h
/-- the same with the rest's end kept: for branches -/
theorem oks_assign {k : Nat} {e : E} {r : List S} (hk : k < ρ.length) :
    OkS (evSs ns C ρ σ (.assign k e :: r)) Q ↔ Ok (evE ns C ρ e σ) fun v σ' => OkS (evSs ns C (ρ.set k (some v)) σ' r) Q := by
  simp only [oks_cons, evS, oks_ofE, hk, if_true, oks_ok, cont]
theorem oks_ret {e : E} {r : List S} :
    OkS (evSs ns C ρ σ (.ret e :: r)) Q ↔ Ok (evE ns C ρ e σ) fun v σ' => Q (.ret v) ρ σ' := by
  simp only [oks_cons, evS, oks_ofE, oks_ok, cont]
theorem oks_ite {c : E} {t f r : List S} :
    OkS (evSs ns C ρ σ (.ite c t f :: r)) Q ↔ Ok (evE ns C ρ c σ) fun v σ' => ∃ b, v = .bool b ∧ OkS (evSs ns C ρ σ' (if b then t else f)) (cont Q fun ρ' σ' => OkS (evSs ns C ρ' σ' r) Q) := by
  simp only [oks_cons, evS, oks_ofE]
  constructor
  · rintro ⟨v, σ', e, q⟩
    refine ⟨v, σ', e, ?_⟩
    split at q
    · exact ⟨true, rfl, q⟩
    · exact ⟨false, rfl, q⟩
    · obtain ⟨_, _, _, h, _⟩ := q; cases h
  · rintro ⟨v, σ', e, b, rfl, q⟩
    refine ⟨_, σ', e, ?_⟩
    cases b <;> exact q
theorem oks_for {k : Nat} {src : Src} {b r : List S} (hn : C.hn = true) 
    (h : Ok (evSrc ns C ρ src σ) fun p σ' => OkS (forLoop (tgtN k) (fun ρ σ => evSs ns C ρ σ b) p.2 p.1 ρ σ') (cont Q fun ρ' σ' => OkS (evSs ns C ρ' σ' r) Q)) :
    OkS (evSs ns C ρ σ (.forN k src b :: r)) Q := by
  simp only [oks_cons, evS, oks_ofE, hn, if_true]
  exact h
theorem oks_while {c : E} {b r : List S} 
    (h : OkS (whileLoop (fun ρ => evE ns C ρ c) (fun ρ σ => evSs ns C ρ σ b) C.fuel ρ σ) (cont Q fun ρ' σ' => OkS (evSs ns C ρ' σ' r) Q)) :
    OkS (evSs ns C ρ σ (.while c b :: r)) Q := by
  simp only [oks_cons, evS]
  exact h
theorem ok_evF {fn : Fn} {vs : List V} {P : V → H → Prop} (hl : vs.length = fn.nargs)
    (h : OkS (evSs ns C (vs.map some ++ List.replicate (fn.n - fn.nargs) .none) σ fn.body) fun f _ σ' => match f with | .ret v => P v σ' | .next => P .none σ') :
    Ok (evF ns C fn vs σ) P := by
  obtain ⟨f, ρ, σ', e, q⟩ := h
  simp only [evF, hl, if_true, e]
  cases f <;> exact ⟨_, _, rfl, q⟩

/-! loops -/
theorem for_range {tgt : V → Env → Option Env} {body : Env → H → RS} (n : Nat) (I : Nat → Env → H → Prop)
    (hs : ∀ i ρ σ, i < n → I i ρ σ → ∃ ρ', tgt (.int i) ρ = some ρ' ∧ OkS (body ρ' σ) (cont Q (I (i + 1))))
    (he : ∀ ρ σ, I n ρ σ → Q .next ρ σ) : ∀ m i ρ σ, i ≤ n → n - i ≤ m → I i ρ σ → OkS (forLoop tgt body m (.range i n) ρ σ) Q := by
  intro m
  induction m with
  | zero =>
    intro i ρ σ hi hm h
    have : i = n := by omega
    subst this
    rw [forLoop]; simp only [nextIt, Nat.lt_irrefl, if_false]
    exact oks_ok.2 (he _ _ h)
  | succ m ih =>
    intro i ρ σ hi hm h
    rw [forLoop]
    by_cases hin : i < n
    · obtain ⟨ρ', ht, f, ρ'', σ'', e, q⟩ := hs i ρ σ hin h
      simp only [nextIt, hin, if_true, ht, e]
      cases f with
      | next => exact ih _ _ _ (by omega) (by omega) q
      | ret v => exact oks_ok.2 q
    · have : i = n := by omega
      subst this
      simp only [nextIt, Nat.lt_irrefl, if_false]
      exact oks_ok.2 (he _ _ h)
theorem for_list {tgt : V → Env → Option Env} {body : Env → H → RS} (l : Nat) (xs : List V) (I : Nat → Env → H → Prop)
    (hl : ∀ i ρ σ, I i ρ σ → σ[l]? = some (.list xs))
    (hs : ∀ i ρ σ (hi : i < xs.length), I i ρ σ → ∃ ρ', tgt xs[i] ρ = some ρ' ∧ OkS (body ρ' σ) (cont Q (I (i + 1))))
    (he : ∀ ρ σ, I xs.length ρ σ → Q .next ρ σ) : ∀ m i ρ σ, i ≤ xs.length → xs.length - i ≤ m → I i ρ σ → OkS (forLoop tgt body m (.list l i) ρ σ) Q := by
  intro m
  induction m with
  | zero =>
    intro i ρ σ hi hm h
    have : i = xs.length := by omega
    subst this
    rw [forLoop]; simp only [nextIt, hl _ _ _ h, List.getElem?_eq_none (Nat.le_refl _)]
    exact oks_ok.2 (he _ _ h)
  | succ m ih =>
    intro i ρ σ hi hm h
    rw [forLoop]
    by_cases hin : i < xs.length
    · obtain ⟨ρ', ht, f, ρ'', σ'', e, q⟩ := hs i ρ σ hin h
      simp only [nextIt, hl _ _ _ h, List.getElem?_eq_getElem hin, ht, e]
      cases f with
      | next => exact ih _ _ _ (by omega) (by omega) q
      | ret v => exact oks_ok.2 q
    · have : i = xs.length := by omega
      subst this
      simp only [nextIt, hl _ _ _ h, List.getElem?_eq_none (Nat.le_refl _)]
      exact oks_ok.2 (he _ _ h)
theorem for_seq {tgt : V → Env → Option Env} {body : Env → H → RS} (xs : List V) (I : Nat → Env → H → Prop)
    (hs : ∀ i ρ σ (hi : i < xs.length), I i ρ σ → ∃ ρ', tgt xs[i] ρ = some ρ' ∧ OkS (body ρ' σ) (cont Q (I (i + 1))))
    (he : ∀ ρ σ, I xs.length ρ σ → Q .next ρ σ) : ∀ m i ρ σ, i ≤ xs.length → xs.length - i ≤ m → I i ρ σ → OkS (forLoop tgt body m (.seq (xs.drop i)) ρ σ) Q := by
  intro m
  induction m with
  | zero =>
    intro i ρ σ hi hm h
    have : i = xs.length := by omega
    subst this
    rw [forLoop]; simp only [nextIt, List.drop_length]
    exact oks_ok.2 (he _ _ h)
  | succ m ih =>
    intro i ρ σ hi hm h
    rw [forLoop]
    by_cases hin : i < xs.length
    · obtain ⟨ρ', ht, f, ρ'', σ'', e, q⟩ := hs i ρ σ hin h
      rw [List.drop_eq_getElem_cons hin]
      simp only [nextIt, ht, e]
      cases f with
      | next => exact ih _ _ _ (by omega) (by omega) q
      | ret v => exact oks_ok.2 q
    · have : i = xs.length := by omega
      subst this
      simp only [nextIt, List.drop_length]
      exact oks_ok.2 (he _ _ h)
theorem while_inv {test : Env → M V} {body : Env → H → RS} (I : Nat → Env → H → Prop)
    (hs : ∀ i ρ σ, I i ρ σ → Ok (test ρ σ) fun v σ' => (v = .bool false ∧ Q .next ρ σ') ∨ (v = .bool true ∧ 0 < i ∧ OkS (body ρ σ') (cont Q (I (i - 1))))) :
    ∀ m i ρ σ, i < m → I i ρ σ → OkS (whileLoop test body m ρ σ) Q := by
  intro m
  induction m with
  | zero => intro i ρ σ hi h; omega
  | succ m ih =>
    intro i ρ σ hi h
    rw [whileLoop, oks_ofE]
    refine (hs i ρ σ h).mono ?_
    rintro v σ' (⟨rfl, q⟩ | ⟨rfl, h0, f, ρ'', σ'', e, q⟩)
    · exact oks_ok.2 q
    · simp only [e]
      cases f with
      | next => exact ih _ _ _ (by omega) q
      | ret v => exact oks_ok.2 q
variable {P : List V → H → Prop}
noncomputable def addO : List V → Option V → List V
  | acc, some x => acc ++ [x]
  | acc, .none => acc
theorem gather_range {f : V → M (Option V)} (n : Nat) (hn : n ≤ lim) (I : Nat → List V → H → Prop)
    (hs : ∀ i acc σ, i < n → I i acc σ → acc.length ≤ i ∧ Ok (f (.int i) σ) fun o σ' => I (i + 1) (addO acc o) σ')
    (he : ∀ acc σ, I n acc σ → P acc σ) : ∀ m i acc σ, i ≤ n → n - i ≤ m → I i acc σ → Ok (gather f m (.range i n) acc σ) P := by
  intro m
  induction m with
  | zero =>
    intro i ρ σ hi hm h
    have : i = n := by omega
    subst this
    rw [gather]; simp only [nextIt, Nat.lt_irrefl, if_false]
    exact ok_ok.2 (he _ _ h)
  | succ m ih =>
    intro i acc σ hi hm h
    rw [gather]
    by_cases hin : i < n
    · obtain ⟨hl, o, σ'', e, q⟩ := hs i acc σ hin h
      simp only [nextIt, hin, if_true, e]
      cases o with
      | none => exact ih _ _ _ (by omega) (by omega) q
      | some v => 
        have : acc.length + 1 ≤ lim := by omega
        simp only [this, if_true]
        exact ih _ _ _ (by omega) (by omega) q
    · have : i = n := by omega
      subst this
      simp only [nextIt, Nat.lt_irrefl, if_false]
      exact ok_ok.2 (he _ _ h)
theorem gather_list {f : V → M (Option V)} (l : Nat) (xs : List V) (hn : xs.length ≤ lim) (I : Nat → List V → H → Prop)
    (hl : ∀ i acc σ, I i acc σ → σ[l]? = some (.list xs) ∧ acc.length ≤ i)
    (hs : ∀ i acc σ (hi : i < xs.length), I i acc σ → Ok (f xs[i] σ) fun o σ' => I (i + 1) (addO acc o) σ')
    (he : ∀ acc σ, I xs.length acc σ → P acc σ) : ∀ m i acc σ, i ≤ xs.length → xs.length - i ≤ m → I i acc σ → Ok (gather f m (.list l i) acc σ) P := by
  intro m
  induction m with
  | zero =>
    intro i acc σ hi hm h
    have : i = xs.length := by omega
    subst this
    rw [gather]; simp only [nextIt, (hl _ _ _ h).1, List.getElem?_eq_none (Nat.le_refl _)]
    exact ok_ok.2 (he _ _ h)
  | succ m ih =>
    intro i acc σ hi hm h
    rw [gather]
    by_cases hin : i < xs.length
    · obtain ⟨o, σ'', e, q⟩ := hs i acc σ hin h
      have hl' := (hl _ _ _ h).2
      simp only [nextIt, (hl _ _ _ h).1, List.getElem?_eq_getElem hin, e]
      cases o with
      | none => exact ih _ _ _ (by omega) (by omega) q
      | some v => 
        have : acc.length + 1 ≤ lim := by omega
        simp only [this, if_true]
        exact ih _ _ _ (by omega) (by omega) q
    · have : i = xs.length := by omega
      subst this
      simp only [nextIt, (hl _ _ _ h).1, List.getElem?_eq_none (Nat.le_refl _)]
      exact ok_ok.2 (he _ _ h)
theorem gather_seq {f : V → M (Option V)} (xs : List V) (hn : xs.length ≤ lim) (g : V → V)
    (hs : ∀ x ∈ xs, Ok (f x σ) fun o σ' => o = some (g x) ∧ σ' = σ) : ∀ acc m, acc.length + xs.length ≤ lim → xs.length ≤ m → gather f m (.seq xs) acc σ = .ok (acc ++ xs.map g) σ := by
  induction xs with
  | nil => intro acc m _ _; rw [gather]; simp [nextIt]
  | cons x xs ih =>
    intro acc m ha hm
    rw [gather]
    obtain ⟨_, _, e, rfl, rfl⟩ := hs x (by simp)
    cases m with
    | zero => simp at hm
    | succ m =>
      simp only [List.length_cons] at ha hm hn
      have : acc.length + 1 ≤ lim := by omega
      simp only [nextIt, e, this, if_true]
      rw [ih (by omega) (fun y hy => hs y (by simp [hy])) (acc ++ [g x]) m (by simp; omega) (by omega)]
      simp
/-- a comprehension that leaves the heap alone -/
theorem gather_range_map {f : V → M (Option V)} {n : Nat} (g : Nat → V) (hn : n ≤ lim) (hs : ∀ i, i < n → Ok (f (.int i) σ) fun o σ' => o = some (g i) ∧ σ' = σ) :
    gather f n (.range 0 n) [] σ = .ok ((List.range n).map g) σ := by
  have : Ok (gather f n (.range 0 n) [] σ) fun a σ' => a = (List.range n).map g ∧ σ' = σ := by
    refine gather_range n hn (fun i acc σ' => acc = (List.range i).map g ∧ σ' = σ) ?_ (fun _ _ h => h) _ _ _ _ (Nat.zero_le _) (Nat.le_refl _) ⟨rfl, rfl⟩
    rintro i _ _ hi ⟨rfl, rfl⟩
    refine ⟨by simp, (hs i hi).mono ?_⟩
    rintro _ _ ⟨rfl, rfl⟩
    simp [addO, List.range_succ]
  obtain ⟨_, _, e, rfl, rfl⟩ := this
  exact e
theorem gather_list_map {f : V → M (Option V)} {l : Nat} {xs : List V} (g : V → Option V) (hn : xs.length ≤ lim) (h : σ[l]? = some (.list xs)) (hs : ∀ x ∈ xs, Ok (f x σ) fun o σ' => o = g x ∧ σ' = σ) :
    gather f xs.length (.list l 0) [] σ = .ok (xs.filterMap g) σ := by
  have : Ok (gather f xs.length (.list l 0) [] σ) fun a σ' => a = xs.filterMap g ∧ σ' = σ := by
    refine gather_list l xs hn (fun i acc σ' => acc = (xs.take i).filterMap g ∧ σ' = σ ∧ i ≤ xs.length) ?_ ?_ ?_ _ _ _ _ (Nat.zero_le _) (Nat.le_refl _) ⟨by simp, rfl, Nat.zero_le _⟩
    · rintro i _ _ ⟨rfl, rfl, hi⟩
      refine ⟨h, Nat.le_trans (List.length_filterMap_le ..) (by simp; omega)⟩
    · rintro i _ _ hi ⟨rfl, rfl, _⟩
      refine (hs _ (List.getElem_mem hi)).mono ?_
      rintro _ _ ⟨rfl, rfl⟩
      refine ⟨?_, rfl, hi⟩
      rw [List.take_add_one, List.filterMap_append, List.getElem?_eq_getElem hi]
      simp only [Option.toList]
      cases e : g xs[i] <;> simp [addO, e]
    · rintro _ _ ⟨rfl, rfl, _⟩
      exact ⟨by simp, rfl⟩
  obtain ⟨_, _, e, rfl, rfl⟩ := this
  exact e
theorem ok_newL {xs : List V} {P : V → H → Prop} (h : xs.length ≤ lim) : Ok (newL xs σ) P ↔ P (.ref σ.length) (σ ++ [.list xs]) := by
  simp only [newL, h, if_true, newO, ok_ok]

/-! operators -/
variable {W : V → H → Prop}
theorem ok_add {x y : Int} : Ok (binV .add (.int x) (.int y) σ) W ↔ W (.int (x + y)) σ := ok_ok
theorem ok_sub {x y : Int} : Ok (binV .sub (.int x) (.int y) σ) W ↔ W (.int (x - y)) σ := ok_ok
theorem ok_mulr {x y : Int} (h : small y = true) : Ok (binV .mul (.int x) (.int y) σ) W ↔ W (.int (x * y)) σ := by
  simp only [binV, i2, h, Bool.or_true, if_true, ok_ret]
theorem ok_mull {x y : Int} (h : small x = true) : Ok (binV .mul (.int x) (.int y) σ) W ↔ W (.int (x * y)) σ := by
  simp only [binV, i2, h, Bool.true_or, if_true, ok_ret]
theorem ok_fdiv {x y : Int} (h : 0 < y ∧ y < 1073741824) : Ok (binV .fdiv (.int x) (.int y) σ) W ↔ W (.int (x.fdiv y)) σ := by
  simp only [binV, i2, h, and_self, if_true, ok_ret]
theorem ok_mod {x y : Int} (h : y ≠ 0) : Ok (binV .mod (.int x) (.int y) σ) W ↔ W (.int (x.fmod y)) σ := by
  simp only [binV, i2, h, if_false, ok_ret]
theorem ok_lt {x y : Int} : Ok (cmpV .lt (.int x) (.int y) σ) W ↔ W (.bool (decide (x < y))) σ := ok_ok
theorem ok_le {x y : Int} : Ok (cmpV .le (.int x) (.int y) σ) W ↔ W (.bool (decide (x ≤ y))) σ := ok_ok
theorem ok_gt {x y : Int} : Ok (cmpV .gt (.int x) (.int y) σ) W ↔ W (.bool (decide (y < x))) σ := ok_ok
theorem ok_ge {x y : Int} : Ok (cmpV .ge (.int x) (.int y) σ) W ↔ W (.bool (decide (y ≤ x))) σ := ok_ok
theorem ok_eqi {x y : Int} : Ok (cmpV .eq (.int x) (.int y) σ) W ↔ W (.bool (decide (x = y))) σ := by
  simp only [cmpV, eqM, eqD, veq, ok_ok, Bool.bne_false]
theorem ok_nei {x y : Int} : Ok (cmpV .ne (.int x) (.int y) σ) W ↔ W (.bool (decide (x ≠ y))) σ := by
  simp only [cmpV, eqM, eqD, veq, ok_ok, Bool.bne_true, ne_eq, decide_not]
theorem ok_eqs {x y : List Nat} : Ok (cmpV .eq (.str x) (.str y) σ) W ↔ W (.bool (decide (x = y))) σ := by
  simp only [cmpV, eqM, eqD, veq, ok_ok, Bool.bne_false]
theorem ok_nes {x y : List Nat} : Ok (cmpV .ne (.str x) (.str y) σ) W ↔ W (.bool (decide (x ≠ y))) σ := by
  simp only [cmpV, eqM, eqD, veq, ok_ok, Bool.bne_true, ne_eq, decide_not]
theorem ok_eqb {x y : Bool} : Ok (cmpV .eq (.bool x) (.bool y) σ) W ↔ W (.bool (x == y)) σ := by
  simp only [cmpV, eqM, eqD, veq, ok_ok, Bool.bne_false]
theorem ok_isn {v : V} : Ok (cmpV .is v .none σ) W ↔ W (.bool (isNoneV v)) σ := ok_ok
theorem ok_isnt {v : V} : Ok (cmpV .isnt v .none σ) W ↔ W (.bool (!isNoneV v)) σ := ok_ok
theorem ok_idx {l : Nat} {xs : List V} {k : Nat} {v : V} (h : σ[l]? = some (.list xs)) (hk : xs[k]? = some v) : Ok (idxV ns (.ref l) (.int k) σ) W ↔ W v σ := by
  have : k < xs.length := by
    obtain ⟨h, _⟩ := List.getElem?_eq_some_iff.1 hk; exact h
  simp only [idxV, h, idxN, Int.natCast_nonneg, if_true, Int.toNat_natCast, this, Option.bind, hk, ok_ok]
theorem ok_idx' {l : Nat} {xs : List V} {k : Int} {v : V} (h : σ[l]? = some (.list xs)) (h0 : 0 ≤ k) (hk : xs[k.toNat]? = some v) : Ok (idxV ns (.ref l) (.int k) σ) W ↔ W v σ := by
  obtain ⟨n, rfl⟩ := Int.eq_ofNat_of_zero_le h0
  exact ok_idx h hk
theorem ok_len {l : Nat} {xs : List V} (h : σ[l]? = some (.list xs)) : Ok (lenV ns (.ref l) σ) W ↔ W (.int xs.length) σ := by
  simp only [lenV, h, ok_ok]
theorem ok_mkS {x : List Nat} (h : x.length ≤ lim) : Ok (mkS x σ) W ↔ W (.str x) σ := by
  simp only [mkS, h, if_true, ok_ret]
theorem ok_cat {x y : List Nat} (h : x.length + y.length ≤ lim) : Ok (binV .add (.str x) (.str y) σ) W ↔ W (.str (x ++ y)) σ := by
  simp only [binV, addV]; exact ok_mkS (by simpa using h)
theorem ok_idxS {x : List Nat} {k : Int} {c : Nat} (h0 : 0 ≤ k) (hk : x[k.toNat]? = some c) : Ok (idxV ns (.str x) (.int k) σ) W ↔ W (.str [c]) σ := by
  obtain ⟨n, rfl⟩ := Int.eq_ofNat_of_zero_le h0
  have : n < x.length := by
    obtain ⟨h, _⟩ := List.getElem?_eq_some_iff.1 hk; exact h
  simp only [Int.toNat_natCast] at hk
  simp only [idxV, idxN, Int.ofNat_eq_natCast, Int.natCast_nonneg, if_true, Int.toNat_natCast, this, Option.bind, hk, ok_ret]
theorem ok_sliceS {x : List Nat} {lo hi : V} {l h : Option Int} (hl : optInt lo = some l) (hh : optInt hi = some h) (hx : x.length ≤ lim) : Ok (sliceV ns (.str x) lo hi σ) W ↔ W (.str (cut x l h)) σ := by
  simp only [sliceV, hl, hh]
  refine ok_mkS ?_
  unfold cut; simp; omega
theorem ok_eqM {a b : V} {r neg : Bool} (h : veq eqD σ a b = some r) : Ok (eqM a b neg σ) W ↔ W (.bool (r != neg)) σ := by
  simp only [eqM, h, ok_ok]
theorem ok_var {k : Nat} {v : V} (h : ρ[k]? = some (some v)) : Ok (evE ns C ρ (.var k) σ) W ↔ W v σ := by
  simp only [evE, h, ok_ret]
theorem ok_bi {b : Bi} {es : List E} (hn : C.hn = true) : Ok (evE ns C ρ (.bi b es) σ) W ↔ Ok (evEs ns C ρ es σ) fun vs σ' => Ok (biV ns b vs σ') W := by
  simp only [evE, ok_bnd, hn, if_true]
theorem ok_nil {P : List V → H → Prop} : Ok (evEs ns C ρ [] σ) P ↔ P [] σ := by
  simp only [evEs, ok_ret]
theorem ok_cons {e : E} {es : List E} {P : List V → H → Prop} : Ok (evEs ns C ρ (e :: es) σ) P ↔ Ok (evE ns C ρ e σ) fun v σ' => Ok (evEs ns C ρ es σ') fun vs σ'' => P (v :: vs) σ'' := by
  simp only [evEs, ok_bnd, ok_ret]
theorem ok_call {f : Nat} {es : List E} : Ok (evE ns C ρ (.call f es) σ) W ↔ Ok (evEs ns C ρ es σ) fun vs σ' => Ok (C.call f vs σ') W := by
  simp only [evE, ok_bnd]
end

theorem get_app {σ τ : H} {l : Nat} {o : O} (h : σ[l]? = some o) : (σ ++ τ)[l]? = some o := by
  obtain ⟨hl, rfl⟩ := List.getElem?_eq_some_iff.1 h
  rw [List.getElem?_append_left hl, h]
theorem get_new {σ : H} {o : O} : (σ ++ [o])[σ.length]? = some o := by simp
theorem get_pre {σ σ' : H} {l : Nat} {o : O} (p : σ <+: σ') (h : σ[l]? = some o) : σ'[l]? = some o := by
  obtain ⟨τ, rfl⟩ := p; exact get_app h
theorem fmod_nat (x : Int) (k : Nat) (h : 0 < k) : ∃ q : Nat, q < k ∧ x.fmod k = q := by
  have h0 := Int.fmod_nonneg_of_pos x (b := k) (by omega)
  have h1 := Int.fmod_lt_of_pos x (b := k) (by omega)
  exact ⟨(x.fmod k).toNat, by omega, by omega⟩
end Mine

set_option maxRecDepth 100000
set_option linter.unusedSimpArgs false
namespace Mine.L01
open Mine

noncomputable abbrev C (ns : List Int) (n : Nat) : Calls := callsOf ns fs 100 n

section
variable {ns : List Int} {n : Nat} {σ : H}

theorem call_eq (f : Nat) (fn : Fn) (h : fs[f]? = some fn) (vs : List V) : (C ns (n + 1)).call f vs = evF ns (C ns n) fn vs := by
  simp only [C, callsOf, h]
theorem hn_eq : (C ns n).hn = true := by cases n <;> rfl
theorem fuel_eq : (C ns n).fuel = 100 := by cases n <;> rfl

noncomputable def cell (ns : List Int) (k : Nat) : Int := (ns[k]?).getD 0

theorem call2 (k : Nat) : (C ns (n + 1)).call 2 [.scr, .int k] σ = .ok (.int (cell ns k)) σ := by
  have : Ok ((C ns (n + 1)).call 2 [.scr, .int k] σ) fun v σ' => v = .int (cell ns k) ∧ σ' = σ := by
    rw [call_eq 2 fn2 rfl]
    refine ok_evF rfl ?_
    simp only [fn2, oks_ite, evE, evEs, ok_bnd, ok_ret, hn_eq, if_true, biV, lenV, ok_lt, List.getElem?_cons_zero, List.getElem?_cons_succ, List.map, List.cons_append]
    by_cases h : k < ns.length
    · refine ⟨true, by simp; omega, ?_⟩
      simp [oks_ret, evE, ok_bnd, ok_ret, cont, idxV, idxN, h, cell]
    · refine ⟨false, by simp; omega, ?_⟩
      simp [oks_ret, oks_nil, evE, ok_bnd, ok_ret, cont, idxV, idxN, h, cell]
  obtain ⟨_, _, e, rfl, rfl⟩ := this
  exact e

theorem call1_int (i : Int) : (C ns (n + 1)).call 1 [.int i] σ = .ok (.bool true) σ := by
  rw [call_eq 1 fn1 rfl]
  simp [fn1, evF, evSs, evS, evE, evAnd, M.bnd, isiV, M.ret, RS.ofE, notV]

theorem anyEq_int (a : Int) (xs : List Int) : anyEq (.int a) (xs.map V.int) = some (decide (a ∈ xs)) := by
  induction xs with
  | nil => rfl
  | cons x xs ih =>
    simp only [List.map, anyEq, feq, ih]
    by_cases h : x = a
    · simp [h]
    · simp [h, Ne.symm h]
theorem firstEq_int (a : Int) (xs : List Int) : ∀ i, a ∈ xs → firstEq (.int a) (xs.map V.int) i = some (i + xs.idxOf a) := by
  induction xs with
  | nil => intro i h; cases h
  | cons x xs ih =>
    intro i h
    simp only [List.map, firstEq, feq, anyEq_int]
    by_cases hx : x = a
    · subst hx; simp
    · have h' : a ∈ xs := by
        cases h with
        | head => exact absurd rfl hx
        | tail _ h => exact h
      have e : xs.idxOf a + 1 = (x :: xs).idxOf a := by
        have : (x == a) = false := by simp [hx]
        simp [List.idxOf_cons, this]
      simp only [hx, decide_false]
      rw [ih (i + 1) h', ← e]; simp only [Option.some.injEq]; omega

noncomputable def pl (xs bs : List Int) : Nat := xs.findIdx fun x => decide (x ∈ bs)
noncomputable def res (xs as bs : List Int) : V := if as.any fun a => decide (pl xs bs ≤ xs.idxOf a) then .none else .int (pl xs bs)

theorem call0 {r a b : Nat} {xs as bs : List Int} (hr : σ[r]? = some (.list (xs.map V.int))) (ha : σ[a]? = some (.list (as.map V.int))) (hb : σ[b]? = some (.list (bs.map V.int)))
    (hsub : ∀ x ∈ as, x ∈ xs) (hl : xs.length ≤ 1000) : (C ns (n + 1)).call 0 [.ref r, .ref a, .ref b] σ = .ok (res xs as bs) σ := by
  have : Ok ((C ns (n + 1)).call 0 [.ref r, .ref a, .ref b] σ) fun v σ' => v = res xs as bs ∧ σ' = σ := by
    rw [call_eq 0 fn0 rfl]
    refine ok_evF rfl ?_
    simp only [fn0, List.map, List.cons_append, List.nil_append, List.replicate]
    rw [oks_assign (by simp)]
    simp only [evE, evEs, ok_bnd, ok_ret, hn_eq, if_true, biV, lenV, List.getElem?_cons_zero, hr, ok_ok]
    refine oks_for hn_eq ?_
    simp only [evSrc, evE, evEs, ok_bnd, ok_ret, hn_eq, if_true, biV, lenV, List.getElem?_cons_zero, hr, ok_ok, rangeV, List.length_map, List.set, Int.toNat_natCast]
    rw [if_pos (by omega), ok_ret]
    refine for_range xs.length (fun i ρ' σ' => σ = σ' ∧ ∃ o, ρ' = [some (.ref r), some (.ref a), some (.ref b), some (.int ((if pl xs bs < i then pl xs bs else xs.length : Nat) : Int)), o, .none]) ?_ ?_ _ _ _ _ (Nat.zero_le _) (Nat.le_refl _) ⟨rfl, _, rfl⟩
    · rintro i _ _ hi ⟨rfl, o, rfl⟩
      refine ⟨_, rfl, ?_⟩
      simp only [oks_ite, evE, evEs, ok_bnd, ok_ret, hn_eq, if_true, biV, lenV, List.getElem?_cons_zero, List.getElem?_cons_succ, List.set, hr, hb, idxV, cmpV, inM, ok_ok, anyEq_int, idxN, Int.natCast_nonneg, Int.toNat_natCast, List.length_map, hi, Option.bind, List.getElem?_map, List.getElem?_eq_getElem hi, Option.map]
      refine ⟨decide (xs[i] ∈ bs), by simp, ?_⟩
      by_cases hm : xs[i] ∈ bs
      · simp only [hm, decide_true, if_true]
        rw [oks_assign (by simp)]
        simp only [evE, evEs, ok_bnd, ok_ret, hn_eq, if_true, biV, List.getElem?_cons_zero, List.getElem?_cons_succ, oks_nil, cont, List.set]
        refine ⟨trivial, some (.int i), ?_⟩
        have : pl xs bs ≤ i := by
          apply Nat.le_of_not_lt
          intro h
          have := List.not_of_lt_findIdx h
          simp [hm] at this
        have e : (min ((if pl xs bs < i then pl xs bs else xs.length : Nat) : Int) (i : Int)) = ((if pl xs bs < i + 1 then pl xs bs else xs.length : Nat) : Int) := by
          split <;> split <;> omega
        rw [e]
      · simp only [hm, decide_false, Bool.false_eq_true, if_false, oks_nil, cont]
        refine ⟨trivial, some (.int i), ?_⟩
        have : pl xs bs ≠ i := by
          intro h
          have := List.findIdx_getElem (xs := xs) (p := fun x => decide (x ∈ bs)) (w := by unfold pl at h; omega)
          unfold pl at h
          simp [h, hm] at this
        have e : (if pl xs bs < i then pl xs bs else xs.length) = (if pl xs bs < i + 1 then pl xs bs else xs.length) := by
          split <;> split <;> omega
        rw [e]
    · rintro _ _ ⟨rfl, o, rfl⟩
      simp only [cont]
      refine oks_for hn_eq ?_
      simp only [evSrc, evE, ok_bnd, ok_ret, List.getElem?_cons_zero, List.getElem?_cons_succ, itOf, ha, ok_ok]
      have hpl : (if pl xs bs < xs.length then pl xs bs else xs.length) = pl xs bs := by
        have : pl xs bs ≤ xs.length := List.findIdx_le_length
        split <;> omega
      rw [hpl]
      refine for_list a (as.map V.int) (fun j ρ' σ' => σ = σ' ∧ (∀ k (hk : k < as.length), k < j → xs.idxOf as[k] < pl xs bs) ∧ ∃ o o', ρ' = [some (.ref r), some (.ref a), some (.ref b), some (.int (pl xs bs)), o, o']) ?_ ?_ ?_ _ _ _ _ (Nat.zero_le _) (Nat.le_refl _) ⟨rfl, fun _ _ h => by omega, _, _, rfl⟩
      · rintro i _ _ ⟨rfl, _⟩; exact ha
      · rintro i _ _ hi ⟨rfl, hk, o, o', rfl⟩
        have hi' : i < as.length := by simpa using hi
        refine ⟨_, rfl, ?_⟩
        simp only [oks_ite, evE, evEs, ok_bnd, ok_ret, List.getElem?_cons_zero, List.getElem?_cons_succ, List.set, hr, meK, meV, ok_ge, List.getElem_map, ok_ok, firstEq_int _ _ _ (hsub _ (List.getElem_mem hi'))]
        refine ⟨_, rfl, ?_⟩
        by_cases hc : pl xs bs ≤ xs.idxOf as[i]
        · have : decide ((pl xs bs : Int) ≤ ((0 + xs.idxOf as[i] : Nat) : Int)) = true := by simp; exact_mod_cast hc
          simp only [this, if_true, oks_ret, evE, ok_ret, cont]
          refine ⟨?_, trivial⟩
          unfold res
          rw [if_pos]
          simp only [List.any_eq_true, decide_eq_true_eq]
          exact ⟨_, List.getElem_mem hi', hc⟩
        · have : decide ((pl xs bs : Int) ≤ ((0 + xs.idxOf as[i] : Nat) : Int)) = false := by simp; omega
          simp only [this, Bool.false_eq_true, if_false, oks_nil, cont]
          refine ⟨trivial, ?_, o, _, rfl⟩
          intro k hk' hki
          by_cases h : k = i
          · subst h; omega
          · exact hk k hk' (by omega)
      · rintro _ _ ⟨rfl, hk, o, o', rfl⟩
        simp only [cont, oks_ret, evE, ok_ret, List.getElem?_cons_zero, List.getElem?_cons_succ]
        refine ⟨?_, trivial⟩
        unfold res
        rw [if_neg]
        simp only [List.any_eq_true, decide_eq_true_eq]
        rintro ⟨x, hx, h⟩
        obtain ⟨k, hk', rfl⟩ := List.mem_iff_getElem.1 hx
        have := hk k hk' (by simpa using hk')
        omega
  obtain ⟨_, _, e, rfl, rfl⟩ := this
  exact e

theorem veq_nil {r e : Nat} {xs : List V} (hr : σ[r]? = some (.list xs)) (he : σ[e]? = some (.list [])) : veq eqD σ (.ref r) (.ref e) = some (decide (xs = [])) := by
  simp only [eqD, veq, hr, he]
  cases xs with
  | nil => simp [veqs]
  | cons x xs => simp

theorem call3 {r k m : Nat} {xs : List Int} (hr : σ[r]? = some (.list (xs.map V.int))) (hm : m ≤ 1000) : ∃ ys : List Int, (∀ y ∈ ys, y ∈ xs) ∧ ys.length ≤ m ∧
    (C ns (n + 2)).call 3 [.scr, .int k, .int m, .ref r] σ = .ok (.ref (σ.length + 1)) (σ ++ [.list [], .list (ys.map V.int)]) := by
  have : Ok ((C ns (n + 2)).call 3 [.scr, .int k, .int m, .ref r] σ) fun v σ' => ∃ ys : List Int, (∀ y ∈ ys, y ∈ xs) ∧ ys.length ≤ m ∧ v = .ref (σ.length + 1) ∧ σ' = σ ++ [.list [], .list (ys.map V.int)] := by
    rw [call_eq 3 fn3 rfl]
    refine ok_evF rfl ?_
    simp only [fn3, List.map, List.cons_append, List.nil_append, List.replicate, oks_ite, evE, evEs, ok_bnd, ok_ret, List.getElem?_cons_zero, List.getElem?_cons_succ, cmpV]
    rw [ok_newL (by simp)]
    simp only [eqM, veq_nil (get_app hr) get_new, ok_ok]
    refine ⟨_, rfl, ?_⟩
    by_cases hx : xs = []
    · subst hx
      simp only [List.map_nil, decide_true, Bool.true_bne, Bool.not_false, if_true, oks_ret, evE, evEs, ok_bnd, ok_ret, cont]
      rw [ok_newL (by simp)]
      exact ⟨[], by simp, by simp, by simp, by simp⟩
    · have hx' : List.map V.int xs ≠ [] := by simpa using hx
      simp only [hx', decide_false, Bool.false_bne, Bool.false_eq_true, if_false, oks_nil, cont, oks_ret, evE, evSrc, ok_bnd, ok_ret, List.getElem?_cons_zero, List.getElem?_cons_succ, rangeV, hn_eq, if_true]
      rw [if_pos (by omega), ok_ret]
      have hxl : 0 < xs.length := by
        cases xs with
        | nil => exact absurd rfl hx
        | cons => simp
      have hg := gather_range_map (σ := σ ++ [.list []]) (f := fun v => (evE ns (C ns (n + 1)) ([some .scr, some (.int k), some (.int m), some (.ref r)] ++ [some v]) (Mine.E.idx
                 (Mine.E.var 3)
                 (Mine.E.bin
                   (Mine.Bin.mod)
                   (Mine.E.bin
                     (Mine.Bin.add)
                     (Mine.E.call 2 [Mine.E.var 0, Mine.E.bin (Mine.Bin.add) (Mine.E.var 1) (Mine.E.bin (Mine.Bin.mod) (Mine.E.var 4) (Mine.E.lit (Mine.V.int 4)))])
                     (Mine.E.bin (Mine.Bin.mul) (Mine.E.bin (Mine.Bin.fdiv) (Mine.E.var 4) (Mine.E.lit (Mine.V.int 4))) (Mine.E.lit (Mine.V.int 7))))
                   (Mine.E.bi (Mine.Bi.len) [Mine.E.var 3])))).bnd fun x => .ret (some x)) (n := m)
          (fun j => .int ((xs[((cell ns (k + j % 4) + (j / 4 : Nat) * 7).fmod xs.length).toNat]?).getD 0)) (by unfold lim; omega) (by
            intro j hj
            have e1 : (k : Int) + (j : Int).fmod 4 = ((k + j % 4 : Nat) : Int) := by
              rw [Int.fmod_eq_emod_of_nonneg _ (by omega)]; omega
            have e2 : (j : Int).fdiv 4 = ((j / 4 : Nat) : Int) := by
              rw [Int.fdiv_eq_ediv_of_nonneg _ (by omega)]; omega
            have hr' := get_app (τ := [O.list []]) hr
            have hne : (xs.length : Int) ≠ 0 := by omega
            have hsm : small ((j / 4 : Nat) : Int) = true := by simp [small]; omega
            generalize hv : (cell ns (k + j % 4) + ((j / 4 : Nat) : Int) * 7).fmod xs.length = q
            have hq0 : 0 ≤ q := by rw [← hv]; exact Int.fmod_nonneg_of_pos _ (by omega)
            have hq1 : q < xs.length := by rw [← hv]; exact Int.fmod_lt_of_pos _ (by omega)
            have hq2 : q.toNat < xs.length := by omega
            simp only [ok_bnd, evE, evEs, ok_ret, List.cons_append, List.nil_append, List.getElem?_cons_zero, List.getElem?_cons_succ, ok_mod (show (4 : Int) ≠ 0 by decide), ok_add, e1, call2, ok_ok, ok_fdiv (show (0 : Int) < 4 ∧ (4 : Int) < 1073741824 by decide), e2, ok_mull hsm, hn_eq, if_true, biV, ok_len hr', List.length_map, ok_mod hne, hv]
            rw [ok_idx' hr' hq0 (v := .int xs[q.toNat]) (by simp [hq2])]
            simp [hq2])
      simp only [Int.toNat_natCast, ok_bnd]
      refine .use hg ?_
      simp only [evE.newO', newO, ok_ok]
      refine ⟨(List.range m).map fun j => (xs[((cell ns (k + j % 4) + (j / 4 : Nat) * 7).fmod xs.length).toNat]?).getD 0, ?_, ?_, ?_, ?_⟩
      · simp only [List.mem_map]
        rintro _ ⟨j, _, rfl⟩
        generalize hv : (cell ns (k + j % 4) + ((j / 4 : Nat) : Int) * 7).fmod xs.length = q
        have hq0 : 0 ≤ q := by rw [← hv]; exact Int.fmod_nonneg_of_pos _ (by omega)
        have hq1 : q < xs.length := by rw [← hv]; exact Int.fmod_lt_of_pos _ (by omega)
        have hq2 : q.toNat < xs.length := by omega
        simp [hq2]
      · simp
      · simp
      · simp
  obtain ⟨_, _, e, ys, h1, h2, rfl, rfl⟩ := this
  exact ⟨ys, h1, h2, e⟩

theorem test_in {ρ : Env} {q : Nat} {r b : Nat} {xs bs : List Int} {LO HI : E} {lo hi : V} {l h : Option Int}
    (h4 : ρ.length = 4) (hq : ρ[q]? = some (some (.ref b))) (h0 : ρ[0]? = some (some (.ref r)))
    (hr : σ[r]? = some (.list (xs.map V.int))) (hb : σ[b]? = some (.list (bs.map V.int))) (hbl : bs.length ≤ lim) (hxl : xs.length ≤ lim)
    (hlo : ∀ y σ', evE ns (C ns n) (ρ ++ [some y]) LO σ' = .ok lo σ') (hhi : ∀ y σ', evE ns (C ns n) (ρ ++ [some y]) HI σ' = .ok hi σ')
    (ol : optInt lo = some l) (oh : optInt hi = some h) :
    Ok (evE ns (C ns n) ρ (Mine.E.cmp
                  (Mine.Cmp.ne)
                  (Mine.E.compIf (Mine.Src.of (Mine.E.var q)) (Mine.E.var 4) (Mine.E.cmp (Mine.Cmp.isin) (Mine.E.var 4) (Mine.E.slice (Mine.E.var 0) LO HI)))
                  (Mine.E.list [])) σ) fun v σ' => v = .bool (bs.any fun y => decide (y ∈ cut xs l h)) ∧ σ <+: σ' := by
  have h0' : ∀ y, (ρ ++ [y])[0]? = some (some (.ref r)) := fun y => by rw [List.getElem?_append_left (by omega), h0]
  have h4' : ∀ y, (ρ ++ [y])[4]? = some y := fun y => by rw [← h4]; simp
  have hcut : (cut xs l h).length ≤ lim := by
    unfold cut; simp; omega
  have hcm : cut (xs.map V.int) l h = (cut xs l h).map V.int := by
    unfold cut; simp only [List.length_map, List.map_take, List.map_drop]
  simp only [evE, evSrc, ok_bnd, hq, ok_ret, itOf, hb, ok_ok, hn_eq, if_true]
  have hg : Ok (gather (fun v => (evE ns (C ns n) (ρ ++ [some v]) (Mine.E.cmp (Mine.Cmp.isin) (Mine.E.var 4) (Mine.E.slice (Mine.E.var 0) LO HI))).bnd fun t => match t with
      | .bool true => (evE ns (C ns n) (ρ ++ [some v]) (.var 4)).bnd fun x => .ret (some x)
      | .bool false => .ret .none
      | _ => stuck) (bs.map V.int).length (.list b 0) [] σ) fun acc σ' => acc = (bs.filter fun y => decide (y ∈ cut xs l h)).map V.int ∧ σ <+: σ' := by
    refine gather_list b (bs.map V.int) (by simpa using hbl) (fun i acc σ' => i ≤ bs.length ∧ acc = ((bs.take i).filter fun y => decide (y ∈ cut xs l h)).map V.int ∧ σ <+: σ') ?_ ?_ ?_ _ _ _ _ (Nat.zero_le _) (Nat.le_refl _) ⟨Nat.zero_le _, by simp, List.prefix_refl _⟩
    · rintro i _ σ' ⟨hi, rfl, hp⟩
      refine ⟨get_pre hp hb, ?_⟩
      rw [List.length_map]
      exact Nat.le_trans (List.length_filter_le ..) (by simp; omega)
    · rintro i _ σ' hi ⟨_, rfl, hp⟩
      have hi' : i < bs.length := by simpa using hi
      simp only [evE, ok_bnd, hlo, hhi, h0', h4', ok_ret, ok_ok, sliceV, ol, oh, get_pre hp hr, List.getElem_map, hcm]
      rw [ok_newL (by simpa using hcut)]
      simp only [cmpV, inM, get_new, anyEq_int, ok_ok]
      have ht : (bs.take (i + 1)) = bs.take i ++ [bs[i]] := by
        rw [List.take_add_one, List.getElem?_eq_getElem hi']; rfl
      by_cases hm : bs[i] ∈ cut xs l h
      · simp only [hm, decide_true, Bool.true_bne, Bool.not_false, ok_ok, ok_bnd, ok_ret]
        refine ⟨hi', ?_, hp.trans (List.prefix_append _ _)⟩
        rw [ht, List.filter_append, List.map_append]; simp [addO, hm]
      · simp only [hm, decide_false, Bool.false_bne, ok_ok, ok_ret]
        refine ⟨hi', ?_, hp.trans (List.prefix_append _ _)⟩
        rw [ht, List.filter_append, List.map_append]; simp [addO, hm]
    · rintro _ σ' ⟨_, rfl, hp⟩
      simp [hp]
  refine hg.mono ?_
  rintro _ σ' ⟨rfl, hp⟩
  simp only [evE.newO', newO, ok_ok, evEs, ok_ret]
  rw [ok_newL (by simp)]
  simp only [cmpV, eqM, veq_nil (get_app get_new) get_new, ok_ok]
  refine ⟨?_, hp.trans ⟨_, by rw [List.append_assoc]⟩⟩
  congr 1
  rw [Bool.eq_iff_iff]
  simp
theorem pl_le {xs bs : List Int} : pl xs bs ≤ xs.length := List.findIdx_le_length
theorem any_take {xs bs : List Int} {p : Nat} : (bs.any fun y => decide (y ∈ xs.take p)) = decide (pl xs bs < p ∧ pl xs bs < xs.length) := by
  rw [Bool.eq_iff_iff]
  simp only [List.any_eq_true, decide_eq_true_eq]
  constructor
  · rintro ⟨y, hy, hm⟩
    obtain ⟨j, hj, rfl⟩ := List.mem_iff_getElem.1 hm
    rw [List.getElem_take] at hy
    have hj' : j < p ∧ j < xs.length := by simp at hj; omega
    have : pl xs bs ≤ j := by
      apply Nat.le_of_not_lt
      intro h
      have := List.not_of_lt_findIdx h
      simp [hy] at this
    omega
  · rintro ⟨h1, h2⟩
    have := List.findIdx_getElem (xs := xs) (p := fun x => decide (x ∈ bs)) (w := h2)
    simp only [decide_eq_true_eq] at this
    refine ⟨_, this, ?_⟩
    rw [List.mem_iff_getElem]
    have h3 : pl xs bs < (xs.take p).length := by simp; omega
    exact ⟨pl xs bs, h3, by rw [List.getElem_take]; rfl⟩
theorem any_drop {xs as bs : List Int} (hnd : xs.Nodup) (hsub : ∀ x ∈ as, x ∈ xs) : (as.any fun y => decide (y ∈ xs.drop (pl xs bs))) = as.any fun a => decide (pl xs bs ≤ xs.idxOf a) := by
  rw [Bool.eq_iff_iff]
  simp only [List.any_eq_true, decide_eq_true_eq]
  constructor
  · rintro ⟨y, hy, hm⟩
    refine ⟨y, hy, ?_⟩
    obtain ⟨j, hj, rfl⟩ := List.mem_iff_getElem.1 hm
    rw [List.getElem_drop, hnd.idxOf_getElem]
    omega
  · rintro ⟨y, hy, hm⟩
    refine ⟨y, hy, ?_⟩
    have hx := hsub y hy
    have hlt := List.idxOf_lt_length_of_mem hx
    rw [List.mem_iff_getElem]
    refine ⟨xs.idxOf y - pl xs bs, by simp; omega, ?_⟩
    rw [List.getElem_drop]
    have : pl xs bs + (xs.idxOf y - pl xs bs) = xs.idxOf y := by omega
    simp only [this]
    exact List.getElem_idxOf hlt

theorem call4 {r a b : Nat} {xs as bs : List Int} (hr : σ[r]? = some (.list (xs.map V.int))) (ha : σ[a]? = some (.list (as.map V.int))) (hb : σ[b]? = some (.list (bs.map V.int)))
    (hsub : ∀ x ∈ as, x ∈ xs) (hnd : xs.Nodup) (hl : xs.length < 100) (hal : as.length ≤ lim) (hbl : bs.length ≤ lim) :
    Ok ((C ns (n + 1)).call 4 [.ref r, .ref a, .ref b] σ) fun v σ' => v = res xs as bs ∧ σ <+: σ' := by
  have hxl : xs.length ≤ lim := by unfold lim; omega
  have hple : pl xs bs ≤ xs.length := pl_le
  rw [call_eq 4 fn4 rfl]
  refine ok_evF rfl ?_
  simp only [fn4, List.map, List.cons_append, List.nil_append, List.replicate]
  rw [oks_assign (by simp)]
  simp only [evE, evEs, ok_bnd, ok_ret, hn_eq, if_true, biV, ok_len hr, List.getElem?_cons_zero, List.length_map, List.set]
  refine oks_while ?_
  rw [fuel_eq]
  refine while_inv (fun i ρ' σ' => σ <+: σ' ∧ pl xs bs ≤ i ∧ i ≤ xs.length ∧ ρ' = [some (.ref r), some (.ref a), some (.ref b), some (.int i)]) ?_ 100 xs.length _ _ hl ⟨List.prefix_refl _, hple, Nat.le_refl _, rfl⟩
  rintro i _ σ' ⟨hp, hi, hi', rfl⟩
  rw [evE, evAnd, ok_bnd]
  simp only [evE.eq_8, ok_bnd, evE.eq_2, evE.eq_1, List.getElem?_cons_succ, List.getElem?_cons_zero, ok_ret, ok_gt]
  have hfin : ∀ σ'', σ <+: σ'' → i = pl xs bs → cont (fun f x σ' => match f with | .ret v => v = res xs as bs ∧ σ <+: σ' | .next => V.none = res xs as bs ∧ σ <+: σ')
      (fun ρ' σ' => OkS (evSs ns (C ns n) ρ' σ' [Mine.S.ite
             (Mine.E.cmp
               (Mine.Cmp.ne)
               (Mine.E.compIf (Mine.Src.of (Mine.E.var 1)) (Mine.E.var 4) (Mine.E.cmp (Mine.Cmp.isin) (Mine.E.var 4) (Mine.E.slice (Mine.E.var 0) (Mine.E.var 3) (Mine.E.lit (Mine.V.none)))))
               (Mine.E.list []))
             [Mine.S.ret (Mine.E.lit (Mine.V.none))]
             [],
           Mine.S.ret (Mine.E.var 3)]) fun f x σ' => match f with | .ret v => v = res xs as bs ∧ σ <+: σ' | .next => V.none = res xs as bs ∧ σ <+: σ') .next [some (.ref r), some (.ref a), some (.ref b), some (.int i)] σ'' := by
    intro σ'' hp hi
    simp only [cont]
    rw [oks_ite]
    refine (test_in (r := r) (b := a) (xs := xs) (bs := as) (lo := .int i) (hi := .none) (l := some i) (h := .none) rfl rfl rfl (get_pre hp hr) (get_pre hp ha) hal hxl (fun _ _ => rfl) (fun _ _ => rfl) rfl rfl).mono ?_
    rintro _ σ3 ⟨rfl, hp3⟩
    refine ⟨_, rfl, ?_⟩
    have hc : cut xs (some (i : Int)) .none = xs.drop (pl xs bs) := by
      subst hi
      simp only [cut, clampN, Int.natCast_nonneg, if_true, Int.toNat_natCast]
      rw [Nat.min_eq_left hple, List.take_of_length_le (by simp)]
    rw [hc, any_drop hnd hsub]
    cases hcase : as.any fun a => decide (pl xs bs ≤ xs.idxOf a) with
    | true =>
      simp only [if_true, oks_ret, evE, ok_ret, cont]
      exact ⟨by simp [res, hcase], hp.trans hp3⟩
    | false =>
      simp only [Bool.false_eq_true, if_false, oks_nil, cont, oks_ret, evE, ok_ret, List.getElem?_cons_succ, List.getElem?_cons_zero]
      exact ⟨by simp [res, hcase, hi], hp.trans hp3⟩
  by_cases h0 : 0 < i
  · have hd : decide ((0 : Int) < (i : Int)) = true := by simp; omega
    simp only [hd, if_true]
    rw [evAnd, ok_bnd]
    refine (test_in (r := r) (b := b) (xs := xs) (bs := bs) (lo := .none) (hi := .int i) (l := .none) (h := some i) rfl rfl rfl (get_pre hp hr) (get_pre hp hb) hbl hxl (fun _ _ => rfl) (fun _ _ => rfl) rfl rfl).mono ?_
    rintro _ σ3 ⟨rfl, hp3⟩
    have hc : cut xs .none (some (i : Int)) = xs.take i := by
      simp only [cut, clampN, Int.natCast_nonneg, if_true, Int.toNat_natCast, List.drop_zero, Nat.sub_zero]
      rw [Nat.min_eq_left hi']
    rw [hc, any_take]
    simp only [ok_ret]
    by_cases hq : pl xs bs < i
    · right
      have hq2 : pl xs bs < xs.length := by omega
      refine ⟨by simp [hq, hq2], h0, ?_⟩
      rw [oks_assign (by simp)]
      simp only [evE, ok_bnd, ok_ret, List.getElem?_cons_succ, List.getElem?_cons_zero, ok_sub, oks_nil, cont, List.set]
      refine ⟨hp.trans hp3, by omega, by omega, ?_⟩
      have : (i : Int) - 1 = ((i - 1 : Nat) : Int) := by omega
      rw [this]
    · left
      refine ⟨by simp [hq], ?_⟩
      exact hfin _ (hp.trans hp3) (by omega)
  · have hd : decide ((0 : Int) < (i : Int)) = false := by simp; omega
    simp only [hd, Bool.false_eq_true, if_false, ok_ret]
    left
    exact ⟨trivial, hfin _ hp (by omega)⟩

theorem inv61 : ∀ s, s < 61 → 0 < s → ∃ t, t < 61 ∧ t * s % 61 = 1 := by decide +kernel
theorem nodup_row (c : Int) (s m : Nat) (hs : s < 61) (h0 : 0 < s) (hm : m ≤ 61) : ((List.range m).map fun (k : Nat) => c + ((k : Int) * (s : Int)).fmod 61).Nodup := by
  rw [List.nodup_iff_pairwise_ne, List.pairwise_map]
  refine List.Pairwise.imp_of_mem ?_ (List.nodup_iff_pairwise_ne.1 List.nodup_range)
  intro i j hi hj hij e
  simp only [List.mem_range] at hi hj
  obtain ⟨t, _, ht⟩ := inv61 s hs h0
  rw [Int.fmod_eq_emod_of_nonneg _ (by omega), Int.fmod_eq_emod_of_nonneg _ (by omega)] at e
  have e' : i * s % 61 = j * s % 61 := by
    have : ((i : Int) * s) % 61 = ((j : Int) * s) % 61 := by omega
    exact_mod_cast this
  have key : ∀ a, a < 61 → a * s * t % 61 = a := by
    intro a ha
    have : a * s * t = a * (t * s) := by rw [Nat.mul_assoc, Nat.mul_comm s t]
    rw [this, Nat.mul_mod, ht, Nat.mul_one, Nat.mod_mod, Nat.mod_eq_of_lt ha]
  apply hij
  rw [← key i (by omega), ← key j (by omega), Nat.mul_mod (i * s), Nat.mul_mod (j * s), e']
end
end Mine.L01

set_option maxRecDepth 100000
set_option linter.unusedSimpArgs false
namespace Mine.L01
open Mine
theorem call2' {ns : List Int} {n : Nat} {σ : H} {k : Int} (h : 0 ≤ k) : (C ns (n + 1)).call 2 [.scr, .int k] σ = .ok (.int (cell ns k.toNat)) σ := by
  obtain ⟨n, rfl⟩ := Int.eq_ofNat_of_zero_le h
  exact call2 n
theorem veqs_refl {σ : H} {n : Nat} (xs : List Int) : veqs (veq (n + 1) σ) (xs.map V.int) (xs.map V.int) = some true := by
  induction xs with
  | nil => rfl
  | cons x xs ih =>
    have : veq (n + 1) σ (.int x) (.int x) = some true := by rw [veq]; simp
    simp only [List.map, veqs, ih, this, Bool.and_self]
theorem veq_same {σ : H} {i j : Nat} {xs : List Int} (hi : σ[i]? = some (.list (xs.map V.int))) (hj : σ[j]? = some (.list (xs.map V.int))) : veq eqD σ (.ref i) (.ref j) = some true := by
  show veq (5 + 1) σ _ _ = _
  rw [veq]; simp only [hi, hj, if_true, veqs_refl]
theorem res_nil {xs : List Int} : res xs [] [] = .int xs.length := by
  have : pl xs [] = xs.length := by
    unfold pl; rw [List.findIdx_eq_length]; simp
  simp [res, this]
theorem res_all {xs : List Int} : res xs [] xs = .int 0 := by
  have : pl xs xs = 0 := by
    unfold pl
    cases xs with
    | nil => rfl
    | cons x xs => simp [List.findIdx_cons]
  simp [res, this]

theorem pure (ns : List Int) (_h : ns.length ≤ 63) : ∃ σ, (Mine.callsOf ns Mine.L01.fs 100 5).call 5 [.scr] [] = .ok (.bool true) σ := by
  have : Ok ((C ns 5).call 5 [.scr] []) fun v _ => v = .bool true := by
    rw [call_eq 5 fn5 rfl]
    refine ok_evF rfl ?_
    simp only [fn5, List.map, List.cons_append, List.nil_append, List.replicate]
    rw [oks_assign (by simp)]
    simp only [evE, evEs, ok_bnd, ok_ret, List.getElem?_cons_zero, List.getElem?_cons_succ, List.set, call2' (show (0 : Int) ≤ 0 by decide), ok_ok, ok_mod (show (8 : Int) ≠ 0 by decide)]
    rw [oks_assign (by simp)]
    simp only [evE, evEs, ok_bnd, ok_ret, List.getElem?_cons_zero, List.getElem?_cons_succ, List.set, call2' (show (0 : Int) ≤ 5 by decide), call2' (show (0 : Int) ≤ 6 by decide), ok_ok, ok_mod (show (5 : Int) ≠ 0 by decide), ok_mod (show (4 : Int) ≠ 0 by decide)]
    rw [ok_newL (by simp [lim])]
    rw [oks_ite]
    simp only [evE, evEs, ok_bnd, ok_ret, List.getElem?_cons_zero, List.getElem?_cons_succ, List.set, call2' (show (0 : Int) ≤ 0 by decide), ok_ok, ok_mod (show (4 : Int) ≠ 0 by decide), ok_fdiv (show (0 : Int) < 8 ∧ (8 : Int) < 1073741824 by decide), ok_eqi]
    refine ⟨_, rfl, ?_⟩
    refine OkS.mono (P := fun f ρ' σ' => f = .next ∧ ∃ (size a b m : Nat), size ≤ 60 ∧ a ≤ 60 ∧ b ≤ 60 ∧ σ'[m]? = some (.list [.int a, .int b]) ∧
      ρ' = [some .scr, some (.int size), some (.ref m), .none, .none, .none, .none, .none, .none, .none, .none, .none, .none, .none]) ?_ ?_
    · split
      · rw [oks_assign (by simp)]
        simp only [evE, evEs, ok_bnd, ok_ret, List.getElem?_cons_zero, List.getElem?_cons_succ, List.set, call2' (show (0 : Int) ≤ 15 by decide), ok_ok, ok_mod (show (60 : Int) ≠ 0 by decide)]
        rw [oks_assign (by simp)]
        simp only [evE, evEs, ok_bnd, ok_ret, List.getElem?_cons_zero, List.getElem?_cons_succ, List.set, call2' (show (0 : Int) ≤ 5 by decide), call2' (show (0 : Int) ≤ 6 by decide), ok_ok, ok_mod (show (60 : Int) ≠ 0 by decide)]
        rw [ok_newL (by simp [lim])]
        rw [oks_nil]
        obtain ⟨q1, l1, e1⟩ := fmod_nat (cell ns (Int.toNat 15)) 60 (by decide)
        obtain ⟨q2, l2, e2⟩ := fmod_nat (cell ns (Int.toNat 5)) 60 (by decide)
        obtain ⟨q3, l3, e3⟩ := fmod_nat (cell ns (Int.toNat 6)) 60 (by decide)
        refine ⟨rfl, q1, q2, q3, 1, by omega, by omega, by omega, ?_, ?_⟩
        · rw [← e2, ← e3]; rfl
        · rw [← e1]; rfl
      · rw [oks_nil]
        obtain ⟨q1, l1, e1⟩ := fmod_nat (cell ns (Int.toNat 0)) 8 (by decide)
        obtain ⟨q2, l2, e2⟩ := fmod_nat (cell ns (Int.toNat 5)) 5 (by decide)
        obtain ⟨q3, l3, e3⟩ := fmod_nat (cell ns (Int.toNat 6)) 4 (by decide)
        refine ⟨rfl, q1, q2, q3, 0, by omega, by omega, by omega, ?_, ?_⟩
        · rw [← e2, ← e3]; rfl
        · rw [← e1]; rfl
    rintro _ _ σ ⟨rfl, size, a, b, m, hsz, ha, hb, hm, rfl⟩
    simp only [cont]
    rw [oks_assign (by simp)]
    simp only [evE, evEs, ok_bnd, ok_ret, List.getElem?_cons_zero, List.getElem?_cons_succ, List.set, call2' (show (0 : Int) ≤ 1 by decide), ok_ok, ok_mod (show (60 : Int) ≠ 0 by decide), ok_add]
    obtain ⟨st, hst, est⟩ := fmod_nat (cell ns (Int.toNat 1)) 60 (by decide)
    have est' : (1 : Int) + (cell ns (Int.toNat 1)).fmod 60 = ((1 + st : Nat) : Int) := by
      have : (cell ns (Int.toNat 1)).fmod 60 = st := est
      omega
    rw [est']
    rw [oks_assign (by simp)]
    simp only [evE, evEs, evSrc, ok_bnd, ok_ret, List.getElem?_cons_zero, List.getElem?_cons_succ, List.set, rangeV, hn_eq, if_true]
    rw [if_pos (by omega), ok_ret]
    generalize hc : (cell ns (Int.toNat 2)).fmod 1000 = c
    have hg := gather_range_map (σ := σ) (f := fun v => (evE ns (C ns 4) ([some .scr, some (.int size), some (.ref m), some (.int ((1 + st : Nat) : Int)), .none, .none, .none, .none, .none, .none, .none, .none, .none, .none] ++ [some v]) (Mine.E.bin
                 (Mine.Bin.add)
                 (Mine.E.bin (Mine.Bin.mod) (Mine.E.call 2 [Mine.E.var 0, Mine.E.lit (Mine.V.int 2)]) (Mine.E.lit (Mine.V.int 1000)))
                 (Mine.E.bin (Mine.Bin.mod) (Mine.E.bin (Mine.Bin.mul) (Mine.E.var 14) (Mine.E.var 3)) (Mine.E.lit (Mine.V.int 61))))).bnd fun x => .ret (some x)) (n := size)
          (fun (k : Nat) => .int (c + ((k : Int) * ((1 + st : Nat) : Int)).fmod 61)) (by unfold lim; omega) (by
            intro j hj
            have hsm : small (j : Int) = true := by simp [small]; omega
            simp only [ok_bnd, evE, evEs, ok_ret, List.cons_append, List.nil_append, List.getElem?_cons_zero, List.getElem?_cons_succ, ok_mod (show (1000 : Int) ≠ 0 by decide), ok_mod (show (61 : Int) ≠ 0 by decide), ok_add, call2' (show (0 : Int) ≤ 2 by decide), ok_ok, ok_mull hsm, hc, and_self])
    simp only [Int.toNat_natCast, ok_bnd]
    refine .use hg ?_
    simp only [evE.newO', newO, ok_ok]
    have hnd := nodup_row c (1 + st) size (by omega) (by omega) (by omega)
    have hxl : ((List.range size).map fun (k : Nat) => c + ((k : Int) * ((1 + st : Nat) : Int)).fmod 61).length = size := by simp
    have hxe : ((List.range size).map fun (k : Nat) => V.int (c + ((k : Int) * ((1 + st : Nat) : Int)).fmod 61)) = ((List.range size).map fun (k : Nat) => c + ((k : Int) * ((1 + st : Nat) : Int)).fmod 61).map V.int := by simp
    rw [hxe]
    generalize ((List.range size).map fun (k : Nat) => c + ((k : Int) * ((1 + st : Nat) : Int)).fmod 61) = xs at hnd hxl
    clear hg hxe hc
    have hm2 := get_app (τ := [O.list (xs.map V.int)]) hm
    have hrow := get_new (σ := σ) (o := O.list (xs.map V.int))
    generalize σ.length = r at hrow
    generalize (σ ++ [O.list (xs.map V.int)]) = σ2 at hrow hm2
    clear hm σ
    rw [oks_assign (by simp)]
    have hs1 : (size : Int) + 1 ≠ 0 := by omega
    simp only [evE, evEs, ok_bnd, ok_ret, List.getElem?_cons_zero, List.getElem?_cons_succ, List.set, call2' (show (0 : Int) ≤ 3 by decide), ok_ok, ok_add, ok_mod hs1]
    obtain ⟨ct, hct, ect⟩ := fmod_nat (cell ns (Int.toNat 3)) (size + 1) (by omega)
    have ect' : (cell ns (Int.toNat 3)).fmod ((size : Int) + 1) = (ct : Int) := by exact_mod_cast ect
    rw [ect']
    rw [oks_assign (by simp)]
    simp only [evE, evEs, ok_bnd, ok_ret, List.getElem?_cons_zero, List.getElem?_cons_succ, List.set, sliceV, optInt, hrow, ok_ok]
    have hcl : ∀ l h, (cut (xs.map V.int) l h).length ≤ lim := by
      intro l h; unfold cut lim; simp; omega
    have hcm : ∀ l h, cut (xs.map V.int) l h = (cut xs l h).map V.int := by
      intro l h; unfold cut; simp only [List.length_map, List.map_take, List.map_drop]
    have hcs : ∀ l h, ∀ x ∈ cut xs l h, x ∈ xs := by
      intro l h x hx; unfold cut at hx; exact List.mem_of_mem_drop (List.mem_of_mem_take hx)
    rw [ok_newL (hcl _ _), hcm]
    have hm3 := get_app (τ := [O.list ((cut xs .none (some (ct : Int))).map V.int)]) hm2
    have hrow3 := get_app (τ := [O.list ((cut xs .none (some (ct : Int))).map V.int)]) hrow
    have hlow := get_new (σ := σ2) (o := O.list ((cut xs .none (some (ct : Int))).map V.int))
    generalize σ2.length = lw at hlow
    generalize σ2 ++ [O.list ((cut xs .none (some (ct : Int))).map V.int)] = σ3 at hm3 hrow3 hlow
    clear hm2 hrow σ2
    rw [oks_assign (by simp)]
    simp only [evE, evEs, ok_bnd, ok_ret, List.getElem?_cons_zero, List.getElem?_cons_succ, List.set, sliceV, optInt, hrow3, ok_ok]
    rw [ok_newL (hcl _ _), hcm]
    have hm4 := get_app (τ := [O.list ((cut xs (some (ct : Int)) .none).map V.int)]) hm3
    have hrow4 := get_app (τ := [O.list ((cut xs (some (ct : Int)) .none).map V.int)]) hrow3
    have hlow4 := get_app (τ := [O.list ((cut xs (some (ct : Int)) .none).map V.int)]) hlow
    have hhigh := get_new (σ := σ3) (o := O.list ((cut xs (some (ct : Int)) .none).map V.int))
    generalize σ3.length = hg at hhigh
    generalize σ3 ++ [O.list ((cut xs (some (ct : Int)) .none).map V.int)] = σ4 at hm4 hrow4 hlow4 hhigh
    clear hm3 hrow3 hlow σ3
    rw [oks_ite]
    simp only [evE, evEs, ok_bnd, ok_ret, List.getElem?_cons_zero, List.getElem?_cons_succ, List.set, call2' (show (0 : Int) ≤ 4 by decide), ok_ok, ok_mod (show (3 : Int) ≠ 0 by decide), ok_eqi]
    refine ⟨_, rfl, ?_⟩
    refine OkS.mono (P := fun f ρ' σ' => f = .next ∧ σ' = σ4 ∧ ∃ (lw hg : Nat) (ls hs : List Int), σ4[lw]? = some (.list (ls.map V.int)) ∧ σ4[hg]? = some (.list (hs.map V.int)) ∧ (∀ x ∈ ls, x ∈ xs) ∧ (∀ x ∈ hs, x ∈ xs) ∧
      ρ' = [some .scr, some (.int size), some (.ref m), some (.int ((1 + st : Nat) : Int)), some (.ref r), some (.int ct), some (.ref lw), some (.ref hg), .none, .none, .none, .none, .none, .none]) ?_ ?_
    · split
      · rw [oks_assign (by simp)]
        simp only [evE, ok_ret, List.getElem?_cons_zero, List.getElem?_cons_succ, List.set]
        rw [oks_assign (by simp)]
        simp only [evE, ok_ret, List.getElem?_cons_zero, List.getElem?_cons_succ, List.set, oks_nil]
        exact ⟨trivial, trivial, r, r, xs, xs, hrow4, hrow4, fun _ h => h, fun _ h => h, rfl⟩
      · rw [oks_nil]
        exact ⟨rfl, rfl, _, _, _, _, hlow4, hhigh, hcs _ _, hcs _ _, rfl⟩
    clear hlow4 hhigh
    rintro _ _ σ ⟨rfl, rfl, lw, hg, ls, hs, hlow, hhigh, hls, hhs, rfl⟩
    simp only [cont]
    rw [oks_assign (by simp)]
    simp only [evE, evEs, ok_bnd, ok_ret, List.getElem?_cons_zero, List.getElem?_cons_succ, List.set]
    rw [ok_idx' hm4 (by decide) (v := .int a) rfl]
    obtain ⟨as, has, hasl, h3⟩ := call3 (ns := ns) (n := 2) (k := 7) hlow (m := a) (by omega)
    refine .use h3 ?_
    have hm5 := get_app (τ := [.list [], .list (as.map V.int)]) hm4
    have hrow5 := get_app (τ := [.list [], .list (as.map V.int)]) hrow4
    have hhigh5 := get_app (τ := [.list [], .list (as.map V.int)]) hhigh
    have has5 : (σ ++ [.list [], .list (as.map V.int)])[σ.length + 1]? = some (.list (as.map V.int)) := by simp
    generalize σ.length + 1 = ra at has5
    generalize σ ++ [.list [], .list (as.map V.int)] = σ5 at hm5 hrow5 hhigh5 has5
    clear hm4 hrow4 hhigh hlow h3 σ
    rw [oks_assign (by simp)]
    simp only [evE, evEs, ok_bnd, ok_ret, List.getElem?_cons_zero, List.getElem?_cons_succ, List.set]
    rw [ok_idx' hm5 (by decide) (v := .int b) rfl]
    obtain ⟨bs, hbs, hbsl, h3⟩ := call3 (ns := ns) (n := 2) (k := 11) hhigh5 (m := b) (by omega)
    refine .use h3 ?_
    have hrow6 := get_app (τ := [.list [], .list (bs.map V.int)]) hrow5
    have has6 := get_app (τ := [.list [], .list (bs.map V.int)]) has5
    have hbs6 : (σ5 ++ [.list [], .list (bs.map V.int)])[σ5.length + 1]? = some (.list (bs.map V.int)) := by simp
    generalize σ5.length + 1 = rb at hbs6
    generalize σ5 ++ [.list [], .list (bs.map V.int)] = σ6 at hrow6 has6 hbs6
    clear hm5 hrow5 hhigh5 has5 h3 σ5
    have hsub : ∀ x ∈ as, x ∈ xs := fun x h => hls x (has x h)
    rw [oks_assign (by simp)]
    have hxl' : (xs.map V.int).length ≤ lim := by simp [lim]; omega
    have hal' : (as.map V.int).length ≤ lim := by simp [lim]; omega
    have hbl' : (bs.map V.int).length ≤ lim := by simp [lim]; omega
    simp only [evE, evEs, ok_bnd, ok_ret, List.getElem?_cons_zero, List.getElem?_cons_succ, List.set, hn_eq, if_true, biV, hrow6]
    rw [ok_newL hxl']
    simp only [get_app has6]
    rw [ok_newL hal']
    simp only [get_app (get_app hbs6)]
    rw [ok_newL hbl', ok_newL (by simp [lim])]
    have hrow7 := get_app (τ := [.list (xs.map V.int)]) hrow6
    have has7 := get_app (τ := [.list (xs.map V.int)]) has6
    have hbs7 := get_app (τ := [.list (xs.map V.int)]) hbs6
    have h1 := get_new (σ := σ6) (o := .list (xs.map V.int))
    generalize σ6.length = r1 at h1
    generalize σ6 ++ [.list (xs.map V.int)] = σ7 at hrow7 has7 hbs7 h1
    have h1 := get_app (τ := [.list (as.map V.int)]) h1
    have hrow7 := get_app (τ := [.list (as.map V.int)]) hrow7
    have has7 := get_app (τ := [.list (as.map V.int)]) has7
    have hbs7 := get_app (τ := [.list (as.map V.int)]) hbs7
    have h2 := get_new (σ := σ7) (o := .list (as.map V.int))
    generalize σ7.length = r2 at h2
    generalize σ7 ++ [.list (as.map V.int)] = σ8 at hrow7 has7 hbs7 h1 h2
    have h1 := get_app (τ := [.list (bs.map V.int)]) h1
    have h2 := get_app (τ := [.list (bs.map V.int)]) h2
    have hrow7 := get_app (τ := [.list (bs.map V.int)]) hrow7
    have has7 := get_app (τ := [.list (bs.map V.int)]) has7
    have hbs7 := get_app (τ := [.list (bs.map V.int)]) hbs7
    have h3 := get_new (σ := σ8) (o := .list (bs.map V.int))
    generalize σ8.length = r3 at h3
    generalize σ8 ++ [.list (bs.map V.int)] = σ9 at hrow7 has7 hbs7 h1 h2 h3
    have h1 := get_app (τ := [.list [.ref r1, .ref r2, .ref r3]]) h1
    have h2 := get_app (τ := [.list [.ref r1, .ref r2, .ref r3]]) h2
    have h3 := get_app (τ := [.list [.ref r1, .ref r2, .ref r3]]) h3
    have hrow7 := get_app (τ := [.list [.ref r1, .ref r2, .ref r3]]) hrow7
    have has7 := get_app (τ := [.list [.ref r1, .ref r2, .ref r3]]) has7
    have hbs7 := get_app (τ := [.list [.ref r1, .ref r2, .ref r3]]) hbs7
    have h4 := get_new (σ := σ9) (o := .list [.ref r1, .ref r2, .ref r3])
    generalize σ9.length = rh at h4
    generalize σ9 ++ [.list [.ref r1, .ref r2, .ref r3]] = σ10 at hrow7 has7 hbs7 h1 h2 h3 h4
    rw [oks_assign (by simp)]
    simp only [evE, evEs, ok_bnd, ok_ret, List.getElem?_cons_zero, List.getElem?_cons_succ, List.set]
    rw [ok_idx' h4 (by decide) (v := .ref r1) rfl, ok_idx' h4 (by decide) (v := .ref r2) rfl, ok_idx' h4 (by decide) (v := .ref r3) rfl]
    refine .use (call0 h1 h2 h3 hsub (by omega)) ?_
    rw [oks_assign (by simp)]
    simp only [evE, evEs, ok_bnd, ok_ret, List.getElem?_cons_zero, List.getElem?_cons_succ, List.set]
    refine (call4 (ns := ns) (n := 3) hrow7 has7 hbs7 hsub hnd (by omega) (by simpa using hal') (by simpa using hbl')).mono ?_
    rintro _ σ11 ⟨rfl, hp⟩
    have h1 := get_pre hp h1
    have h2 := get_pre hp h2
    have h3 := get_pre hp h3
    have h4 := get_pre hp h4
    have hrow8 := get_pre hp hrow7
    have has8 := get_pre hp has7
    have hbs8 := get_pre hp hbs7
    rw [oks_ite]
    simp only [evE, evOr, evEs, ok_bnd, ok_ret, List.getElem?_cons_zero, List.getElem?_cons_succ, List.set, cmpV]
    rw [ok_idx' h4 (by decide) (v := .ref r1) rfl]
    simp only [ok_eqM (veq_same h1 hrow8), ok_ok, Bool.true_bne, Bool.not_true, Bool.false_eq_true, if_false, ok_bnd, ok_ret]
    rw [ok_idx' h4 (by decide) (v := .ref r2) rfl]
    simp only [ok_eqM (veq_same h2 has8), ok_ok, Bool.true_bne, Bool.not_true, Bool.false_eq_true, if_false, ok_bnd, ok_ret]
    rw [ok_idx' h4 (by decide) (v := .ref r3) rfl]
    simp only [ok_eqM (veq_same h3 hbs8), ok_ok, Bool.true_bne, Bool.not_true, Bool.false_eq_true, if_false, ok_bnd, ok_ret]
    refine ⟨false, rfl, ?_⟩
    simp only [Bool.false_eq_true, if_false, oks_nil, cont]
    rw [oks_ite]
    simp only [evE, evOr, evEs, ok_bnd, ok_ret, List.getElem?_cons_zero, List.getElem?_cons_succ, List.set, hn_eq, if_true, biV, hrow8]
    rw [ok_newL hxl', ok_newL (by simp), ok_newL (by simp)]
    refine .use (call0 (xs := xs) (as := []) (bs := []) (get_app (get_app get_new)) (get_app get_new) get_new (by simp) (by omega)) ?_
    rw [ok_len (get_app (get_app (get_app hrow8))), res_nil]
    simp only [List.length_map, ok_nei, ne_eq, decide_not, decide_true, Bool.not_true, Bool.false_eq_true, if_false, ok_bnd, ok_ret, get_app (get_app (get_app hrow8))]
    rw [ok_newL hxl', ok_newL (by simp)]
    simp only [get_app (get_app (get_app (get_app (get_app hrow8))))]
    rw [ok_newL hxl']
    refine .use (call0 (xs := xs) (as := []) (bs := xs) (get_app (get_app get_new)) (get_app get_new) get_new (by simp) (by omega)) ?_
    rw [res_all]
    simp only [List.length_map, ok_nei, ne_eq, decide_not, decide_true, Bool.not_true, Bool.false_eq_true, if_false, ok_bnd, ok_ret]
    refine ⟨false, rfl, ?_⟩
    simp only [Bool.false_eq_true, if_false, oks_nil, cont]
    have h1 := get_app (get_app (get_app (get_app (get_app (get_app (τ := [O.list (List.map V.int xs)]) h1) (τ := [.list []])) (τ := [.list []])) (τ := [O.list (List.map V.int xs)])) (τ := [.list []])) (τ := [O.list (List.map V.int xs)])
    have h2 := get_app (get_app (get_app (get_app (get_app (get_app (τ := [O.list (List.map V.int xs)]) h2) (τ := [.list []])) (τ := [.list []])) (τ := [O.list (List.map V.int xs)])) (τ := [.list []])) (τ := [O.list (List.map V.int xs)])
    have h3 := get_app (get_app (get_app (get_app (get_app (get_app (τ := [O.list (List.map V.int xs)]) h3) (τ := [.list []])) (τ := [.list []])) (τ := [O.list (List.map V.int xs)])) (τ := [.list []])) (τ := [O.list (List.map V.int xs)])
    have h4 := get_app (get_app (get_app (get_app (get_app (get_app (τ := [O.list (List.map V.int xs)]) h4) (τ := [.list []])) (τ := [.list []])) (τ := [O.list (List.map V.int xs)])) (τ := [.list []])) (τ := [O.list (List.map V.int xs)])
    rw [oks_assign (by simp)]
    simp only [evE, evEs, ok_bnd, ok_ret, List.getElem?_cons_zero, List.getElem?_cons_succ, List.set]
    rw [ok_idx' h4 (by decide) (v := .ref r1) rfl, ok_idx' h4 (by decide) (v := .ref r2) rfl, ok_idx' h4 (by decide) (v := .ref r3) rfl]
    refine .use (call0 h1 h2 h3 hsub (by omega)) ?_
    rw [oks_ite]
    simp only [evE, evAnd, evEs, ok_bnd, ok_ret, List.getElem?_cons_zero, List.getElem?_cons_succ, List.set, ok_isn]
    refine ⟨_, rfl, ?_⟩
    unfold res
    cases as.any fun a => decide (pl xs bs ≤ xs.idxOf a) with
    | true =>
      simp only [isNoneV, ↓reduceIte, oks_ret, evE, evAnd, ok_bnd, ok_ret, List.getElem?_cons_zero, List.getElem?_cons_succ, ok_isn, cont]
    | false =>
      simp only [isNoneV, Bool.false_eq_true, if_false, oks_nil, cont, oks_ret, evE, evAnd, evEs, ok_bnd, ok_ret, List.getElem?_cons_zero, List.getElem?_cons_succ, call1_int, ok_ok, ↓reduceIte, ok_eqi, decide_true]
  obtain ⟨_, σ, e, rfl⟩ := this
  exact ⟨σ, e⟩
end Mine.L01

open PySem PySem.W PyProof.Rows
set_option Elab.async false
set_option maxRecDepth 100000 in
set_option maxHeartbeats 8000000 in
theorem PySem.Challenge.cw_uf030017_01_holds : PySem.Challenge.rw_uf030017_01.Holds := by
  w_on; o_law; k_head; (case hw => w_witness2)
  k_fill
  intro w s₀ s₁ mg mb G Y fa o pm cd doc dV kV ho hd hcd hD hmg hg args vals as hpre hlay hrd hwl hlo
  have KX := kIn_of Y
  refine Ground.open G ?_
  intro T B D TE TW
  have TR := topRead_of T
  have hfa : fa = 50 := by
    have h1 := mg_of (n := "law") (v := .ref 50) KX TR.g (by kernel_rfl)
    have h2 : mg "law" = some (.ref fa) := hmg
    rw [h1] at h2; cases h2; rfl
  clear hcd hD hd ho hmg
  wrow_args hpre hlay hrd hwl hlo
  rename_i ns _ _ _ _ _ _ _ scr vs _ L _ _ _ hI _ hlen _
  obtain ⟨σ, hrun⟩ := Mine.L01.pure ns (by omega)
  refine wpAny_mono (Mine.run_lite (G := Mine.L01.G) (fns := [21, 28, 35, 40, 45, 50]) (fs := Mine.L01.fs) (law := 5) (n := 5) KX TR hg L hI (by omega) (by kernel_rfl) (by kernel_rfl) hfa.symm (by decide) hrun) (fun v s' h => ?_) fun _ _ h => h.elim
  obtain ⟨rfl, hk, ho, hg'⟩ := h
  exact GoodW.toG ⟨.inl ⟨_, .bool true, [], rfl, fun _ => rfl, ReadsW.bool _, by first | kernel_rfl | decide +kernel | (simp [PySem.Challenge.rw_uf030017_01]; done), fun _ => ⟨List.nodup_nil, fun _ h => nomatch h⟩⟩, hk, ho, hg'⟩
