import PyProof.Rows.All
import Wide.All
import OpenK.AllK
import Wide.FinOn
import HandS.ForMost
import HandS.Strs
import HandS.IsInst
import HandS.Conv
import HandS.Rev
import HandS.TupAny
import HandS.Deep
import HandS.More
import HandS.NoneIn
import HandS.Exc
import KE.SortData
import PySem.Challenge.RW_fedeq_k34_steps_cost_as_often_as_told
set_option Elab.async false
set_option linter.all false
set_option maxRecDepth 100000
set_option maxHeartbeats 4000000
/-! PL1: a pure reading of Python: values as trees, lists that change as cells. -/
namespace PL
open PySem

/-- a value: tuples (and lists that nobody changes) as trees; loc k: the k-th cell; scr: the script -/
inductive PV where
  | non | bl (b : Bool) | int (i : Int) | str (s : List Nat) | tup (xs : List PV) | lst (xs : List PV) | loc (k : Nat) | scr (ns : List Int)
  deriving Inhabited

/-- what changes -/
inductive Cell where
  | lst (xs : List PV)
  | dct (kvs : List (PV × PV))
  | ins (c : String) (fs : List (String × PV))
  deriving Inhabited
abbrev PHeap := List Cell
structure PExc where
  cls : String
  fs : List (String × PV)
/-- how an evaluation ends -/
inductive R (α : Type) where
  | ok (a : α) (φ : PHeap)
  | err (e : PExc) (φ : PHeap)
  | bad
abbrev Env := List (Option PV)
/-- how a statement ends -/
inductive O where
  | nx (ρ : Env) (φ : PHeap)
  | ret (v : PV) (φ : PHeap)
  | brk (ρ : Env) (φ : PHeap)
  | ct (ρ : Env) (φ : PHeap)
  | err (e : PExc) (ρ : Env) (φ : PHeap)
  | bad

def R.bind {α β : Type} (r : R α) (k : α → PHeap → R β) : R β :=
  match r with
  | .ok a φ => k a φ
  | .err e φ => .err e φ
  | .bad => .bad
@[simp] theorem R.bind_ok {α β : Type} (a : α) (φ : PHeap) (k : α → PHeap → R β) : (R.ok a φ).bind k = k a φ := rfl
@[simp] theorem R.bind_bad {α β : Type} (k : α → PHeap → R β) : (R.bad : R α).bind k = .bad := rfl
@[simp] theorem R.bind_err {α β : Type} (e : PExc) (φ : PHeap) (k : α → PHeap → R β) : (R.err e φ : R α).bind k = .err e φ := rfl

abbrev PX := Env → PHeap → R PV
abbrev PT := Env → PHeap → R Bool
abbrev PAs := Env → PHeap → R (List PV)
abbrev SX := Env → PHeap → O
abbrev PF := List PV → PHeap → R PV

/-! ### values -/
mutual
/-- no cell from n on is named -/
def below (n : Nat) : PV → Bool
  | .loc k => decide (k < n)
  | .tup xs => belows n xs
  | .lst xs => belows n xs
  | _ => true
def belows (n : Nat) : List PV → Bool
  | [] => true
  | x :: r => below n x && belows n r
end
def cbelow (n : Nat) : Cell → Bool
  | .lst xs => belows n xs
  | .dct kvs => kvs.all fun p => below n p.1 && below n p.2
  | .ins _ fs => fs.all fun p => below n p.2
mutual
/-- a == b; none: not told -/
def pyEq : PV → PV → Option Bool
  | .non, .non => some true
  | .non, .bl _ => some false
  | .non, .int _ => some false
  | .non, .str _ => some false
  | .non, .tup _ => some false
  | .non, .lst _ => some false
  | .bl _, .non => some false
  | .bl a, .bl b => some (a == b)
  | .bl a, .int j => some ((if a then 1 else 0) == j)
  | .bl _, .str _ => some false
  | .bl _, .tup _ => some false
  | .bl _, .lst _ => some false
  | .int _, .non => some false
  | .int i, .int j => some (i == j)
  | .int i, .bl b => some (i == (if b then 1 else 0))
  | .int _, .str _ => some false
  | .int _, .tup _ => some false
  | .int _, .lst _ => some false
  | .str _, .non => some false
  | .str _, .bl _ => some false
  | .str _, .int _ => some false
  | .str a, .str b => some (a == b)
  | .str _, .tup _ => some false
  | .str _, .lst _ => some false
  | .tup _, .non => some false
  | .tup _, .bl _ => some false
  | .tup _, .int _ => some false
  | .tup _, .str _ => some false
  | .tup xs, .tup ys => pyEqs xs ys
  | .tup _, .lst _ => some false
  | .lst _, .non => some false
  | .lst _, .bl _ => some false
  | .lst _, .int _ => some false
  | .lst _, .str _ => some false
  | .lst _, .tup _ => some false
  | .lst xs, .lst ys => pyEqs xs ys
  | _, _ => none
def pyEqs : List PV → List PV → Option Bool
  | [], [] => some true
  | [], _ :: _ => some false
  | _ :: _, [] => some false
  | x :: xs, y :: ys => match pyEq x y, pyEqs xs ys with
    | some a, some b => some (a && b)
    | _, _ => none
end
/-- the place of an index -/
def pyIx {α : Type} (xs : List α) (i : Int) : Option α :=
  if 0 ≤ i then xs[i.toNat]? else if -(xs.length : Int) ≤ i then xs[(i + xs.length).toNat]? else none
/-- the items that a value holds, in order; of a cell, too -/
def itemsOf (φ : PHeap) : PV → Option (List PV)
  | .tup xs => some xs
  | .lst xs => some xs
  | .scr ns => some (ns.map .int)
  | .str s => some (s.map fun c => .str [c])
  | .loc k => match φ[k]? with
    | some (.lst xs) => some xs
    | _ => none
  | _ => none
/-- .. of a list -/
def listOf (φ : PHeap) : PV → Option (List PV)
  | .lst xs => some xs
  | .loc k => match φ[k]? with
    | some (.lst xs) => some xs
    | _ => none
  | _ => none
/-- .. of a list or tuple -/
def seqOf (φ : PHeap) : PV → Option (List PV)
  | .tup xs => some xs
  | .lst xs => some xs
  | .loc k => match φ[k]? with
    | some (.lst xs) => some xs
    | _ => none
  | _ => none
/-- the cell that must not change while a value is walked -/
def guardOf : PV → Option Nat
  | .loc k => some k
  | _ => none

/-! ### expressions -/
def pVar (i : Nat) : PX := fun ρ φ => match ρ[i]? with
  | some (some v) => .ok v φ
  | _ => .bad
def pC (v : PV) : PX := fun _ φ => .ok v φ
def pBin (g : PV → PV → PHeap → R PV) (a b : PX) : PX := fun ρ φ => (a ρ φ).bind fun u φ1 => (b ρ φ1).bind fun v φ2 => g u v φ2
def pUn (g : PV → PHeap → R PV) (a : PX) : PX := fun ρ φ => (a ρ φ).bind g
def pNil : PAs := fun _ φ => .ok [] φ
def pCons (a : PX) (r : PAs) : PAs := fun ρ φ => (a ρ φ).bind fun v φ1 => (r ρ φ1).bind fun vs φ2 => .ok (v :: vs) φ2
def pTup (as : PAs) : PX := fun ρ φ => (as ρ φ).bind fun vs φ1 => .ok (.tup vs) φ1
/-- a list that nobody changes -/
def pLst (as : PAs) : PX := fun ρ φ => (as ρ φ).bind fun vs φ1 => .ok (.lst vs) φ1
/-- a list as a new cell -/
def pLstC (as : PAs) : PX := fun ρ φ => (as ρ φ).bind fun vs φ1 => .ok (.loc φ1.length) (φ1 ++ [.lst vs])
/-- the value, a list that nobody changes, made a cell (m = true) or left -/
def mkList (m : Bool) (vs : List PV) (φ : PHeap) : R PV := if m then .ok (.loc φ.length) (φ ++ [.lst vs]) else .ok (.lst vs) φ
def pIf (t : PT) (a b : PX) : PX := fun ρ φ => (t ρ φ).bind fun c φ1 => if c then a ρ φ1 else b ρ φ1
/-- a and b, a or b, of bools -/
def pAnd (a b : PX) : PX := fun ρ φ => (a ρ φ).bind fun u φ1 => match u with
  | .bl true => b ρ φ1
  | .bl false => .ok (.bl false) φ1
  | _ => .bad
def pOr (a b : PX) : PX := fun ρ φ => (a ρ φ).bind fun u φ1 => match u with
  | .bl false => b ρ φ1
  | .bl true => .ok (.bl true) φ1
  | _ => .bad
/-- a test of a value -/
def pTB (a : PX) : PT := fun ρ φ => (a ρ φ).bind fun u φ1 => match u with
  | .bl b => .ok b φ1
  | _ => .bad
def tAnd (a b : PT) : PT := fun ρ φ => (a ρ φ).bind fun c φ1 => if c then b ρ φ1 else .ok false φ1
def tOr (a b : PT) : PT := fun ρ φ => (a ρ φ).bind fun c φ1 => if c then .ok true φ1 else b ρ φ1
def tNot (a : PT) : PT := fun ρ φ => (a ρ φ).bind fun c φ1 => .ok (!c) φ1
/-- a call of a function, of a built-in -/
def pCall (F : PF) (as : PAs) : PX := fun ρ φ => (as ρ φ).bind F
/-- e[lo:hi] -/
abbrev PO := Env → PHeap → R (Option Int)
def poN : PO := fun _ φ => .ok none φ
def poS (a : PX) : PO := fun ρ φ => (a ρ φ).bind fun u φ1 => match u with
  | .int i => .ok (some i) φ1
  | _ => .bad
def pSl (g : PV → Option Int → Option Int → PHeap → R PV) (a : PX) (lo hi : PO) : PX := fun ρ φ => (a ρ φ).bind fun u φ1 => (lo ρ φ1).bind fun l φ2 => (hi ρ φ2).bind fun h φ3 => g u l h φ3
/-- o.m(as) of a built-in type -/
def pMeth (g : PV → List PV → PHeap → R PV) (o : PX) (as : PAs) : PX := fun ρ φ => (o ρ φ).bind fun u φ1 => (as ρ φ1).bind fun vs φ2 => g u vs φ2

/-! ### what is walked: the items, the cell that must stand still -/
abbrev PI := Env → PHeap → R (List PV × Option Nat)
def iSeq (a : PX) : PI := fun ρ φ => (a ρ φ).bind fun u φ1 => match itemsOf φ1 u with
  | some xs => .ok (xs, guardOf u) φ1
  | none => .bad
def intsFrom (lo : Int) (n : Nat) : List PV := (List.range n).map fun (i : Nat) => PV.int (lo + i)
/-- range's numbers are small -/
def smallI (i : Int) : Prop := -(2 ^ 62) ≤ i ∧ i < 2 ^ 62
@[irreducible] def decSmall (i : Int) : Decidable (smallI i) := by unfold smallI; infer_instance
instance (i : Int) : Decidable (smallI i) := decSmall i
def iRange1 (a : PX) : PI := fun ρ φ => (a ρ φ).bind fun u φ1 => match u with
  | .int j => if smallI j then .ok (intsFrom 0 j.toNat, none) φ1 else .bad
  | _ => .bad
def iRange2 (a b : PX) : PI := fun ρ φ => (a ρ φ).bind fun u φ1 => (b ρ φ1).bind fun v φ2 => match u, v with
  | .int i, .int j => if smallI i ∧ smallI j then .ok (intsFrom i (j - i).toNat, none) φ2 else .bad
  | _, _ => .bad
open Classical in
/-- the walked cell stands as it stood -/
noncomputable def still (g : Option Nat) (xs : List PV) (φ : PHeap) : Bool := match g with
  | none => true
  | some k => if φ[k]? = some (.lst xs) then true else false

@[simp] theorem still_none (xs : List PV) (φ : PHeap) : still none xs φ = true := rfl
/-! ### targets -/
abbrev PG := PV → Env → PHeap → O
def gVar (i : Nat) : PG := fun v ρ φ => .nx (ρ.set i (some v)) φ
def gNils : List PV → Env → PHeap → O := fun vs ρ φ => match vs with
  | [] => .nx ρ φ
  | _ => .bad
def gCons (g : PG) (r : List PV → Env → PHeap → O) : List PV → Env → PHeap → O := fun vs ρ φ => match vs with
  | v :: us => match g v ρ φ with
    | .nx ρ1 φ1 => r us ρ1 φ1
    | _ => .bad
  | [] => .bad
/-- (a, b) = a tuple; a list where it is one -/
def gTup (g : List PV → Env → PHeap → O) : PG := fun v ρ φ => match v with
  | .tup xs => g xs ρ φ
  | _ => .bad

/-! ### comprehensions -/
noncomputable def lcGo (g : Option Nat) (all : List PV) (tg : PG) (t : PT) (e : PX) : List PV → List PV → Env → PHeap → R (List PV)
  | [], acc, _, φ => .ok acc φ
  | x :: r, acc, ρ, φ => match tg x ρ φ with
    | .nx ρ1 φ1 => (t ρ1 φ1).bind fun c φ2 =>
      if c then (e ρ1 φ2).bind fun v φ3 => if still g all φ3 && decide (acc.length < sizeLine) then lcGo g all tg t e r (acc ++ [v]) ρ φ3 else .bad
      else if still g all φ2 then lcGo g all tg t e r acc ρ φ2 else .bad
    | _ => .bad
/-- the end of a comprehension: m: as a cell -/
def lcEnd (m : Bool) (r : R (List PV)) : R PV := match r with
  | .ok vs φ => mkList m vs φ
  | _ => .bad
/-- [e for tg in it if t] -/
noncomputable def pLc (m : Bool) (it : PI) (tg : PG) (t : PT) (e : PX) : PX := fun ρ φ => (it ρ φ).bind fun p φ1 =>
  if still p.2 p.1 φ1 then lcEnd m (lcGo p.2 p.1 tg t e p.1 [] ρ φ1) else .bad
def tYes : PT := fun _ φ => .ok true φ

/-! ### statements -/
def ofR (r : R PV) (ρ : Env) (k : PV → PHeap → O) : O := match r with
  | .ok v φ => k v φ
  | .err e φ => .err e ρ φ
  | .bad => .bad
def ofB (r : R Bool) (ρ : Env) (k : Bool → PHeap → O) : O := match r with
  | .ok v φ => k v φ
  | .err e φ => .err e ρ φ
  | .bad => .bad
def sNil : SX := fun ρ φ => .nx ρ φ
def sSeq (a b : SX) : SX := fun ρ φ => match a ρ φ with
  | .nx ρ1 φ1 => b ρ1 φ1
  | o => o
def sSet (i : Nat) (a : PX) : SX := fun ρ φ => ofR (a ρ φ) ρ fun v φ1 => .nx (ρ.set i (some v)) φ1
def sAsg (g : PG) (a : PX) : SX := fun ρ φ => ofR (a ρ φ) ρ fun v φ1 => g v ρ φ1
def sDrop (a : PX) : SX := fun ρ φ => ofR (a ρ φ) ρ fun _ φ1 => .nx ρ φ1
def sRet (a : PX) : SX := fun ρ φ => ofR (a ρ φ) ρ fun v φ1 => .ret v φ1
def sRetN : SX := fun _ φ => .ret .non φ
def sIf (t : PT) (a b : SX) : SX := fun ρ φ => ofB (t ρ φ) ρ fun c φ1 => if c then a ρ φ1 else b ρ φ1
def sBrk : SX := fun ρ φ => .brk ρ φ
def sCt : SX := fun ρ φ => .ct ρ φ
noncomputable def forGo (g : Option Nat) (all : List PV) (tg : PG) (b : SX) : List PV → Env → PHeap → O
  | [], ρ, φ => .nx ρ φ
  | x :: r, ρ, φ => match tg x ρ φ with
    | .nx ρ1 φ1 => match b ρ1 φ1 with
      | .nx ρ2 φ2 => if still g all φ2 then forGo g all tg b r ρ2 φ2 else .bad
      | .ct ρ2 φ2 => if still g all φ2 then forGo g all tg b r ρ2 φ2 else .bad
      | .brk ρ2 φ2 => .nx ρ2 φ2
      | o => o
    | _ => .bad
noncomputable def sFor (it : PI) (tg : PG) (b : SX) : SX := fun ρ φ => match it ρ φ with
  | .ok p φ1 => if still p.2 p.1 φ1 then forGo p.2 p.1 tg b p.1 ρ φ1 else .bad
  | .err e φ1 => .err e ρ φ1
  | .bad => .bad
/-- while, at most n turns -/
def whGo (t : PT) (b : SX) : Nat → Env → PHeap → O
  | 0, _, _ => .bad
  | n + 1, ρ, φ => ofB (t ρ φ) ρ fun c φ1 =>
    if c then (match b ρ φ1 with
      | .nx ρ2 φ2 => whGo t b n ρ2 φ2
      | .ct ρ2 φ2 => whGo t b n ρ2 φ2
      | .brk ρ2 φ2 => .nx ρ2 φ2
      | o => o)
    else .nx ρ φ1
/-- x op= e at a name -/
def sAug (g : PV → PV → PHeap → R PV) (i : Nat) (a : PX) : SX := fun ρ φ => match ρ[i]? with
  | some (some u) => ofR (a ρ φ) ρ fun v φ1 => ofR (g u v φ1) ρ fun z φ2 => .nx (ρ.set i (some z)) φ2
  | _ => .bad
/-- o[i] = e: e, o, i in this order -/
def sSub (g : PV → PV → PV → PHeap → Option PHeap) (o i e : PX) : SX := fun ρ φ => ofR (e ρ φ) ρ fun v φ1 => ofR (o ρ φ1) ρ fun u φ2 => ofR (i ρ φ2) ρ fun j φ3 => match g u j v φ3 with
  | some φ4 => .nx ρ φ4
  | none => .bad

/-! ### functions -/
/-- the old cells stand as they stood, or hold nothing new -/
def Keeps (φ φ1 : PHeap) : Prop := φ.length ≤ φ1.length ∧ ∀ (k : Nat) (c : Cell), φ[k]? = some c → φ1[k]? = some c ∨ ∃ c' : Cell, φ1[k]? = some c' ∧ cbelow φ.length c' = true
open Classical in
/-- a function's end: what it made is forgotten; a made list is handed on as one that nobody changes, or (keep) as a cell -/
noncomputable def fin (keep : Bool) (φ : PHeap) (v : PV) (φ1 : PHeap) : R PV :=
  if Keeps φ φ1 then
    match below φ.length v with
    | true => .ok v (φ1.take φ.length)
    | false => match v with
      | .loc k => match φ1[k]? with
        | some (.lst xs) => if belows φ.length xs then (if keep then .ok (.loc φ.length) (φ1.take φ.length ++ [.lst xs]) else .ok (.lst xs) (φ1.take φ.length)) else .bad
        | _ => .bad
      | _ => .bad
  else .bad
def start (nslots : Nat) (vs : List PV) : Env := vs.map some ++ List.replicate (nslots - vs.length) none
inductive Mode where
  | cut | keep | all
noncomputable def finM (m : Mode) (φ : PHeap) (v : PV) (φ1 : PHeap) : R PV := match m with
  | .cut => fin false φ v φ1
  | .keep => fin true φ v φ1
  | .all => .ok v φ1
noncomputable def pFun (np nslots : Nat) (m : Mode) (b : SX) : PF := fun vs φ =>
  if vs.length = np then
    match b (start nslots vs) φ with
    | .ret v φ1 => finM m φ v φ1
    | .nx _ φ1 => finM m φ .non φ1
    | .err e _ φ1 => .err e φ1
    | _ => .bad
  else .bad
end PL

/-! PL2: what stands for what: pure values and values, cells and the abstract heap; the judgements. -/
namespace PL
open PySem PySem.Spec PyProof.Rows L2

/-- where the cells stand; own: what no value as a tree may stand at -/
structure Mp where
  loc : Nat → Option Addr
  own : Addr → Prop

mutual
inductive RV (K : PySem.W.Frag) (M : Mp) (H : Hp) : PV → V → Prop
  | non : RV K M H .non .non
  | bl (b : Bool) : RV K M H (.bl b) (.bl b)
  | int (i : Int) : RV K M H (.int i) (.int i)
  | str {x : Str} {s : List Nat} : x.cps.toList = s → (∀ c ∈ s, c < 0x110000) → RV K M H (.str s) (.str x)
  | tup {a : Addr} {xs : List PV} {vs : List V} : SqT K H a vs → RVs K M H xs vs → RV K M H (.tup xs) (.ref a)
  | lst {a : Addr} {xs : List PV} {vs : List V} : H a = some (.lst vs) → ¬ M.own a → RVs K M H xs vs → RV K M H (.lst xs) (.ref a)
  | scr {a : Addr} {ns : List Int} : Rd H a (.lst (ns.map V.int)) → ¬ M.own a → RV K M H (.scr ns) (.ref a)
  | scrK {a : Addr} {ns : List Int} : (∀ H', SqL K H' a (ns.map V.int)) → RV K M H (.scr ns) (.ref a)
  | loc {k : Nat} {a : Addr} : M.loc k = some a → RV K M H (.loc k) (.ref a)
inductive RVs (K : PySem.W.Frag) (M : Mp) (H : Hp) : List PV → List V → Prop
  | nil : RVs K M H [] []
  | cons {x : PV} {v : V} {xs : List PV} {vs : List V} : RV K M H x v → RVs K M H xs vs → RVs K M H (x :: xs) (v :: vs)
end
def RC (K : PySem.W.Frag) (M : Mp) (H : Hp) (a : Addr) : Cell → Prop
  | .lst xs => ∃ vs, H a = some (.lst vs) ∧ RVs K M H xs vs
  | .dct _ => False
  | .ins _ _ => False
/-- what may change -/
def Chg : HO → Prop
  | .tup _ => False
  | .frz _ _ => False
  | _ => True
structure RH (K : PySem.W.Frag) (M : Mp) (H : Hp) (φ : PHeap) : Prop where
  cell : ∀ (k : Nat) (c : Cell), φ[k]? = some c → ∃ a, M.loc k = some a ∧ RC K M H a c
  dom : ∀ k, φ.length ≤ k → M.loc k = none
  inj : ∀ j k a, M.loc j = some a → M.loc k = some a → j = k
  own : ∀ k a, M.loc k = some a → M.own a
  ownd : ∀ a, M.own a → H a ≠ none
  ownl : ∀ a, M.own a → ∃ o, H a = some o ∧ Chg o
structure RE (K : PySem.W.Frag) (M : Mp) (H : Hp) (ρ : Env) (σ : L2.St) : Prop where
  len : ρ.length = σ.length
  at_ : ∀ (i : Nat) (u : PV), ρ[i]? = some (some u) → ∃ v, σ[i]? = some (some v) ∧ RV K M H u v
structure Ext (K : PySem.W.Frag) (M : Mp) (H : Hp) (M' : Mp) (H' : Hp) : Prop where
  val : ∀ u v, RV K M H u v → RV K M' H' u v
  res : ∀ a, M.own a → (∀ k, M.loc k ≠ some a) → M'.own a ∧ (∀ k, M'.loc k ≠ some a) ∧ H' a = H a

section
variable {K : PySem.W.Frag} {M M' M1 M2 : Mp} {H H' H1 H2 : Hp} {φ φ' : PHeap} {ρ : Env} {σ : L2.St}
theorem RVs.map {F : PV → V → Prop} (h : ∀ u v, RV K M H u v → RV K M' H' u v) : ∀ {xs : List PV} {vs : List V}, RVs K M H xs vs → RVs K M' H' xs vs
  | [], [], .nil => .nil
  | _ :: _, _ :: _, .cons a b => .cons (h _ _ a) (RVs.map (F := F) h b)
theorem Ext.refl : Ext K M H M H := ⟨fun _ _ h => h, fun a h1 h2 => ⟨h1, h2, rfl⟩⟩
theorem Ext.trans (e : Ext K M H M1 H1) (e2 : Ext K M1 H1 M2 H2) : Ext K M H M2 H2 :=
  ⟨fun u v h => e2.val u v (e.val u v h), fun a h1 h2 => by
    obtain ⟨i1, i2, i3⟩ := e.res a h1 h2
    obtain ⟨j1, j2, j3⟩ := e2.res a i1 i2
    exact ⟨j1, j2, j3.trans i3⟩⟩
theorem Ext.vals (e : Ext K M H M' H') {xs : List PV} {vs : List V} (h : RVs K M H xs vs) : RVs K M' H' xs vs := RVs.map (F := fun _ _ => True) e.val h
theorem Ext.loc (e : Ext K M H M' H') {k : Nat} {a : Addr} (h : M.loc k = some a) : M'.loc k = some a := by
  have := e.val (.loc k) (.ref a) (.loc h)
  cases this; assumption
theorem RE.ext (r : RE K M H ρ σ) (e : Ext K M H M' H') : RE K M' H' ρ σ := ⟨r.len, fun i u h => let ⟨v, h1, h2⟩ := r.at_ i u h; ⟨v, h1, e.val _ _ h2⟩⟩
theorem RVs.length : ∀ {xs : List PV} {vs : List V}, RVs K M H xs vs → xs.length = vs.length
  | [], [], .nil => rfl
  | _ :: _, _ :: _, .cons _ b => congrArg (· + 1) (RVs.length b)
theorem RVs.get : ∀ {xs : List PV} {vs : List V} {i : Nat} {x : PV}, RVs K M H xs vs → xs[i]? = some x → ∃ v, vs[i]? = some v ∧ RV K M H x v
  | [], [], _, _, .nil, h => by simp at h
  | _ :: _, _ :: _, 0, _, .cons a b, h => by
    simp at h; subst h; exact ⟨_, rfl, a⟩
  | _ :: _, _ :: _, i + 1, x, .cons a b, h => by
    obtain ⟨v, h1, h2⟩ := RVs.get (i := i) (x := x) b (by simpa using h)
    exact ⟨v, by simpa using h1, h2⟩
theorem RVs.get' {xs : List PV} {vs : List V} {i : Nat} {x : PV} {v : V} (r : RVs K M H xs vs) (h : xs[i]? = some x) (h' : vs[i]? = some v) : RV K M H x v := by
  obtain ⟨v', h1, h2⟩ := r.get h
  rw [h'] at h1; cases h1; exact h2
theorem RVs.append : ∀ {xs ys : List PV} {vs ws : List V}, RVs K M H xs vs → RVs K M H ys ws → RVs K M H (xs ++ ys) (vs ++ ws)
  | [], _, [], _, .nil, h => h
  | _ :: _, _, _ :: _, _, .cons a b, h => .cons a (RVs.append b h)
theorem RVs.take : ∀ {xs : List PV} {vs : List V} (n : Nat), RVs K M H xs vs → RVs K M H (xs.take n) (vs.take n)
  | _, _, 0, _ => .nil
  | [], [], _ + 1, .nil => .nil
  | _ :: _, _ :: _, n + 1, .cons a b => .cons a (RVs.take n b)
theorem RVs.drop : ∀ {xs : List PV} {vs : List V} (n : Nat), RVs K M H xs vs → RVs K M H (xs.drop n) (vs.drop n)
  | _, _, 0, h => h
  | [], [], _ + 1, .nil => .nil
  | _ :: _, _ :: _, n + 1, .cons a b => RVs.drop n b
theorem RVs.reverse {xs : List PV} {vs : List V} (h : RVs K M H xs vs) : RVs K M H xs.reverse vs.reverse := by
  induction xs generalizing vs with
  | nil => cases h; exact .nil
  | cons x r ih =>
    cases h with
    | cons a b =>
      rw [List.reverse_cons, List.reverse_cons]
      exact (ih b).append (.cons a .nil)
theorem RVs.set : ∀ {xs : List PV} {vs : List V} (i : Nat) {x : PV} {v : V}, RVs K M H xs vs → RV K M H x v → RVs K M H (xs.set i x) (vs.set i v)
  | [], [], _, _, _, .nil, _ => .nil
  | _ :: _, _ :: _, 0, _, _, .cons _ b, h => .cons h b
  | _ :: _, _ :: _, i + 1, _, _, .cons a b, h => .cons a (RVs.set i b h)
theorem RVs.eraseIdx : ∀ {xs : List PV} {vs : List V} (i : Nat), RVs K M H xs vs → RVs K M H (xs.eraseIdx i) (vs.eraseIdx i)
  | [], [], _, .nil => .nil
  | _ :: _, _ :: _, 0, .cons _ b => b
  | _ :: _, _ :: _, i + 1, .cons a b => .cons a (RVs.eraseIdx i b)
theorem RVs.ints : ∀ (ns : List Int), RVs K M H (ns.map PV.int) (ns.map V.int)
  | [] => .nil
  | n :: r => .cons (.int n) (RVs.ints r)

/-- what an extension of the heap keeps -/
theorem ext_of (rh : RH K M H φ) (h1 : ∀ k a, M.loc k = some a → M'.loc k = some a) (h2 : ∀ a, M'.own a → M.own a ∨ H a = none ∨ ∃ k, M'.loc k = some a ∧ H a = none)
    (h3 : ∀ a o, H a = some o → ¬ M.own a → H' a = some o) (h4 : ∀ a, M.own a → (∀ k, M.loc k ≠ some a) → M'.own a ∧ (∀ k, M'.loc k ≠ some a) ∧ H' a = H a) : Ext K M H M' H' := by
  have tupok : ∀ a vs, SqT K H a vs → SqT K H' a vs := fun a vs h => by
    rcases h with (h | ⟨o, h⟩) | h
    · refine .inl (.inl (h3 a _ h fun ho => ?_))
      obtain ⟨ws, e, ch⟩ := rh.ownl a ho
      rw [e] at h; cases h; exact ch
    · refine .inl (.inr ⟨o, h3 a _ h fun ho => ?_⟩)
      obtain ⟨ws, e, ch⟩ := rh.ownl a ho
      rw [e] at h; cases h; exact ch
    · exact .inr h
  have own' : ∀ a o, H a = some o → ¬ M.own a → ¬ M'.own a := fun a o h n z => by
    rcases h2 a z with q | q | ⟨_, _, q⟩
    · exact n q
    · rw [q] at h; cases h
    · rw [q] at h; cases h
  refine ⟨fun u v h => ?_, h4⟩
  refine RV.rec (K := K) (M := M) (H := H) (motive_1 := fun u v _ => RV K M' H' u v) (motive_2 := fun us vs _ => RVs K M' H' us vs) .non .bl .int (fun h1 h2 => .str h1 h2)
    (fun hs _ ih => .tup (tupok _ _ hs) ih) (fun ha hn _ ih => .lst (h3 _ _ ha hn) (own' _ _ ha hn) ih) (fun {a ns} hs hn => ?_) .scrK (fun hk => .loc (h1 _ _ hk)) .nil (fun _ _ a b => .cons a b) h
  rcases hs with h | ⟨o, h⟩
  · exact .scr (.inl (h3 _ _ h hn)) (own' _ _ h hn)
  · exact .scr (.inr ⟨o, h3 _ _ h hn⟩) (own' _ _ h hn)
theorem scr_sql {ns : List Int} {v : V} (h : RV K M H (.scr ns) v) : ∃ a, v = .ref a ∧ SqL K H a (ns.map V.int) := by
  cases h with
  | scr h _ => exact ⟨_, rfl, .inl h⟩
  | scrK h => exact ⟨_, rfl, h _⟩

/-- a new object that is not a cell -/
theorem ext_new {p : Addr} {o : HO} (rh : RH K M H φ) (hp : H p = none) : Ext K M H M (upd H p o) := by
  refine ext_of rh (fun _ _ h => h) (fun a h => .inl h) (fun a o h _ => by rw [upd_ne (ne_of_none h hp)]; exact h) (fun a h1 h2 => ⟨h1, h2, ?_⟩)
  obtain ⟨vs, e, _⟩ := rh.ownl a h1
  rw [upd_ne (ne_of_none e hp)]
theorem RC.ext {a : Addr} {c : Cell} (e : Ext K M H M' H') (ha : H' a = H a) (h : RC K M H a c) : RC K M' H' a c := by
  cases c with
  | lst xs => obtain ⟨vs, h1, h2⟩ := h; exact ⟨vs, by rw [ha]; exact h1, e.vals h2⟩
  | dct _ => exact h
  | ins _ _ => exact h
theorem rh_new {p : Addr} {o : HO} (rh : RH K M H φ) (hp : H p = none) : RH K M (upd H p o) φ := by
  have ho : ∀ a, M.own a → upd H p o a = H a := fun a h => by
    obtain ⟨vs, e, _⟩ := rh.ownl a h
    rw [upd_ne (ne_of_none e hp)]
  refine ⟨fun k c h => ?_, rh.dom, rh.inj, rh.own, fun a h => by rw [ho a h]; exact rh.ownd a h, fun a h => by rw [ho a h]; exact rh.ownl a h⟩
  obtain ⟨a, h1, h2⟩ := rh.cell k c h
  exact ⟨a, h1, h2.ext (ext_new rh hp) (ho a (rh.own _ _ h1))⟩
theorem not_own {p : Addr} (rh : RH K M H φ) (hp : H p = none) : ¬ M.own p := fun h => rh.ownd p h hp
/-- a new cell -/
def Mp.add (M : Mp) (k : Nat) (p : Addr) : Mp := ⟨fun j => if j = k then some p else M.loc j, fun a => a = p ∨ M.own a⟩
theorem ext_cell {p : Addr} {o : HO} (rh : RH K M H φ) (hp : H p = none) : Ext K M H (M.add φ.length p) (upd H p o) := by
  refine ext_of rh (fun k a h => ?_) (fun a h => ?_) (fun a o h _ => by rw [upd_ne (ne_of_none h hp)]; exact h) (fun a h1 h2 => ?_)
  · show (if k = φ.length then some p else M.loc k) = some a
    rw [if_neg]; exact h
    intro z
    rw [rh.dom k (Nat.le_of_eq z.symm)] at h; cases h
  · rcases h with h | h
    · exact .inr (.inl (by rw [h]; exact hp))
    · exact .inl h
  · obtain ⟨vs, e, _⟩ := rh.ownl a h1
    refine ⟨.inr h1, fun k z => ?_, by rw [upd_ne (ne_of_none e hp)]⟩
    have z : (if k = φ.length then some p else M.loc k) = some a := z
    by_cases q : k = φ.length
    · rw [if_pos q] at z
      have z : p = a := Option.some.inj z
      rw [← z, hp] at e; cases e
    · rw [if_neg q] at z; exact h2 k z
theorem rh_cellG {p : Addr} {c0 : Cell} {o : HO} (rh : RH K M H φ) (hp : H p = none) (ch : Chg o) (r : RC K (M.add φ.length p) (upd H p o) p c0) : RH K (M.add φ.length p) (upd H p o) (φ ++ [c0]) := by
  have e := ext_cell (o := o) rh hp
  have ho : ∀ a, M.own a → upd H p o a = H a := fun a h => by
    obtain ⟨ws, e, _⟩ := rh.ownl a h
    rw [upd_ne (ne_of_none e hp)]
  have lk : ∀ k a, (M.add φ.length p).loc k = some a → (k = φ.length ∧ a = p) ∨ (k ≠ φ.length ∧ M.loc k = some a) := fun k a z => by
    have z : (if k = φ.length then some p else M.loc k) = some a := z
    by_cases q : k = φ.length
    · rw [if_pos q] at z; exact .inl ⟨q, (Option.some.inj z).symm⟩
    · rw [if_neg q] at z; exact .inr ⟨q, z⟩
  refine ⟨fun k c h => ?_, fun k h => ?_, fun j k a h1 h2 => ?_, fun k a h => ?_, fun a h => ?_, fun a h => ?_⟩
  · by_cases q : k < φ.length
    · rw [List.getElem?_append_left q] at h
      obtain ⟨a, h1, h2⟩ := rh.cell k c h
      exact ⟨a, e.loc h1, h2.ext e (ho a (rh.own _ _ h1))⟩
    · rw [List.getElem?_append_right (by omega)] at h
      have q2 : k - φ.length = 0 := by
        rcases Nat.eq_zero_or_pos (k - φ.length) with z | z
        · exact z
        · rw [List.getElem?_eq_none (by simp; omega)] at h; cases h
      rw [q2] at h
      cases h
      have q3 : k = φ.length := by omega
      refine ⟨p, by show (if k = φ.length then some p else M.loc k) = some p; rw [if_pos q3], r⟩
  · rw [List.length_append, List.length_singleton] at h
    show (if k = φ.length then some p else M.loc k) = none
    rw [if_neg (by omega)]; exact rh.dom k (by omega)
  · rcases lk _ _ h1 with ⟨a1, a2⟩ | ⟨a1, a2⟩ <;> rcases lk _ _ h2 with ⟨b1, b2⟩ | ⟨b1, b2⟩
    · rw [a1, b1]
    · rw [a2] at b2; exact absurd (rh.own _ _ b2) (not_own rh hp)
    · rw [b2] at a2; exact absurd (rh.own _ _ a2) (not_own rh hp)
    · exact rh.inj _ _ _ a2 b2
  · rcases lk _ _ h with ⟨_, a2⟩ | ⟨_, a2⟩
    · exact .inl a2
    · exact .inr (rh.own _ _ a2)
  · rcases h with h | h
    · rw [h, upd_same]; intro z; cases z
    · rw [ho a h]; exact rh.ownd a h
  · rcases h with h | h
    · rw [h, upd_same]; exact ⟨_, rfl, ch⟩
    · rw [ho a h]; exact rh.ownl a h
theorem rh_cell {p : Addr} {xs : List PV} {vs : List V} (rh : RH K M H φ) (hp : H p = none) (r : RVs K M H xs vs) : RH K (M.add φ.length p) (upd H p (.lst vs)) (φ ++ [.lst xs]) :=
  rh_cellG rh hp True.intro ⟨vs, upd_same, (ext_cell (o := .lst vs) rh hp).vals r⟩
/-- a cell is changed -/
theorem ext_set {k : Nat} {a : Addr} {o : HO} (rh : RH K M H φ) (hk : M.loc k = some a) : Ext K M H M (upd H a o) := by
  refine ext_of rh (fun _ _ h => h) (fun a h => .inl h) (fun b o h n => ?_) (fun b h1 h2 => ⟨h1, h2, ?_⟩)
  · rw [upd_ne]; exact h
    intro z; exact n (z ▸ rh.own _ _ hk)
  · rw [upd_ne]; intro z; exact h2 k (z ▸ hk)
theorem rh_setG {k : Nat} {a : Addr} {c0 : Cell} {o : HO} (rh : RH K M H φ) (hk : M.loc k = some a) (hlt : k < φ.length) (ch : Chg o) (r : RC K M (upd H a o) a c0) : RH K M (upd H a o) (φ.set k c0) := by
  have e := ext_set (o := o) rh hk
  refine ⟨fun j c h => ?_, fun j h => rh.dom j (by simpa using h), rh.inj, rh.own, fun b h => ?_, fun b h => ?_⟩
  · by_cases q : j = k
    · subst q
      rw [List.getElem?_set_self hlt] at h
      cases h
      exact ⟨a, hk, r⟩
    · rw [List.getElem?_set_ne (Ne.symm q)] at h
      obtain ⟨b, h1, h2⟩ := rh.cell j c h
      refine ⟨b, h1, h2.ext e (upd_ne fun z => q (rh.inj _ _ _ h1 (z ▸ hk)))⟩
  · by_cases q : b = a
    · rw [q, upd_same]; intro z; cases z
    · rw [upd_ne q]; exact rh.ownd b h
  · by_cases q : b = a
    · rw [q, upd_same]; exact ⟨_, rfl, ch⟩
    · rw [upd_ne q]; exact rh.ownl b h
theorem rh_set {k : Nat} {a : Addr} {xs : List PV} {vs : List V} (rh : RH K M H φ) (hk : M.loc k = some a) (hlt : k < φ.length) (r : RVs K M H xs vs) : RH K M (upd H a (.lst vs)) (φ.set k (.lst xs)) :=
  rh_setG rh hk hlt True.intro ⟨vs, upd_same, (ext_set (o := .lst vs) rh hk).vals r⟩
theorem rh_at {k : Nat} {a : Addr} {xs : List PV} (rh : RH K M H φ) (hk : M.loc k = some a) (h : φ[k]? = some (.lst xs)) : ∃ vs, H a = some (.lst vs) ∧ RVs K M H xs vs := by
  obtain ⟨b, h1, vs, h2, h3⟩ := rh.cell k _ h
  rw [hk] at h1; cases h1
  exact ⟨vs, h2, h3⟩
theorem lt_of_get {α : Type} {l : List α} {k : Nat} {x : α} (h : l[k]? = some x) : k < l.length := (List.getElem?_eq_some_iff.mp h).1

/-- what a value's cells are below -/
theorem rv_below (rh : RH K M H φ) {u : PV} {v : V} (h : RV K M H u v) : below φ.length u = true := by
  refine RV.rec (K := K) (M := M) (H := H) (motive_1 := fun u v _ => below φ.length u = true) (motive_2 := fun us vs _ => belows φ.length us = true) (by unfold below; rfl) (fun _ => by unfold below; rfl) (fun _ => by unfold below; rfl) (fun _ _ => by unfold below; rfl)
    (fun _ _ ih => by unfold below; exact ih) (fun _ _ _ ih => by unfold below; exact ih) (fun _ _ => by unfold below; rfl) (fun _ => by unfold below; rfl) (fun {k a} hk => ?_) (by unfold belows; rfl) (fun _ _ a b => by unfold belows; rw [a, b]; rfl) h
  unfold below
  refine decide_eq_true (Nat.lt_of_not_le fun z => ?_)
  rw [rh.dom k z] at hk; cases hk
theorem rvs_below (rh : RH K M H φ) : ∀ {us : List PV} {vs : List V}, RVs K M H us vs → belows φ.length us = true
  | [], [], .nil => by unfold belows; rfl
  | _ :: _, _ :: _, .cons a b => by unfold belows; rw [rv_below rh a, rvs_below rh b]; rfl
/-- forgetting cells -/
theorem rv_down {n : Nat} (hl : ∀ k a, k < n → M'.loc k = some a → M.loc k = some a) (ho : ∀ a, M.own a → M'.own a) {u : PV} {v : V} (h : RV K M' H u v) : below n u = true → RV K M H u v := by
  refine RV.rec (K := K) (M := M') (H := H) (motive_1 := fun u v _ => below n u = true → RV K M H u v) (motive_2 := fun us vs _ => belows n us = true → RVs K M H us vs) (fun _ => .non) (fun b _ => .bl b) (fun i _ => .int i) (fun h1 h2 _ => .str h1 h2)
    (fun hs _ ih q => .tup hs (ih (by unfold below at q; exact q))) (fun ha hn _ ih q => .lst ha (fun z => hn (ho _ z)) (ih (by unfold below at q; exact q))) (fun hs hn _ => .scr hs fun z => hn (ho _ z)) (fun h _ => .scrK h) (fun {k a} hk q => ?_) (fun _ => .nil) (fun _ _ a b q => ?_) h
  · unfold below at q
    exact .loc (hl _ _ (of_decide_eq_true q) hk)
  · unfold belows at q
    rw [Bool.and_eq_true] at q
    exact .cons (a q.1) (b q.2)
theorem rvs_down {n : Nat} (hl : ∀ k a, k < n → M'.loc k = some a → M.loc k = some a) (ho : ∀ a, M.own a → M'.own a) : ∀ {us : List PV} {vs : List V}, RVs K M' H us vs → belows n us = true → RVs K M H us vs
  | [], [], .nil, _ => .nil
  | _ :: _, _ :: _, .cons a b, q => by
    unfold belows at q
    rw [Bool.and_eq_true] at q
    exact .cons (rv_down hl ho a q.1) (rvs_down hl ho b q.2)
theorem ext_own (rh : RH K M H φ) (rh' : RH K M' H' φ') (e : Ext K M H M' H') : ∀ a, M.own a → M'.own a := fun a h => by
  rcases Classical.em (∃ k, M.loc k = some a) with ⟨k, hk⟩ | q
  · exact rh'.own k a (e.loc hk)
  · exact (e.res a h fun k z => q ⟨k, z⟩).1
/-- the end of a function: the cells that it made are forgotten -/
theorem cut_back (rh : RH K M H φ) (rh' : RH K M' H' φ') (e : Ext K M H M' H') (kp : Keeps φ φ') : Ext K M H M H' ∧ RH K M H' (φ'.take φ.length) := by
  have hl : ∀ k a, k < φ.length → M'.loc k = some a → M.loc k = some a := fun k a hk h => by
    obtain ⟨b, hb, _⟩ := rh.cell k _ (List.getElem?_eq_getElem hk)
    have := e.loc hb
    rw [h] at this; cases this; exact hb
  have ho := ext_own rh rh' e
  have E : Ext K M H M H' := ⟨fun u v h => rv_down hl ho (e.val u v h) (rv_below rh h), fun a h1 h2 => ⟨h1, h2, (e.res a h1 h2).2.2⟩⟩
  refine ⟨E, ⟨fun k c h => ?_, fun k h => ?_, rh.inj, rh.own, fun a h => rh'.ownd a (ho a h), fun a h => rh'.ownl a (ho a h)⟩⟩
  · have hk : k < φ.length := by
      have := lt_of_get h
      rw [List.length_take] at this; omega
    rw [List.getElem?_take_of_lt hk] at h
    obtain ⟨a, ha, hc⟩ := rh'.cell k c h
    refine ⟨a, hl k a hk ha, ?_⟩
    have hb : cbelow φ.length c = true := by
      rcases kp.2 k _ (List.getElem?_eq_getElem hk) with q | ⟨c', q, hb⟩
      · rw [h] at q
        have q := Option.some.inj q
        obtain ⟨b, _, hc2⟩ := rh.cell k _ (List.getElem?_eq_getElem hk)
        rw [← q] at hc2
        cases c with
        | lst xs => obtain ⟨vs, _, r⟩ := hc2; exact rvs_below rh r
        | dct _ => exact hc2.elim
        | ins _ _ => exact hc2.elim
      · rw [h] at q; cases q; exact hb
    cases c with
    | lst xs => obtain ⟨vs, h1, r⟩ := hc; exact ⟨vs, h1, rvs_down hl ho r hb⟩
    | dct _ => exact hc.elim
    | ins _ _ => exact hc.elim
  · rw [List.length_take] at h
    exact rh.dom k (by have := kp.1; omega)
end

/-! ### what is wanted of an end -/
def Po {α β : Type} (K : PySem.W.Frag) (rel : Mp → Hp → α → β → Prop) (M : Mp) (H : Hp) (r : R α) (Q : β → Hp → Prop) : Prop := match r with
  | .ok v φ' => ∀ M' H' x, Ext K M H M' H' → RH K M' H' φ' → rel M' H' v x → Q x H'
  | _ => False
section
variable {K : PySem.W.Frag} {M M1 : Mp} {H H1 : Hp} {φ : PHeap} {α β γ δ : Type} {rel : Mp → Hp → α → β → Prop} {rel2 : Mp → Hp → γ → δ → Prop}
theorem Po.ext {r : R α} {Q : β → Hp → Prop} (e : Ext K M H M1 H1) (h : Po K rel M H r Q) : Po K rel M1 H1 r Q := by
  cases r with
  | ok v φ' => exact fun M' H' x e' => h M' H' x (e.trans e')
  | err _ _ => exact h
  | bad => exact h
theorem Po.mono {r : R α} {Q Q' : β → Hp → Prop} (h : Po K rel M H r Q) (hq : ∀ x H', Q x H' → Q' x H') : Po K rel M H r Q' := by
  cases r with
  | ok v φ' => exact fun M' H' x e rh rv => hq _ _ (h M' H' x e rh rv)
  | err _ _ => exact h
  | bad => exact h
theorem Po.bind {r : R α} {k : α → PHeap → R γ} {Q : δ → Hp → Prop} (h : Po K rel2 M H (r.bind k) Q) :
    Po K rel M H r fun x H1 => ∃ M1 φ1 v, Ext K M H M1 H1 ∧ RH K M1 H1 φ1 ∧ rel M1 H1 v x ∧ Po K rel2 M1 H1 (k v φ1) Q := by
  cases r with
  | ok v φ' => exact fun M' H' x e rh rv => ⟨M', φ', v, e, rh, rv, Po.ext e h⟩
  | err _ _ => exact h
  | bad => exact h
theorem Po.ok {v : α} {x : β} {Q : β → Hp → Prop} (h : Po K rel M H (.ok v φ) Q) (rh : RH K M H φ) (r : rel M H v x) : Q x H := h M H x .refl rh r
end
abbrev relB : Mp → Hp → Bool → Bool → Prop := fun _ _ a b => a = b
abbrev relI : Mp → Hp → Option Int → Option Int → Prop := fun _ _ a b => a = b
def PoS (K : PySem.W.Frag) (M : Mp) (H : Hp) (o : O) (D : Ends) : Prop := match o with
  | .nx ρ φ => ∀ M' H' σ', Ext K M H M' H' → RH K M' H' φ → RE K M' H' ρ σ' → D.nx σ' H'
  | .ret v φ => ∀ M' H' x, Ext K M H M' H' → RH K M' H' φ → RV K M' H' v x → D.rt x H'
  | .brk ρ φ => ∀ M' H' σ', Ext K M H M' H' → RH K M' H' φ → RE K M' H' ρ σ' → D.bk σ' H'
  | .ct ρ φ => ∀ M' H' σ', Ext K M H M' H' → RH K M' H' φ → RE K M' H' ρ σ' → D.ct σ' H'
  | .err _ _ _ => False
  | .bad => False
theorem PoS.ext {K : PySem.W.Frag} {M M1 : Mp} {H H1 : Hp} {o : O} {D : Ends} (e : Ext K M H M1 H1) (h : PoS K M H o D) : PoS K M1 H1 o D := by
  cases o with
  | nx _ _ => exact fun M' H' x e' => h M' H' x (e.trans e')
  | ret _ _ => exact fun M' H' x e' => h M' H' x (e.trans e')
  | brk _ _ => exact fun M' H' x e' => h M' H' x (e.trans e')
  | ct _ _ => exact fun M' H' x e' => h M' H' x (e.trans e')
  | err _ _ _ => exact h
  | bad => exact h

/-! ### the judgements -/
def tE (K : PySem.W.Frag) (f : PX) : TE := fun σ H Q => ∃ M φ ρ, RH K M H φ ∧ RE K M H ρ σ ∧ Po K (RV K) M H (f ρ φ) Q
def tT (K : PySem.W.Frag) (f : PT) : TT := fun σ H Q => ∃ M φ ρ, RH K M H φ ∧ RE K M H ρ σ ∧ Po K relB M H (f ρ φ) Q
def tA (K : PySem.W.Frag) (f : PAs) : TA := fun σ H Q => ∃ M φ ρ, RH K M H φ ∧ RE K M H ρ σ ∧ Po K (RVs K) M H (f ρ φ) Q
def tO (K : PySem.W.Frag) (f : PL.PO) : L2.TO := fun σ H Q => ∃ M φ ρ, RH K M H φ ∧ RE K M H ρ σ ∧ Po K relI M H (f ρ φ) Q
def tS (K : PySem.W.Frag) (f : SX) : TS := fun D σ H => ∃ M φ ρ, RH K M H φ ∧ RE K M H ρ σ ∧ PoS K M H (f ρ φ) D
abbrev EX (X : Cx) (e : Expr) (f : PX) : Prop := PE X e (tE X.K f)
abbrev TX (X : Cx) (e : Expr) (f : PT) : Prop := L2.PT X e (tT X.K f)
structure AX (X : Cx) (es : List Expr) (f : PAs) : Prop where
  pa : PA X es (tA X.K f)
  len : ∀ ρ φ vs φ', f ρ φ = .ok vs φ' → vs.length = es.length
abbrev OX (X : Cx) (e : Option Expr) (f : PL.PO) : Prop := L2.PO X e (tO X.K f)
abbrev StX (X : Cx) (st : Stmt) (f : SX) : Prop := PS X st (tS X.K f)
abbrev SsX (X : Cx) (st : List Stmt) (f : SX) : Prop := PSs X st (tS X.K f)
theorem pe_imp {X : Cx} {e : Expr} {t t' : TE} (h : PE X e t) (i : ∀ σ H Q, t' σ H Q → t σ H Q) : PE X e t' := ⟨fun pins s σ H Q I q => h.run pins s σ H Q I (i _ _ _ q)⟩
theorem pt_imp {X : Cx} {e : Expr} {t t' : TT} (h : L2.PT X e t) (i : ∀ σ H Q, t' σ H Q → t σ H Q) : L2.PT X e t' := ⟨fun pins s σ H Q I q => h.run pins s σ H Q I (i _ _ _ q)⟩
theorem pw_imp {X : Cx} {e : Expr} {t t' : TT} (h : PW X e t) (i : ∀ σ H Q, t' σ H Q → t σ H Q) : PW X e t' := ⟨fun wh pins s σ H Q I q => h.run wh pins s σ H Q I (i _ _ _ q)⟩
theorem pa_imp {X : Cx} {e : List Expr} {t t' : TA} (h : PA X e t) (i : ∀ σ H Q, t' σ H Q → t σ H Q) : PA X e t' := ⟨fun po pins s σ H Q I q => h.run po pins s σ H Q I (i _ _ _ q)⟩
theorem po_imp {X : Cx} {e : Option Expr} {t t' : L2.TO} (h : L2.PO X e t) (i : ∀ σ H Q, t' σ H Q → t σ H Q) : L2.PO X e t' := ⟨fun pins s σ H Q I q => h.run pins s σ H Q I (i _ _ _ q)⟩
theorem ps_imp {X : Cx} {e : Stmt} {t t' : TS} (h : PS X e t) (i : ∀ D σ H, t' D σ H → t D σ H) : PS X e t' := ⟨fun pins s σ H D I q => h.run pins s σ H D I (i _ _ _ q)⟩
theorem pss_imp {X : Cx} {e : List Stmt} {t t' : TS} (h : PSs X e t) (i : ∀ D σ H, t' D σ H → t D σ H) : PSs X e t' := ⟨fun pins s σ H D I q => h.run pins s σ H D I (i _ _ _ q)⟩
end PL

/-! PL3: the operators, by pure values; expressions. -/
namespace PL
open PySem PySem.Spec PyProof.Rows L2

/-! ### pure operators -/
mutual
/-- plain data, at most n deep -/
def okd (n : Nat) : PV → Bool
  | .tup xs => match n with
    | 0 => false
    | m + 1 => okds m xs
  | .lst xs => match n with
    | 0 => false
    | m + 1 => okds m xs
  | .loc _ => false
  | .scr _ => false
  | _ => true
def okds (n : Nat) : List PV → Bool
  | [] => true
  | x :: r => okd n x && okds n r
end
mutual
/-- a == b of plain data -/
def pvEq : PV → PV → Bool
  | .non, .non => true
  | .bl a, .bl b => a == b
  | .bl a, .int j => (if a then 1 else 0) == j
  | .int i, .bl b => i == (if b then 1 else 0)
  | .int i, .int j => i == j
  | .str a, .str b => a == b
  | .tup xs, .tup ys => pvEqs xs ys
  | .lst xs, .lst ys => pvEqs xs ys
  | _, _ => false
def pvEqs : List PV → List PV → Bool
  | [], [] => true
  | x :: xs, y :: ys => pvEq x y && pvEqs xs ys
  | _, _ => false
end
/-- a list that is a cell, as it stands -/
def norm (φ : PHeap) (u : PV) : PV := match u with
  | .loc k => match φ[k]? with
    | some (.lst xs) => .lst xs
    | _ => u
  | _ => u
def gAdd (m : Bool) (u v : PV) (φ : PHeap) : R PV := match u, v with
  | .int i, .int j => .ok (.int (i + j)) φ
  | .str a, .str b => if a.length + b.length ≤ sizeLine then .ok (.str (a ++ b)) φ else .bad
  | .tup xs, .tup ys => if xs.length + ys.length ≤ sizeLine then .ok (.tup (xs ++ ys)) φ else .bad
  | _, _ => match listOf φ u, listOf φ v with
    | some xs, some ys => if xs.length + ys.length ≤ sizeLine then mkList m (xs ++ ys) φ else .bad
    | _, _ => .bad
def gSub (u v : PV) (φ : PHeap) : R PV := match u, v with
  | .int i, .int j => .ok (.int (i - j)) φ
  | _, _ => .bad
@[irreducible] def decCMul (i j : Int) : Decidable (CMul i j) := by unfold CMul; infer_instance
instance (i j : Int) : Decidable (CMul i j) := decCMul i j
@[irreducible] def decCDiv (i j : Int) : Decidable (CDiv i j) := by unfold CDiv; infer_instance
instance (i j : Int) : Decidable (CDiv i j) := decCDiv i j
@[irreducible] def decCPow (i j : Int) : Decidable (CPow i j) := by unfold CPow; infer_instance
instance (i j : Int) : Decidable (CPow i j) := decCPow i j
def gMul (u v : PV) (φ : PHeap) : R PV := match u, v with
  | .int i, .int j => if CMul i j then .ok (.int (i * j)) φ else .bad
  | .str s, .int n => if smallI n ∧ s.length * n.toNat ≤ 1000000 then .ok (.str (List.replicate n.toNat s).flatten) φ else .bad
  | _, _ => .bad
def gFdiv (u v : PV) (φ : PHeap) : R PV := match u, v with
  | .int i, .int j => if CDiv i j then .ok (.int (i / j)) φ else .bad
  | _, _ => .bad
def gMod (u v : PV) (φ : PHeap) : R PV := match u, v with
  | .int i, .int j => if 0 < j then .ok (.int (i % j)) φ else .bad
  | _, _ => .bad
def gPow (u v : PV) (φ : PHeap) : R PV := match u, v with
  | .int i, .int j => if CPow i j then .ok (.int (i ^ j.toNat)) φ else .bad
  | _, _ => .bad
def gNeg (u : PV) (φ : PHeap) : R PV := match u with
  | .int i => .ok (.int (-i)) φ
  | _ => .bad
def gNot (u : PV) (φ : PHeap) : R PV := match u with
  | .bl b => .ok (.bl (!b)) φ
  | _ => .bad
def gLt (u v : PV) (φ : PHeap) : R PV := match u, v with
  | .int i, .int j => .ok (.bl (decide (i < j))) φ
  | .str a, .str b => .ok (.bl (decide (a < b))) φ
  | _, _ => .bad
def gLe (u v : PV) (φ : PHeap) : R PV := match u, v with
  | .int i, .int j => .ok (.bl (decide (i ≤ j))) φ
  | _, _ => .bad
def gGt (u v : PV) (φ : PHeap) : R PV := match u, v with
  | .int i, .int j => .ok (.bl (decide (j < i))) φ
  | _, _ => .bad
def gGe (u v : PV) (φ : PHeap) : R PV := match u, v with
  | .int i, .int j => .ok (.bl (decide (j ≤ i))) φ
  | _, _ => .bad
def gEq (u v : PV) (φ : PHeap) : R PV := if okd 64 (norm φ u) && okd 64 (norm φ v) then .ok (.bl (pvEq (norm φ u) (norm φ v))) φ else .bad
def gNe (u v : PV) (φ : PHeap) : R PV := if okd 64 (norm φ u) && okd 64 (norm φ v) then .ok (.bl (!pvEq (norm φ u) (norm φ v))) φ else .bad
def isNon : PV → Bool
  | .non => true
  | _ => false
/-- v is None -/
def gIsN (u v : PV) (φ : PHeap) : R PV := match v with
  | .non => .ok (.bl (isNon u)) φ
  | _ => .bad
def gNotN (u v : PV) (φ : PHeap) : R PV := match v with
  | .non => .ok (.bl (!isNon u)) φ
  | _ => .bad
def isAtom : PV → Bool
  | .non => true | .bl _ => true | .int _ => true | .str _ => true | _ => false
/-- x in y -/
def inB (φ : PHeap) (u v : PV) : Option Bool := match v with
  | .str s => match u with
    | .str [c] => some (decide (c ∈ s))
    | _ => none
  | .tup xs => if isAtom u && xs.all isAtom then some (xs.any fun y => pvEq y u) else none
  | _ => match listOf φ v with
    | some xs => if okd 64 u && okds 63 xs then some (xs.any fun y => pvEq y u) else none
    | none => none
def gIn (u v : PV) (φ : PHeap) : R PV := match inB φ u v with
  | some b => .ok (.bl b) φ
  | none => .bad
def gNotIn (u v : PV) (φ : PHeap) : R PV := match inB φ u v with
  | some b => .ok (.bl (!b)) φ
  | none => .bad
/-- x[i] -/
def gIx (u v : PV) (φ : PHeap) : R PV := match v with
  | .int i => match u with
    | .str s => if s.length ≤ sizeLine then (match pyIx s i with | some c => .ok (.str [c]) φ | none => .bad) else .bad
    | _ => match seqOf φ u with
      | some xs => match pyIx xs i with
        | some x => .ok x φ
        | none => .bad
      | none => .bad
  | _ => .bad
/-- the bounds of a slice -/
def cutAt (n : Nat) (d : Nat) : Option Int → Nat
  | none => d
  | some i => if i < 0 then (i + n).toNat else min i.toNat n
def cutL {α : Type} (xs : List α) (lo hi : Option Int) : List α := (xs.drop (cutAt xs.length 0 lo)).take (cutAt xs.length xs.length hi - cutAt xs.length 0 lo)
def gSl (m : Bool) (u : PV) (lo hi : Option Int) (φ : PHeap) : R PV := match u with
  | .str s => if s.length ≤ sizeLine then .ok (.str (cutL s lo hi)) φ else .bad
  | .tup xs => .ok (.tup (cutL xs lo hi)) φ
  | _ => match listOf φ u with
    | some xs => mkList m (cutL xs lo hi) φ
    | none => .bad

/-! ### the operators hold -/
structure OpG (X : Cx) (f : Value → Value → Sem Value) (g : PV → PV → PHeap → R PV) : Prop where
  ex : ∃ r, OpR X f r ∧ ∀ M H φ u v x y Q, RH X.K M H φ → RV X.K M H u x → RV X.K M H v y → Po X.K (RV X.K) M H (g u v φ) Q → r x y H Q
section
variable {X : Cx} {K : PySem.W.Frag} {M : Mp} {H : Hp} {φ : PHeap} {u v : PV} {x y : V} {Q : VK}
theorem rv_int {i : Int} (r : RV K M H (.int i) x) : x = .int i := by cases r; rfl
theorem rv_bl {b : Bool} (r : RV K M H (.bl b) x) : x = .bl b := by cases r; rfl
theorem rv_non (r : RV K M H .non x) : x = .non := by cases r; rfl
theorem rv_str {s : List Nat} (r : RV K M H (.str s) x) : ∃ z : Str, x = .str z ∧ z.cps.toList = s ∧ ∀ c ∈ s, c < 0x110000 := by cases r; exact ⟨_, rfl, by assumption, by assumption⟩
theorem rv_tup {xs : List PV} (r : RV K M H (.tup xs) x) : ∃ a vs, x = .ref a ∧ SqT K H a vs ∧ RVs K M H xs vs := by cases r; exact ⟨_, _, rfl, by assumption, by assumption⟩
/-- a list, by value or as a cell -/
theorem rv_list {xs : List PV} (rh : RH K M H φ) (r : RV K M H u x) (h : listOf φ u = some xs) : ∃ a vs, x = .ref a ∧ H a = some (.lst vs) ∧ RVs K M H xs vs := by
  cases r with
  | lst h1 h2 h3 => cases (Option.some.inj h); exact ⟨_, _, rfl, h1, h3⟩
  | loc hk =>
    simp only [listOf] at h
    split at h
    · rename_i xs' e'
      cases h
      obtain ⟨vs, h1, h2⟩ := rh_at rh hk e'
      exact ⟨_, vs, rfl, h1, h2⟩
    · cases h
  | _ => cases h
/-- a list or tuple -/
theorem rv_seq {xs : List PV} (rh : RH K M H φ) (r : RV K M H u x) (h : seqOf φ u = some xs) : ∃ a vs, x = .ref a ∧ (SqL K H a vs ∨ SqT K H a vs) ∧ RVs K M H xs vs := by
  cases r with
  | tup h1 h2 => cases (Option.some.inj h); exact ⟨_, _, rfl, .inr h1, h2⟩
  | lst h1 h2 h3 => cases (Option.some.inj h); exact ⟨_, _, rfl, .inl (SqL.of h1), h3⟩
  | loc hk =>
    simp only [seqOf] at h
    split at h
    · rename_i xs' e'
      cases h
      obtain ⟨vs, h1, h2⟩ := rh_at rh hk e'
      exact ⟨_, vs, rfl, .inl (SqL.of h1), h2⟩
    · cases h
  | _ => cases h
theorem str_of_list {z : Str} {s : List Nat} (h : z.cps.toList = s) : z = ⟨s.toArray⟩ := by
  cases z with | mk c => simp at h; subst h; simp
theorem str_len {z : Str} {s : List Nat} (h : z.cps.toList = s) : z.length = s.length := by
  rw [← h]; show z.cps.size = _; simp
/-- a new list, a value or a cell -/
theorem new_list {m : Bool} {xs : List PV} {vs : List V} (rh : RH K M H φ) (r : RVs K M H xs vs) (h : Po K (RV K) M H (mkList m xs φ) Q) : ∀ p, H p = none → Q (.ref p) (upd H p (.lst vs)) := fun p hp => by
  unfold mkList at h
  cases m with
  | true => exact h (M.add φ.length p) _ _ (ext_cell rh hp) (rh_cell rh hp r) (.loc (by show (if φ.length = φ.length then some p else _) = some p; rw [if_pos rfl]))
  | false => exact h M _ _ (ext_new rh hp) (rh_new rh hp) (.lst upd_same (not_own rh hp) ((ext_new rh hp).vals r))
theorem new_tup {xs : List PV} {vs : List V} (rh : RH K M H φ) (r : RVs K M H xs vs) (h : Po K (RV K) M H (.ok (.tup xs) φ) Q) : ∀ p, H p = none → Q (.ref p) (upd H p (.tup vs)) := fun p hp =>
  h M _ _ (ext_new rh hp) (rh_new rh hp) (.tup (SqT.of upd_same) ((ext_new rh hp).vals r))
theorem chars_append {a b : List Nat} (h1 : ∀ c ∈ a, c < 0x110000) (h2 : ∀ c ∈ b, c < 0x110000) : ∀ c ∈ a ++ b, c < 0x110000 := fun c h => (List.mem_append.mp h).elim (h1 c) (h2 c)

theorem o_add {m : Bool} : OpG X (binaryOp .Add) (gAdd m) := by
  refine ⟨_, (op_add (X := X)).or ((op_add_str (X := X)).or ((op_catA (X := X)).or (op_cat (X := X)))), ?_⟩
  intro M H φ u v x y Q rh ru rv h
  unfold gAdd at h
  split at h
  · cases ru; cases rv
    exact .inl ⟨_, _, rfl, rfl, h.ok rh (.int _)⟩
  · obtain ⟨z, rfl, e1, c1⟩ := rv_str ru
    obtain ⟨z', rfl, e2, c2⟩ := rv_str rv
    split at h
    · rename_i hz
      refine .inr (.inl ⟨z, z', rfl, rfl, by rw [str_len e1, str_len e2]; exact hz, h.ok rh (.str ?_ (chars_append c1 c2))⟩)
      show (z.cps ++ z'.cps).toList = _
      rw [Array.toList_append, e1, e2]
    · exact h.elim
  · rename_i xs ys
    obtain ⟨a, vs, rfl, s1, r1⟩ := rv_tup ru
    obtain ⟨b, ws, rfl, s2, r2⟩ := rv_tup rv
    split at h
    · rename_i hz
      refine .inr (.inr (.inl ⟨a, b, vs, ws, rfl, rfl, s1, s2, by rw [← r1.length, ← r2.length]; exact hz, fun e => ?_, fun _ e => ?_, fun _ _ => new_tup rh (r1.append r2) h⟩))
      · subst e; cases r1; exact h.ok rh rv
      · subst e; cases r2; rw [List.append_nil] at h; exact h.ok rh ru
    · exact h.elim
  · split at h
    · rename_i xs ys h1 h2
      split at h
      · rename_i hz
        obtain ⟨a, vs, rfl, s1, r1⟩ := rv_list rh ru h1
        obtain ⟨b, ws, rfl, s2, r2⟩ := rv_list rh rv h2
        exact .inr (.inr (.inr ⟨a, b, vs, ws, rfl, rfl, s1, s2, by rw [← r1.length, ← r2.length]; exact hz, new_list rh (r1.append r2) h⟩))
      · exact h.elim
    · exact h.elim
theorem o_int {f : Value → Value → Sem Value} {C : Int → Int → Prop} {t : Int → Int → Int} {g : PV → PV → PHeap → R PV} (ho : OpR X f (rI C fun i j => .int (t i j)))
    (hg : ∀ M H φ u v Q, Po X.K (RV X.K) M H (g u v φ) Q → ∃ i j, u = .int i ∧ v = .int j ∧ C i j ∧ g u v φ = .ok (.int (t i j)) φ) : OpG X f g := by
  refine ⟨_, ho, fun M H φ u v x y Q rh ru rv h => ?_⟩
  obtain ⟨i, j, rfl, rfl, hc, e⟩ := hg _ _ _ _ _ _ h
  rw [e] at h
  rw [rv_int ru, rv_int rv]
  exact ⟨i, j, rfl, rfl, hc, h.ok rh (.int _)⟩
theorem rI0_rI {g : Int → Int → V} : ∀ {f : Value → Value → Sem Value}, OpR X f (rI0 g) → OpR X f (rI (fun _ _ => True) g) := fun {f} h pins s σ H x y v u Q I rx ry ⟨i, j, e1, e2, _, q⟩ => h pins s σ H x y v u Q I rx ry ⟨i, j, e1, e2, q⟩
theorem o_sub : OpG X (binaryOp .Sub) gSub := o_int (rI0_rI op_sub) fun M H φ u v Q h => by
  unfold gSub at h ⊢
  split at h
  · exact ⟨_, _, rfl, rfl, True.intro, rfl⟩
  · exact h.elim
theorem fold_cat (x : Array Nat) : ∀ (k : Nat) (acc : Array Nat), ((List.replicate k x).foldl (· ++ ·) acc).toList = acc.toList ++ (List.replicate k x.toList).flatten
  | 0, acc => by simp
  | k + 1, acc => by
    rw [List.replicate_succ, List.foldl_cons, fold_cat x k, List.replicate_succ, List.flatten_cons, Array.toList_append, List.append_assoc]
theorem mul_tl (z : Str) (n : Int) : (Txt.mul z n).cps.toList = (List.replicate n.toNat z.cps.toList).flatten := by
  unfold Txt.mul
  split
  · rename_i h
    rw [show n.toNat = 0 by omega]
    rfl
  · split
    · rename_i h1 h
      rw [Bool.or_eq_true, beq_iff_eq, beq_iff_eq] at h
      rcases h with h | h
      · subst h; simp
      · have e : z.cps.toList = [] := by
          have : z.cps.size = 0 := h
          rw [← List.length_eq_zero_iff, Array.length_toList]; exact this
        rw [e]
        simp
    · show ((List.replicate n.toNat z.cps).foldl (· ++ ·) #[]).toList = _
      rw [fold_cat]; rfl
theorem op_mulS : OpR X (binaryOp .Mult) (fun x y H Q => ∃ (z : Str) (n : Int), x = .str z ∧ y = .int n ∧ smallI n ∧ z.length * n.toNat ≤ 1000000 ∧ Q (.str (Txt.mul z n)) H) := by
  intro pins s σ H x y v u Q I rx ry h
  obtain ⟨z, n, rfl, rfl, hn, hz, q⟩ := h
  obtain ⟨t, rfl⟩ := rx
  obtain ⟨t', rfl⟩ := ry
  unfold smallI at hn
  refine SB.mul ⟨?_, fun h1 h2 => ?_, fun h1 h2 => ?_⟩ fun t' k => ⟨.str _, H, I.tok _, ⟨_, rfl⟩, q⟩
  · rw [decide_eq_false (by omega), decide_eq_false (by omega)]; rfl
  · intro z1
    have h3 : (z.length : Int) * n ≤ 1000000 := by
      have : ((z.length * n.toNat : Nat) : Int) ≤ 1000000 := by omega
      rw [Int.natCast_mul, Int.toNat_of_nonneg (by omega)] at this
      exact this
    have h4 : (2 ^ 63 - 1) / n + 1 ≤ (z.length : Int) := by omega
    have h5 : ((2 ^ 63 - 1) / n + 1) * n ≤ (z.length : Int) * n := Int.mul_le_mul_of_nonneg_right h4 (by omega)
    have h6 := Int.lt_ediv_add_one_mul_self (2 ^ 63 - 1 : Int) (show 0 < n by omega)
    omega
  · unfold Builtin.Str.tooLong
    have := sizeLine_eq
    rw [decide_eq_false]
    have : (z.length * n.toNat) ≤ 16777216 := by omega
    omega
theorem o_mul : OpG X (binaryOp .Mult) gMul := by
  refine ⟨_, (op_mul (X := X)).or (op_mulS (X := X)), fun M H φ u v x y Q rh ru rv h => ?_⟩
  unfold gMul at h
  split at h
  · cases ru; cases rv
    split at h
    · rename_i hc; exact .inl ⟨_, _, rfl, rfl, hc, h.ok rh (.int _)⟩
    · exact h.elim
  · obtain ⟨z, rfl, e1, c1⟩ := rv_str ru
    cases rv
    split at h
    · rename_i hc
      refine .inr ⟨z, _, rfl, rfl, hc.1, by rw [str_len e1]; exact hc.2, h.ok rh (.str (by rw [mul_tl, e1]) fun c hm => ?_)⟩
      obtain ⟨l, h1, h2⟩ := List.mem_flatten.mp hm
      rw [List.eq_of_mem_replicate h1] at h2
      exact c1 c h2
    · exact h.elim
  · exact h.elim
theorem o_fdiv : OpG X (binaryOp .FloorDiv) gFdiv := o_int op_fdiv fun M H φ u v Q h => by
  unfold gFdiv at h ⊢
  split at h
  · split at h
    · rename_i hc; exact ⟨_, _, rfl, rfl, hc, by simp only [if_pos hc]⟩
    · exact h.elim
  · exact h.elim
theorem o_mod : OpG X (binaryOp .Mod) gMod := o_int op_mod fun M H φ u v Q h => by
  unfold gMod at h ⊢
  split at h
  · split at h
    · rename_i hc; exact ⟨_, _, rfl, rfl, hc, by simp only [if_pos hc]⟩
    · exact h.elim
  · exact h.elim
theorem o_pow : OpG X (binaryOp .Pow) gPow := o_int op_pow fun M H φ u v Q h => by
  unfold gPow at h ⊢
  split at h
  · split at h
    · rename_i hc; exact ⟨_, _, rfl, rfl, hc, by simp only [if_pos hc]⟩
    · exact h.elim
  · exact h.elim
theorem o_cmp {f : Value → Value → Sem Value} {t : Int → Int → Bool} {g : PV → PV → PHeap → R PV} (ho : OpR X f (rI0 fun i j => .bl (t i j)))
    (hg : ∀ M H φ u v Q, Po X.K (RV X.K) M H (g u v φ) Q → ∃ i j, u = .int i ∧ v = .int j ∧ g u v φ = .ok (.bl (t i j)) φ) : OpG X f g := by
  refine ⟨_, ho, fun M H φ u v x y Q rh ru rv h => ?_⟩
  obtain ⟨i, j, rfl, rfl, e⟩ := hg _ _ _ _ _ _ h
  rw [e] at h
  rw [rv_int ru, rv_int rv]
  exact ⟨i, j, rfl, rfl, h.ok rh (.bl _)⟩
theorem o_le : OpG X (compareOp .LtE) gLe := o_cmp op_le fun M H φ u v Q h => by
  unfold gLe at h ⊢
  split at h
  · exact ⟨_, _, rfl, rfl, rfl⟩
  · exact h.elim
theorem o_gt : OpG X (compareOp .Gt) gGt := o_cmp op_gt fun M H φ u v Q h => by
  unfold gGt at h ⊢
  split at h
  · exact ⟨_, _, rfl, rfl, rfl⟩
  · exact h.elim
theorem o_ge : OpG X (compareOp .GtE) gGe := o_cmp op_ge fun M H φ u v Q h => by
  unfold gGe at h ⊢
  split at h
  · exact ⟨_, _, rfl, rfl, rfl⟩
  · exact h.elim
theorem o_lt : OpG X (compareOp .Lt) gLt := by
  refine ⟨_, (op_lt (X := X)).or (op_lt_str (X := X)), fun M H φ u v x y Q rh ru rv h => ?_⟩
  unfold gLt at h
  split at h
  · cases ru; cases rv
    exact .inl ⟨_, _, rfl, rfl, h.ok rh (.bl _)⟩
  · obtain ⟨z, rfl, e1, c1⟩ := rv_str ru
    obtain ⟨z', rfl, e2, c2⟩ := rv_str rv
    refine .inr ⟨z, z', rfl, rfl, ?_⟩
    rw [e1, e2]
    exact h.ok rh (.bl _)
  · exact h.elim
theorem o_isN : OpG X (compareOp .Is) gIsN := by
  refine ⟨_, op_isN, fun M H φ u v x y Q rh ru rv h => ?_⟩
  unfold gIsN at h
  split at h
  · cases rv
    refine ⟨rfl, ?_⟩
    have e : decide (x = V.non) = isNon u := by cases ru <;> first | rfl | (exact decide_eq_false (by intro z; cases z))
    rw [e]
    exact h.ok rh (.bl _)
  · exact h.elim
theorem o_notN : OpG X (compareOp .IsNot) gNotN := by
  refine ⟨_, op_notN, fun M H φ u v x y Q rh ru rv h => ?_⟩
  unfold gNotN at h
  split at h
  · cases rv
    refine ⟨rfl, ?_⟩
    have e : (!decide (x = V.non)) = !isNon u := by cases ru <;> first | rfl | (rw [decide_eq_false (by intro z; cases z)]; rfl)
    rw [e]
    exact h.ok rh (.bl _)
  · exact h.elim

/-! ### plain data -/
mutual
def toD : PV → PyData
  | .non => .none
  | .bl b => .bool b
  | .int i => .int i
  | .str s => .str ⟨s.toArray⟩
  | .tup xs => .tuple (toDs xs)
  | .lst xs => .list (toDs xs)
  | .loc _ => .none
  | .scr _ => .none
def toDs : List PV → List PyData
  | [] => []
  | x :: r => toD x :: toDs r
end
mutual
theorem eqv_toD : ∀ (n m : Nat) (u v : PV), okd n u = true → okd m v = true → PyData.eqv (toD u) (toD v) = pvEq u v := by
  intro n m u v hu hv
  cases u with
  | tup xs =>
    cases v with
    | tup ys =>
      cases n with
      | zero => simp [okd] at hu
      | succ n =>
        cases m with
        | zero => simp [okd] at hv
        | succ m =>
          simp only [okd] at hu hv
          simp only [toD, PyData.eqv, pvEq]
          exact eqvs_toD n m xs ys hu hv
    | _ => first | rfl | (simp [okd] at hv; done) | (simp [toD, PyData.eqv, pvEq])
  | lst xs =>
    cases v with
    | lst ys =>
      cases n with
      | zero => simp [okd] at hu
      | succ n =>
        cases m with
        | zero => simp [okd] at hv
        | succ m =>
          simp only [okd] at hu hv
          simp only [toD, PyData.eqv, pvEq]
          exact eqvs_toD n m xs ys hu hv
    | _ => first | rfl | (simp [okd] at hv; done) | (simp [toD, PyData.eqv, pvEq])
  | str a =>
    cases v with
    | str b =>
      simp only [toD, PyData.eqv, pvEq]
      rw [Bool.eq_iff_iff]
      simp
    | _ => first | rfl | (simp [okd] at hv; done) | (simp [toD, PyData.eqv, pvEq])
  | loc _ => simp [okd] at hu
  | scr _ => simp [okd] at hu
  | non => cases v <;> first | rfl | (simp [okd] at hv; done) | (simp [toD, PyData.eqv, pvEq])
  | bl _ => cases v <;> first | rfl | (simp [okd] at hv; done) | (simp [toD, PyData.eqv, pvEq])
  | int _ => cases v <;> first | rfl | (simp [okd] at hv; done) | (simp [toD, PyData.eqv, pvEq])
theorem eqvs_toD : ∀ (n m : Nat) (xs ys : List PV), okds n xs = true → okds m ys = true → PyData.eqvAll (toDs xs) (toDs ys) = pvEqs xs ys := by
  intro n m xs ys hx hy
  cases xs with
  | nil => cases ys <;> simp [toDs, PyData.eqvAll, pvEqs]
  | cons x xs =>
    cases ys with
    | nil => simp [toDs, PyData.eqvAll, pvEqs]
    | cons y ys =>
      simp only [okds, Bool.and_eq_true] at hx hy
      simp only [toDs, PyData.eqvAll, pvEqs]
      rw [eqv_toD n m x y hx.1 hy.1, eqvs_toD n m xs ys hx.2 hy.2]
end
mutual
theorem depth_toD : ∀ (n : Nat) (u : PV), okd n u = true → (toD u).depth ≤ n := by
  intro n u hu
  cases u with
  | tup xs =>
    cases n with
    | zero => simp [okd] at hu
    | succ n =>
      simp only [okd] at hu
      simp only [toD, PyData.depth]
      have := depths_toD n xs hu
      omega
  | lst xs =>
    cases n with
    | zero => simp [okd] at hu
    | succ n =>
      simp only [okd] at hu
      simp only [toD, PyData.depth]
      have := depths_toD n xs hu
      omega
  | _ => simp [toD, PyData.depth]
theorem depths_toD : ∀ (n : Nat) (xs : List PV), okds n xs = true → PyData.depthAll (toDs xs) ≤ n := by
  intro n xs hx
  cases xs with
  | nil => simp [toDs, PyData.depthAll]
  | cons x xs =>
    simp only [okds, Bool.and_eq_true] at hx
    simp only [toDs, PyData.depthAll]
    have h1 := depth_toD n x hx.1
    have h2 := depths_toD n xs hx.2
    omega
end
theorem dp_of {K : PySem.W.Frag} {M : Mp} {H : Hp} {u : PV} {x : V} (r : RV K M H u x) : ∀ n, okd n u = true → Dp K H x (toD u) ∧ (toD u).canLay0 = true := by
  refine RV.rec (K := K) (M := M) (H := H) (motive_1 := fun u x _ => ∀ n, okd n u = true → Dp K H x (toD u) ∧ (toD u).canLay0 = true) (motive_2 := fun us xs _ => ∀ n, okds n us = true → DpAll K H xs (toDs us) ∧ PyData.canLayAll0 (toDs us) = true)
    (fun _ _ => ⟨.non, by simp [toD, PyData.canLay0]⟩) (fun b _ _ => ⟨.bl b, by simp [toD, PyData.canLay0]⟩) (fun i _ _ => ⟨.int i, by simp [toD, PyData.canLay0]⟩) (fun {z s} h1 h2 n _ => ?_) (fun {a xs vs} hs _ ih n h => ?_) (fun {a xs vs} ha _ _ ih n h => ?_)
    (fun _ _ n h => by simp [okd] at h) (fun _ n h => by simp [okd] at h) (fun _ n h => by simp [okd] at h) (fun n _ => ⟨.nil, by simp [toDs, PyData.canLayAll0]⟩) (fun {u x us xs} _ _ a b n h => ?_) r
  · refine ⟨?_, ?_⟩
    · simp only [toD]
      rw [← str_of_list h1]
      exact .str z
    · simp only [toD, PyData.canLay0, PyData.strOk]
      simpa using h2
  · cases n with
    | zero => simp [okd] at h
    | succ n =>
      simp only [okd] at h
      obtain ⟨a1, a2⟩ := ih n h
      exact ⟨by simp only [toD]; exact .tup hs a1, by simp only [toD, PyData.canLay0]; exact a2⟩
  · cases n with
    | zero => simp [okd] at h
    | succ n =>
      simp only [okd] at h
      obtain ⟨a1, a2⟩ := ih n h
      exact ⟨by simp only [toD]; exact .lst (SqL.of ha) a1, by simp only [toD, PyData.canLay0]; exact a2⟩
  · simp only [okds, Bool.and_eq_true] at h
    obtain ⟨a1, a2⟩ := a n h.1
    obtain ⟨b1, b2⟩ := b n h.2
    exact ⟨by simp only [toDs]; exact .cons a1 b1, by simp only [toDs, PyData.canLayAll0, a2, b2]; rfl⟩
theorem shaped_of {n : Nat} (hn : n ≤ 64) (r : RV K M H u x) (h : okd n u = true) : Dp K H x (toD u) ∧ SeqAt.shaped (toD u) = true := by
  obtain ⟨h1, h2⟩ := dp_of r n h
  refine ⟨h1, ?_⟩
  unfold SeqAt.shaped
  rw [h2, decide_eq_true (Nat.le_trans (depth_toD n u h) hn)]; rfl
theorem rv_norm (rh : RH K M H φ) (r : RV K M H u x) : norm φ u = u ∨ ∃ xs vs a, norm φ u = .lst xs ∧ x = .ref a ∧ H a = some (.lst vs) ∧ RVs K M H xs vs := by
  unfold norm
  split
  · split
    · rename_i e
      cases r with
      | loc hk =>
        obtain ⟨vs, h1, h2⟩ := rh_at rh hk e
        exact .inr ⟨_, vs, _, rfl, rfl, h1, h2⟩
    · exact .inl rfl
  · exact .inl rfl
theorem dps_of {K : PySem.W.Frag} {M : Mp} {H : Hp} : ∀ {us : List PV} {xs : List V}, RVs K M H us xs → ∀ n, okds n us = true → DpAll K H xs (toDs us) ∧ PyData.canLayAll0 (toDs us) = true
  | [], [], .nil, _, _ => ⟨by simp only [toDs]; exact .nil, by simp [toDs, PyData.canLayAll0]⟩
  | _ :: _, _ :: _, .cons a b, n, h => by
    simp only [okds, Bool.and_eq_true] at h
    obtain ⟨a1, a2⟩ := dp_of a n h.1
    obtain ⟨b1, b2⟩ := dps_of b n h.2
    exact ⟨by simp only [toDs]; exact .cons a1 b1, by simp only [toDs, PyData.canLayAll0, a2, b2]; rfl⟩
/-- a list's data, whatever it stands as -/
theorem shaped_list {n : Nat} {a : Addr} {xs : List PV} {vs : List V} (hn : n + 1 ≤ 64) (ha : H a = some (.lst vs)) (r : RVs K M H xs vs) (h : okds n xs = true) : Dp K H (.ref a) (.list (toDs xs)) ∧ SeqAt.shaped (.list (toDs xs)) = true := by
  obtain ⟨h1, h2⟩ := dps_of r n h
  refine ⟨.lst (SqL.of ha) h1, ?_⟩
  unfold SeqAt.shaped
  have := depths_toD n xs h
  rw [decide_eq_true (show (PyData.list (toDs xs)).depth ≤ 64 by simp only [PyData.depth]; omega)]
  simp only [PyData.canLay0, h2]; rfl
theorem shaped_norm (rh : RH K M H φ) (r : RV K M H u x) (h : okd 64 (norm φ u) = true) : Dp K H x (toD (norm φ u)) ∧ SeqAt.shaped (toD (norm φ u)) = true := by
  rcases rv_norm rh r with e | ⟨xs, vs, a, e, rfl, ha, rs⟩
  · rw [e] at h ⊢; exact shaped_of (by decide) r h
  · rw [e] at h ⊢
    simp only [okd] at h
    simp only [toD]
    exact shaped_list (n := 63) (by decide) ha rs h
theorem o_eq (hu : X.A.units + 64 < cLine) : OpG X (compareOp .Eq) gEq := by
  refine ⟨_, op_eqD hu, fun M H φ u v x y Q rh ru rv h => ?_⟩
  unfold gEq at h
  split at h
  · rename_i hc
    rw [Bool.and_eq_true] at hc
    obtain ⟨d1, s1⟩ := shaped_norm rh ru hc.1
    obtain ⟨d2, s2⟩ := shaped_norm rh rv hc.2
    refine ⟨_, _, d1, d2, s1, s2, ?_⟩
    rw [eqv_toD 64 64 _ _ hc.1 hc.2]
    exact h.ok rh (.bl _)
  · exact h.elim
theorem o_ne (hu : X.A.units + 64 < cLine) : OpG X (compareOp .NotEq) gNe := by
  refine ⟨_, op_neD hu, fun M H φ u v x y Q rh ru rv h => ?_⟩
  unfold gNe at h
  split at h
  · rename_i hc
    rw [Bool.and_eq_true] at hc
    obtain ⟨d1, s1⟩ := shaped_norm rh ru hc.1
    obtain ⟨d2, s2⟩ := shaped_norm rh rv hc.2
    refine ⟨_, _, d1, d2, s1, s2, ?_⟩
    rw [eqv_toD 64 64 _ _ hc.1 hc.2]
    exact h.ok rh (.bl _)
  · exact h.elim
theorem any_eqv {n m : Nat} {u : PV} (hu : okd n u = true) : ∀ xs : List PV, okds m xs = true → ((toDs xs).any fun z => PyData.eqv z (toD u)) = xs.any fun y => pvEq y u
  | [], _ => rfl
  | x :: r, h => by
    simp only [okds, Bool.and_eq_true] at h
    simp only [toDs, List.any_cons]
    rw [eqv_toD m n x u h.1 hu, any_eqv hu r h.2]
theorem atom_rv {u : PV} {x : V} (r : RV K M H u x) (h : isAtom u = true) : flatV x = true ∧ ∀ {v : PV} {y : V}, RV K M H v y → isAtom v = true → eqV y x = pvEq v u := by
  cases r with
  | non =>
    refine ⟨rfl, fun {v y} rv hv => ?_⟩
    cases rv <;> first | rfl | (simp [isAtom] at hv; done) | (simp [eqV, pvEq])
  | bl b =>
    refine ⟨rfl, fun {v y} rv hv => ?_⟩
    cases rv <;> first | rfl | (simp [isAtom] at hv; done) | (simp [eqV, pvEq])
  | int i =>
    refine ⟨rfl, fun {v y} rv hv => ?_⟩
    cases rv <;> first | rfl | (simp [isAtom] at hv; done) | (simp [eqV, pvEq])
  | @str z s h1 h2 =>
    refine ⟨rfl, fun {v y} rv hv => ?_⟩
    cases rv with
    | str e1 e2 =>
      simp only [eqV, pvEq]
      rw [Bool.eq_iff_iff, beq_iff_eq, beq_iff_eq, str_of_list e1, str_of_list h1]
      simp
    | _ => first | rfl | (simp [isAtom] at hv; done) | (simp [eqV, pvEq])
  | _ => simp [isAtom] at h
theorem atoms_in {u : PV} {x : V} (r : RV K M H u x) (h : isAtom u = true) : ∀ {us : List PV} {xs : List V}, RVs K M H us xs → us.all isAtom = true → xs.all flatV = true ∧ inV x xs = us.any fun y => pvEq y u
  | [], [], .nil, _ => ⟨rfl, rfl⟩
  | _ :: _, _ :: _, .cons a b, q => by
    rw [List.all_cons, Bool.and_eq_true] at q
    obtain ⟨i1, i2⟩ := atoms_in r h b q.2
    refine ⟨by rw [List.all_cons, (atom_rv a q.1).1, i1]; rfl, ?_⟩
    unfold inV at i2 ⊢
    rw [List.any_cons, List.any_cons, i2, (atom_rv r h).2 a q.1]
theorem o_inB {f : Value → Value → Sem Value} {neg : Bool} (h1 : OpR X f (fun x y H Q => ∃ (c : Nat) (z : Str), x = .str ⟨#[c]⟩ ∧ y = .str z ∧ Q (.bl (if neg then !decide (c ∈ z.cps.toList) else decide (c ∈ z.cps.toList))) H)) (h2 : OpR X f (rIn X.K neg))
    (h3 : OpR X f (fun x y H Q => ∃ d ds, Dp X.K H x d ∧ Dp X.K H y (.list ds) ∧ SeqAt.shaped d = true ∧ SeqAt.shaped (.list ds) = true ∧ Q (.bl (if neg then !(ds.any fun z => PyData.eqv z d) else ds.any fun z => PyData.eqv z d)) H)) :
    OpG X f (fun u v φ => match inB φ u v with | some b => .ok (.bl (if neg then !b else b)) φ | none => .bad) := by
  refine ⟨_, h1.or (h2.or h3), fun M H φ u v x y Q rh ru rv h => ?_⟩
  split at h
  · rename_i b hb
    unfold inB at hb
    split at hb
    · obtain ⟨z, rfl, e1, c1⟩ := rv_str rv
      split at hb
      · obtain ⟨z', rfl, e2, c2⟩ := rv_str ru
        cases hb
        refine .inl ⟨_, z, by rw [str_of_list e2], rfl, ?_⟩
        rw [e1]; exact h.ok rh (.bl _)
      · cases hb
    · split at hb
      · rename_i hc
        rw [Bool.and_eq_true] at hc
        cases hb
        obtain ⟨a, vs, rfl, s1, r1⟩ := rv_tup rv
        obtain ⟨f1, f2⟩ := atoms_in ru hc.1 r1 hc.2
        refine .inr (.inl ⟨a, vs, rfl, .inr s1, (atom_rv ru hc.1).1, f1, ?_⟩)
        rw [f2]; exact h.ok rh (.bl _)
      · cases hb
    · split at hb
      · rename_i xs hx
        split at hb
        · rename_i hc
          rw [Bool.and_eq_true] at hc
          cases hb
          obtain ⟨a, vs, rfl, s1, r1⟩ := rv_list rh rv hx
          obtain ⟨d1, e1⟩ := shaped_of (n := 64) (by decide) ru hc.1
          obtain ⟨d2, e2⟩ := shaped_list (n := 63) (by decide) s1 r1 hc.2
          refine .inr (.inr ⟨_, _, d1, d2, e1, e2, ?_⟩)
          rw [any_eqv hc.1 xs hc.2]; exact h.ok rh (.bl _)
        · cases hb
      · cases hb
  · exact h.elim
theorem o_in (hu : X.A.units + 65 < cLine) : OpG X (compareOp .In) gIn := o_inB (neg := false) op_in_sign op_in_seq (op_inD hu)
theorem o_notIn (hu : X.A.units + 65 < cLine) : OpG X (compareOp .NotIn) gNotIn := o_inB (neg := true) op_notIn_sign op_notIn_seq (op_notInD hu)
end
end PL

/-! PL4: expressions, tests, subscripts, slices, calls of built-ins, methods. -/
namespace PL
open PySem PySem.Spec PyProof.Rows L2

section
variable {X : Cx} {a b c e o : Expr} {es : List Expr} {fa fb fc fe : PX} {fs : PAs} {ft fu : PL.PT} {pos : Pos}

/-! ### names, constants -/
theorem x_var (i : Nat) {x : Str} (hN : X.N[i]? = some x := by rfl) (hv : Vis X.env.scope x := by first | exact Or.inl rfl | exact Or.inr (Or.inl rfl) | exact Or.inr (Or.inr rfl)) (hd : (x == ("__debug__" : Str)) = false := by decide) (hcd : (x == ("__classdict__" : Str)) = false := by decide) : EX X (.Name x pos) (pVar i) := by
  refine pe_imp (pe_var hN hv hd hcd) fun σ H Q h => ?_
  obtain ⟨M, φ, ρ, rh, re, h⟩ := h
  unfold pVar at h
  split at h
  · rename_i v hv
    obtain ⟨x, h1, h2⟩ := re.at_ i v hv
    exact ⟨x, h1, h.ok rh h2⟩
  · exact h.elim
theorem x_c {v : V} {u : PV} (h : PE X e (tC v)) (r : ∀ M H, RV X.K M H u v) : EX X e (pC u) := pe_imp h fun σ H Q ⟨M, φ, ρ, rh, re, h⟩ => h.ok rh (r _ _)
theorem x_int {i j} : EX X (.Constant (.int i) j pos) (pC (.int i)) := x_c pe_int fun _ _ => .int i
theorem x_bl {b j} : EX X (.Constant (.bool b) j pos) (pC (.bl b)) := x_c pe_bl fun _ _ => .bl b
theorem x_non {j} : EX X (.Constant .none j pos) (pC .non) := x_c pe_non fun _ _ => .non
theorem x_str {z : Str} {s : List Nat} {j} (h : z.cps.toList = s := by rfl) (hc : (s.all (· < 0x110000)) = true := by rfl) : EX X (.Constant (.str z) j pos) (pC (.str s)) :=
  x_c pe_str fun _ _ => .str h fun c hm => of_decide_eq_true (List.all_eq_true.mp hc c hm)
/-- a constant of the module -/
theorem x_glob {x : Str} {v : V} {u : PV} {w : Value} (hg : Gl X x) (hm : X.mg x = some w) (rv : RelV v w) (r : ∀ M H, RV X.K M H u v) (hd : (x == ("__debug__" : Str)) = false := by decide) : EX X (.Name x pos) (pC u) := x_c (pe_glob hg hm rv hd) r

/-! ### operators -/
theorem bin_read {r : R2} {g : PV → PV → PHeap → R PV} (hr : ∀ M H φ u v x y Q, RH X.K M H φ → RV X.K M H u x → RV X.K M H v y → Po X.K (RV X.K) M H (g u v φ) Q → r x y H Q) :
    ∀ σ H Q, tE X.K (pBin g fa fb) σ H Q → tOp r (tE X.K fa) (tE X.K fb) σ H Q := by
  rintro σ H Q ⟨M, φ, ρ, rh, re, h⟩
  refine ⟨M, φ, ρ, rh, re, (Po.bind (rel := RV X.K) h).mono ?_⟩
  rintro x H1 ⟨M1, φ1, u, e1, rh1, ru, h1⟩
  refine ⟨M1, φ1, ρ, rh1, re.ext e1, (Po.bind (rel := RV X.K) h1).mono ?_⟩
  rintro y H2 ⟨M2, φ2, v, e2, rh2, rv, h2⟩
  exact hr M2 H2 φ2 u v x y Q rh2 (e2.val _ _ ru) rv h2
theorem x_op {op : Operator} {g : PV → PV → PHeap → R PV} (ho : OpG X (binaryOp op) g) (ha : EX X a fa) (hb : EX X b fb) : EX X (.BinOp a op b pos) (pBin g fa fb) := by
  obtain ⟨r, hr, hp⟩ := ho.ex
  exact pe_imp (pe_op hr ha hb) (bin_read hp)
theorem x_cmp {op : CmpOp} {g : PV → PV → PHeap → R PV} (ho : OpG X (compareOp op) g) (ha : EX X a fa) (hb : EX X b fb) (hm : behindInMarks op b = false := by first | exact nomark _ (by decide) (by decide) | rfl) : EX X (.Compare a [op] [b] pos) (pBin g fa fb) := by
  obtain ⟨r, hr, hp⟩ := ho.ex
  exact pe_imp (pe_cmpR hr ha hb hm) (bin_read hp)
/-- a reading of a value as a test -/
theorem tb_read {t : TE} {f : PX} (h : ∀ σ H Q, tE X.K f σ H Q → t σ H Q) : ∀ σ H Q, tT X.K (pTB f) σ H Q → t σ H fun x H' => ∃ k, x = .bl k ∧ Q k H' := by
  rintro σ H Q ⟨M, φ, ρ, rh, re, h1⟩
  refine h σ H _ ⟨M, φ, ρ, rh, re, (Po.bind (rel := RV X.K) h1).mono ?_⟩
  rintro x H1 ⟨M1, φ1, u, e1, rh1, ru, h2⟩
  cases u with
  | bl b => exact ⟨b, rv_bl ru, h2.ok rh1 rfl⟩
  | _ => exact h2.elim
theorem t_cmp {op : CmpOp} {g : PV → PV → PHeap → R PV} (ho : OpG X (compareOp op) g) (ha : EX X a fa) (hb : EX X b fb) (hm : behindInMarks op b = false := by first | exact nomark _ (by decide) (by decide) | rfl) : TX X (.Compare a [op] [b] pos) (pTB (pBin g fa fb)) := by
  obtain ⟨r, hr, hp⟩ := ho.ex
  exact pt_imp (pt_cmpR hr ha hb hm) (tb_read (bin_read hp))
theorem t_val (h : EX X e fe) (he : ∀ whole, isTrue e X.env whole = (do let v ← whole; standAt e.pos; holding [v] (truthy v)) := by intro _; rfl) : TX X e (pTB fe) := pt_imp (pt_val h he) (tb_read fun _ _ _ h => h)
theorem x_neg (ha : EX X a fa) : EX X (.UnaryOp .USub a pos) (pUn gNeg fa) := by
  refine pe_imp (pe_un un_neg ha) ?_
  rintro σ H Q ⟨M, φ, ρ, rh, re, h⟩
  refine ⟨M, φ, ρ, rh, re, (Po.bind (rel := RV X.K) h).mono ?_⟩
  rintro x H1 ⟨M1, φ1, u, e1, rh1, ru, h1⟩
  unfold gNeg at h1
  split at h1
  · exact ⟨_, rv_int ru, h1.ok rh1 (.int _)⟩
  · exact h1.elim
theorem x_not (ha : EX X a fa) : EX X (.UnaryOp .Not a pos) (pUn gNot fa) := by
  refine pe_imp (pe_not ha) ?_
  rintro σ H Q ⟨M, φ, ρ, rh, re, h⟩
  refine ⟨M, φ, ρ, rh, re, (Po.bind (rel := RV X.K) h).mono ?_⟩
  rintro x H1 ⟨M1, φ1, u, e1, rh1, ru, h1⟩
  unfold gNot at h1
  split at h1
  · exact ⟨_, rv_bl ru, h1.ok rh1 (.bl _)⟩
  · exact h1.elim

/-! ### tests -/
abbrev WX (X : Cx) (e : Expr) (f : PL.PT) : Prop := PW X e (tT X.K f)
variable {rest : List Expr}
theorem t_pw (h : WX X e ft) : TX X e ft := h.pt
theorem w_and1 (h : TX X a ft) : WX X (.BoolOp .And [a] pos) ft := pw_and1 h
theorem w_or1 (h : TX X a ft) : WX X (.BoolOp .Or [a] pos) ft := pw_or1 h
theorem w_and (ha : TX X a ft) (hb : WX X (.BoolOp .And (b :: rest) pos) fu) : WX X (.BoolOp .And (a :: b :: rest) pos) (PL.tAnd ft fu) := by
  refine pw_imp (pw_and ha hb) ?_
  rintro σ H Q ⟨M, φ, ρ, rh, re, h⟩
  refine ⟨M, φ, ρ, rh, re, (Po.bind (rel := relB) h).mono ?_⟩
  rintro x H1 ⟨M1, φ1, u, e1, rh1, ru, h1⟩
  cases ru
  cases x with
  | true => exact ite_tt ⟨M1, φ1, ρ, rh1, re.ext e1, h1⟩
  | false => exact ite_ff (h1.ok rh1 rfl)
theorem w_or (ha : TX X a ft) (hb : WX X (.BoolOp .Or (b :: rest) pos) fu) : WX X (.BoolOp .Or (a :: b :: rest) pos) (PL.tOr ft fu) := by
  refine pw_imp (pw_or ha hb) ?_
  rintro σ H Q ⟨M, φ, ρ, rh, re, h⟩
  refine ⟨M, φ, ρ, rh, re, (Po.bind (rel := relB) h).mono ?_⟩
  rintro x H1 ⟨M1, φ1, u, e1, rh1, ru, h1⟩
  cases ru
  cases x with
  | true => exact ite_tt (h1.ok rh1 rfl)
  | false => exact ite_ff ⟨M1, φ1, ρ, rh1, re.ext e1, h1⟩
theorem t_not (ha : TX X a ft) : TX X (.UnaryOp .Not a pos) (PL.tNot ft) := by
  refine pt_imp (pt_not ha) ?_
  rintro σ H Q ⟨M, φ, ρ, rh, re, h⟩
  refine ⟨M, φ, ρ, rh, re, (Po.bind (rel := relB) h).mono ?_⟩
  rintro x H1 ⟨M1, φ1, u, e1, rh1, ru, h1⟩
  cases ru
  exact h1.ok rh1 rfl
theorem x_one {op} (h : EX X a fa) : EX X (.BoolOp op [a] pos) fa := pe_one h
theorem x_and (ha : EX X a fa) (hb : EX X (.BoolOp .And (b :: rest) pos) fb) : EX X (.BoolOp .And (a :: b :: rest) pos) (pAnd fa fb) := by
  refine pe_imp (pe_and ha hb) ?_
  rintro σ H Q ⟨M, φ, ρ, rh, re, h⟩
  refine ⟨M, φ, ρ, rh, re, (Po.bind (rel := RV X.K) h).mono ?_⟩
  rintro x H1 ⟨M1, φ1, u, e1, rh1, ru, h1⟩
  split at h1
  · exact ⟨true, rv_bl ru, ite_tt ⟨M1, φ1, ρ, rh1, re.ext e1, h1⟩⟩
  · exact ⟨false, rv_bl ru, ite_ff (h1.ok rh1 (.bl _))⟩
  · exact h1.elim
theorem x_or (ha : EX X a fa) (hb : EX X (.BoolOp .Or (b :: rest) pos) fb) : EX X (.BoolOp .Or (a :: b :: rest) pos) (pOr fa fb) := by
  refine pe_imp (pe_or ha hb) ?_
  rintro σ H Q ⟨M, φ, ρ, rh, re, h⟩
  refine ⟨M, φ, ρ, rh, re, (Po.bind (rel := RV X.K) h).mono ?_⟩
  rintro x H1 ⟨M1, φ1, u, e1, rh1, ru, h1⟩
  split at h1
  · exact ⟨false, rv_bl ru, ite_ff ⟨M1, φ1, ρ, rh1, re.ext e1, h1⟩⟩
  · exact ⟨true, rv_bl ru, ite_tt (h1.ok rh1 (.bl _))⟩
  · exact h1.elim
theorem x_if (hc : TX X c ft) (ha : EX X a fa) (hb : EX X b fb) : EX X (.IfExp c a b pos) (pIf ft fa fb) := by
  refine pe_imp (pe_ifExp hc ha hb) ?_
  rintro σ H Q ⟨M, φ, ρ, rh, re, h⟩
  refine ⟨M, φ, ρ, rh, re, (Po.bind (rel := relB) h).mono ?_⟩
  rintro x H1 ⟨M1, φ1, u, e1, rh1, ru, h1⟩
  cases ru
  cases x with
  | true => exact ite_tt ⟨M1, φ1, ρ, rh1, re.ext e1, h1⟩
  | false => exact ite_ff ⟨M1, φ1, ρ, rh1, re.ext e1, h1⟩

/-! ### argument lists, displays -/
theorem a_nil : AX X [] pNil := by
  refine ⟨pa_imp pa_nil ?_, fun ρ φ vs φ' h => by cases h; rfl⟩
  rintro σ H Q ⟨M, φ, ρ, rh, re, h⟩
  exact h.ok rh .nil
theorem a_cons (ha : EX X e fe) (hr : AX X es fs) (hs : starEach (e :: es) X.env = (false, eval e X.env) :: starEach es X.env := by rfl) : AX X (e :: es) (pCons fe fs) := by
  refine ⟨pa_imp (pa_cons ha hr.pa hs) ?_, fun ρ φ vs φ' h => ?_⟩
  · rintro σ H Q ⟨M, φ, ρ, rh, re, h⟩
    refine ⟨M, φ, ρ, rh, re, (Po.bind (rel := RV X.K) h).mono ?_⟩
    rintro x H1 ⟨M1, φ1, u, e1, rh1, ru, h1⟩
    refine ⟨M1, φ1, ρ, rh1, re.ext e1, (Po.bind (rel := RVs X.K) h1).mono ?_⟩
    rintro ys H2 ⟨M2, φ2, vs, e2, rh2, rv, h2⟩
    exact h2.ok rh2 (.cons (e2.val _ _ ru) rv)
  · unfold pCons at h
    cases h1 : fe ρ φ with
    | ok v φ1 =>
      rw [h1] at h
      simp only [R.bind_ok] at h
      cases h2 : fs ρ φ1 with
      | ok us φ2 =>
        rw [h2] at h
        simp only [R.bind_ok] at h
        cases h
        rw [List.length_cons, List.length_cons, hr.len _ _ _ _ h2]
      | err _ _ => rw [h2] at h; cases h
      | bad => rw [h2] at h; cases h
    | err _ _ => rw [h1] at h; cases h
    | bad => rw [h1] at h; cases h
/-- the arguments, evaluated; how many -/
theorem args_read {M : Mp} {H : Hp} {φ : PHeap} {ρ : PL.Env} {k : List PV → PHeap → R PV} {Q : VK} (ha : AX X es fs) (h : Po X.K (RV X.K) M H ((fs ρ φ).bind k) Q) :
    Po X.K (RVs X.K) M H (fs ρ φ) fun xs H1 => ∃ M1 φ1 vs, Ext X.K M H M1 H1 ∧ RH X.K M1 H1 φ1 ∧ RVs X.K M1 H1 vs xs ∧ vs.length = es.length ∧ Po X.K (RV X.K) M1 H1 (k vs φ1) Q := by
  have hl := ha.len ρ φ
  cases e : fs ρ φ with
  | ok vs φ' =>
    rw [e] at h
    exact fun M' H' x e' rh rv => ⟨M', φ', vs, e', rh, rv, hl _ _ e, Po.ext e' h⟩
  | err _ _ => rw [e] at h; exact h
  | bad => rw [e] at h; exact h
theorem x_tup {x1} (h : AX X es fs) (hz : es.length ≤ sizeLine := by decide) : EX X (.Tuple es x1 pos) (pTup fs) := by
  refine pe_imp (pe_tup h.pa) ?_
  rintro σ H Q ⟨M, φ, ρ, rh, re, q⟩
  refine ⟨M, φ, ρ, rh, re, (args_read h q).mono ?_⟩
  rintro xs H1 ⟨M1, φ1, vs, e1, rh1, rv, hl, h1⟩
  exact ⟨by rw [← rv.length, hl]; exact hz, new_tup rh1 rv h1⟩
theorem x_lstG {m : Bool} (h : AX X es fs) (hz : es.length ≤ sizeLine := by decide) : EX X (.List es pos) (fun ρ φ => (fs ρ φ).bind fun vs φ1 => mkList m vs φ1) := by
  refine pe_imp (pe_lst h.pa) ?_
  rintro σ H Q ⟨M, φ, ρ, rh, re, q⟩
  refine ⟨M, φ, ρ, rh, re, (args_read h q).mono ?_⟩
  rintro xs H1 ⟨M1, φ1, vs, e1, rh1, rv, hl, h1⟩
  exact ⟨by rw [← rv.length, hl]; exact hz, new_list rh1 rv h1⟩
theorem x_lst (h : AX X es fs) (hz : es.length ≤ sizeLine := by decide) : EX X (.List es pos) (pLst fs) := x_lstG (m := false) h hz
theorem x_lstC (h : AX X es fs) (hz : es.length ≤ sizeLine := by decide) : EX X (.List es pos) (pLstC fs) := x_lstG (m := true) h hz

/-! ### subscripts, slices -/
theorem atI_pyIx {α : Type} (xs : List α) (i : Int) : atI xs i = pyIx xs i := by
  unfold atI ixN pyIx
  by_cases h : 0 ≤ i
  · rw [if_pos h, if_pos h]
    by_cases h2 : i < xs.length
    · rw [if_pos h2]; rfl
    · rw [if_neg h2]
      exact (List.getElem?_eq_none (by omega)).symm
  · rw [if_neg h, if_neg h]
    by_cases h2 : -(xs.length : Int) ≤ i
    · rw [if_pos h2, if_pos h2]; rfl
    · rw [if_neg h2, if_neg h2]; rfl
theorem pyIx_map {α β : Type} {F : α → β → Prop} {xs : List α} {vs : List β} (hl : xs.length = vs.length) (hg : ∀ (i : Nat) (x : α), xs[i]? = some x → ∃ v, vs[i]? = some v ∧ F x v) {i : Int} {x : α} (h : pyIx xs i = some x) : ∃ v, pyIx vs i = some v ∧ F x v := by
  unfold pyIx at h ⊢
  by_cases h0 : 0 ≤ i
  · rw [if_pos h0] at h ⊢; exact hg _ _ h
  · rw [if_neg h0] at h ⊢
    rw [← hl]
    by_cases h2 : -(xs.length : Int) ≤ i
    · rw [if_pos h2] at h ⊢; exact hg _ _ h
    · rw [if_neg h2] at h; cases h
theorem pyIx_mem {α : Type} {xs : List α} {i : Int} {x : α} (h : pyIx xs i = some x) : x ∈ xs := by
  unfold pyIx at h
  split at h
  · exact List.mem_of_getElem? h
  · split at h
    · exact List.mem_of_getElem? h
    · cases h
theorem x_ix (ha : EX X a fa) (hb : EX X b fb) (hs : PlainIx b := by exact fun _ _ => rfl) : EX X (.Subscript a b pos) (pBin gIx fa fb) := by
  refine pe_imp (pe_ix (ix_list.or (ix_tup.or ix_str)) ha hb hs) (bin_read fun M H φ u v x y Q rh ru rv h => ?_)
  unfold gIx at h
  split at h
  · cases rv
    split at h
    · obtain ⟨z, rfl, e1, c1⟩ := rv_str ru
      split at h
      · rename_i hz
        split at h
        · rename_i c hc
          refine .inr (.inr ⟨z, _, c, rfl, rfl, by rw [str_len e1]; exact hz, by rw [atI_pyIx, e1]; exact hc, h.ok rh (.str rfl fun d hd => ?_)⟩)
          have hd : d = c := by simpa using hd
          subst hd
          exact c1 d (pyIx_mem hc)
        · exact h.elim
      · exact h.elim
    · split at h
      · rename_i xs hx
        split at h
        · rename_i z hz
          obtain ⟨p, vs, rfl, hp, r⟩ := rv_seq rh ru hx
          obtain ⟨w, hw, rw'⟩ := pyIx_map (F := RV X.K M H) r.length (fun i x hx => r.get hx) hz
          rcases hp with hp | hp
          · exact .inl ⟨p, vs, _, w, rfl, rfl, hp, by rw [atI_pyIx]; exact hw, h.ok rh rw'⟩
          · exact .inr (.inl ⟨p, vs, _, w, rfl, rfl, hp, by rw [atI_pyIx]; exact hw, h.ok rh rw'⟩)
        · exact h.elim
      · exact h.elim
  · exact h.elim
theorem o_none : OX X none poN := by
  refine po_imp po_none ?_
  rintro σ H Q ⟨M, φ, ρ, rh, re, h⟩
  exact h.ok rh rfl
theorem o_some (h : EX X e fe) : OX X (some e) (poS fe) := by
  refine po_imp (po_some h) ?_
  rintro σ H Q ⟨M, φ, ρ, rh, re, h⟩
  refine ⟨M, φ, ρ, rh, re, (Po.bind (rel := RV X.K) h).mono ?_⟩
  rintro x H1 ⟨M1, φ1, u, e1, rh1, ru, h1⟩
  split at h1
  · exact ⟨_, rv_int ru, h1.ok rh1 rfl⟩
  · exact h1.elim
theorem sIx_cut (n d : Nat) (o : Option Int) : HT.sIx n d o = cutAt n d o := by cases o <;> rfl
theorem cutV_cutL (xs : List V) (lo hi : Option Int) : cutV xs lo hi = cutL xs lo hi := by
  unfold cutV cutL
  simp only [sIx_cut]
theorem RVs.cut {K : PySem.W.Frag} {M : Mp} {H : Hp} {xs : List PV} {vs : List V} (r : RVs K M H xs vs) (lo hi : Option Int) : RVs K M H (cutL xs lo hi) (cutL vs lo hi) := by
  unfold cutL
  rw [← r.length]
  exact (r.drop _).take _
theorem x_sl {m : Bool} {lo hi : Option Expr} {fl fh : PL.PO} {p2 : Pos} (ha : EX X a fa) (hl : OX X lo fl) (hh : OX X hi fh) : EX X (.Subscript a (.Slice lo hi none p2) pos) (pSl (gSl m) fa fl fh) := by
  refine pe_imp (pe_slice (sl_str.or (sl_tupA.or sl_list)) ha hl hh) ?_
  rintro σ H Q ⟨M, φ, ρ, rh, re, h⟩
  refine ⟨M, φ, ρ, rh, re, (Po.bind (rel := RV X.K) h).mono ?_⟩
  rintro x H1 ⟨M1, φ1, u, e1, rh1, ru, h1⟩
  refine ⟨M1, φ1, ρ, rh1, re.ext e1, (Po.bind (rel := relI) h1).mono ?_⟩
  rintro l0 H2 ⟨M2, φ2, l, e2, rh2, el, h2⟩
  have el : l = l0 := el
  subst el
  refine ⟨M2, φ2, ρ, rh2, (re.ext e1).ext e2, (Po.bind (rel := relI) h2).mono ?_⟩
  rintro r0 H3 ⟨M3, φ3, r, e3, rh3, er, h3⟩
  have er : r = r0 := er
  subst er
  have ru := e3.val _ _ (e2.val _ _ ru)
  unfold gSl at h3
  split at h3
  · obtain ⟨z, rfl, f1, c1⟩ := rv_str ru
    split at h3
    · rename_i s hz
      refine .inl ⟨z, rfl, by rw [str_len f1]; exact hz, h3.ok rh3 (.str ?_ fun c hc => c1 c ?_)⟩
      · unfold cutS cutL
        simp only [sIx_cut, f1, str_len f1]
      · unfold cutL at hc
        exact List.mem_of_mem_drop (List.mem_of_mem_take hc)
    · exact h3.elim
  · rename_i xs _
    obtain ⟨p, vs, rfl, hp, rr⟩ := rv_tup ru
    refine .inr (.inl ⟨p, vs, rfl, hp, fun q => ?_, fun _ => ?_⟩)
    · have ew : cutL xs l r = xs := by
        rw [sIx_cut, sIx_cut, ← rr.length] at q
        unfold cutL
        rw [q.1, q.2, List.drop_zero, Nat.sub_zero, List.take_length]
      rw [ew] at h3
      exact h3.ok rh3 ru
    · rw [cutV_cutL]
      exact new_tup rh3 (rr.cut _ _) h3
  · split at h3
    · rename_i xs hx
      obtain ⟨p, vs, rfl, hp, rr⟩ := rv_list rh3 ru hx
      refine .inr (.inr ⟨p, vs, rfl, SqL.of hp, ?_⟩)
      rw [cutV_cutL]
      exact new_list rh3 (rr.cut _ _) h3
    · exact h3.elim
end

/-! ### built-ins -/
structure CallG (X : Cx) (f : Value) (g : List PV → PHeap → R PV) : Prop where
  ex : ∃ r, CallR X f r ∧ ∀ M H φ us xs Q, RH X.K M H φ → RVs X.K M H us xs → Po X.K (RV X.K) M H (g us φ) Q → r xs H Q
section
variable {X : Cx} {a b c e o : Expr} {es : List Expr} {fa fb fc fe : PX} {fs : PAs} {pos p : Pos} {g : List PV → PHeap → R PV}
theorem call_read {r : List V → Hp → VK → Prop} (ha : AX X es fs) (hp : ∀ M H φ us xs Q, RH X.K M H φ → RVs X.K M H us xs → Po X.K (RV X.K) M H (g us φ) Q → r xs H Q) :
    ∀ σ H Q, tE X.K (pCall g fs) σ H Q → tA X.K fs σ H fun xs H1 => r xs H1 Q := by
  rintro σ H Q ⟨M, φ, ρ, rh, re, h⟩
  refine ⟨M, φ, ρ, rh, re, (args_read ha h).mono ?_⟩
  rintro xs H1 ⟨M1, φ1, vs, e1, rh1, rv, _, h1⟩
  exact hp _ _ _ _ _ _ rh1 rv h1
theorem x_b {id : String} {x : Str} (hc : CallG X (.builtin id) g) (hg : Gl X x) (hm : X.mg x = none) (hv : bootBuiltins x = some (.builtin id)) (ha : AX X (e :: es) fs) (hn : x ≠ "__name__" := by decide) (hdb : (x == ("__debug__" : Str)) = false := by decide)
    (he : starEach (e :: es) X.env = (false, eval e X.env) :: starEach es X.env := by rfl) (hpl : (backTo pos (starEach es X.env)).any (·.1) = false := by rfl) : EX X (.Call (.Name x p) (e :: es) [] pos) (pCall g fs) := by
  obtain ⟨r, hr, hp⟩ := hc.ex
  exact pe_imp (pe_callB hr hg hm hv ha.pa hn hdb he hpl) (call_read ha hp)
theorem x_ty {T : String} {x : Str} (hc : CallG X (.type T) g) (hg : Gl X x) (hm : X.mg x = none) (hv : bootBuiltins x = some (.type T)) (ha : AX X (e :: es) fs) (hn : x ≠ "__name__" := by decide) (hdb : (x == ("__debug__" : Str)) = false := by decide)
    (he : starEach (e :: es) X.env = (false, eval e X.env) :: starEach es X.env := by rfl) (hpl : (backTo pos (starEach es X.env)).any (·.1) = false := by rfl) : EX X (.Call (.Name x p) (e :: es) [] pos) (pCall g fs) := by
  obtain ⟨r, hr, hp⟩ := hc.ex
  exact pe_imp (pe_callTy hr hg hm hv ha.pa hn hdb he hpl) (call_read ha hp)
end
/-! pure built-ins -/
def gLen (us : List PV) (φ : PHeap) : R PV := match us with
  | [u] => match u with
    | .str s => if s.length ≤ sizeLine then .ok (.int s.length) φ else .bad
    | .scr ns => .ok (.int ns.length) φ
    | _ => match seqOf φ u with
      | some xs => .ok (.int xs.length) φ
      | none => .bad
  | _ => .bad
def gAbs (us : List PV) (φ : PHeap) : R PV := match us with
  | [.int i] => .ok (.int (if i < 0 then -i else i)) φ
  | _ => .bad
def gMax2 (us : List PV) (φ : PHeap) : R PV := match us with
  | [.int i, .int j] => .ok (.int (if j > i then j else i)) φ
  | _ => .bad
def gMin2 (us : List PV) (φ : PHeap) : R PV := match us with
  | [.int i, .int j] => .ok (.int (if j < i then j else i)) φ
  | _ => .bad
def gInt (us : List PV) (φ : PHeap) : R PV := match us with
  | [.int i] => .ok (.int i) φ
  | [.bl b] => .ok (.int (if b then 1 else 0)) φ
  | _ => .bad
/-- list(x) -/
def gListOf (m : Bool) (us : List PV) (φ : PHeap) : R PV := match us with
  | [.scr ns] => mkList m (ns.map .int) φ
  | [u] => match seqOf φ u with
    | some xs => mkList m xs φ
    | none => .bad
  | _ => .bad
def gTupOf (us : List PV) (φ : PHeap) : R PV := match us with
  | [u] => match seqOf φ u with
    | some xs => .ok (.tup xs) φ
    | none => .bad
  | _ => .bad
section
variable {X : Cx}
theorem rvs1 {K : PySem.W.Frag} {M : Mp} {H : Hp} {u : PV} {xs : List V} (r : RVs K M H [u] xs) : ∃ x, xs = [x] ∧ RV K M H u x := by
  cases r with | cons a b => cases b; exact ⟨_, rfl, a⟩
theorem rvs2 {K : PySem.W.Frag} {M : Mp} {H : Hp} {u v : PV} {xs : List V} (r : RVs K M H [u, v] xs) : ∃ x y, xs = [x, y] ∧ RV K M H u x ∧ RV K M H v y := by
  cases r with | cons a b => cases b with | cons b c => cases c; exact ⟨_, _, rfl, a, b⟩
theorem c_len : CallG X (.builtin "len") gLen := by
  refine ⟨_, call_len, fun M H φ us xs Q rh r h => ?_⟩
  unfold gLen at h
  split at h
  · obtain ⟨x, rfl, r1⟩ := rvs1 r
    split at h
    · obtain ⟨z, rfl, e1, c1⟩ := rv_str r1
      split at h
      · rename_i hz
        exact ⟨_, _, rfl, ⟨by rw [str_len e1]; exact hz, rfl⟩, by rw [str_len e1]; exact h.ok rh (.int _)⟩
      · exact h.elim
    · obtain ⟨a, rfl, hq⟩ := scr_sql r1
      exact ⟨_, _, rfl, .inl ⟨_, hq, rfl⟩, by rw [List.length_map]; exact h.ok rh (.int _)⟩
    · split at h
      · rename_i ys hy
        obtain ⟨p, vs, rfl, hp, rs⟩ := rv_seq rh r1 hy
        refine ⟨_, vs.length, rfl, hp.elim (fun q => .inl ⟨vs, q, rfl⟩) (fun q => .inr ⟨vs, q, rfl⟩), ?_⟩
        rw [← rs.length]; exact h.ok rh (.int _)
      · exact h.elim
  · exact h.elim
theorem c_abs : CallG X (.builtin "abs") gAbs := by
  refine ⟨_, call_abs, fun M H φ us xs Q rh r h => ?_⟩
  unfold gAbs at h
  split at h
  · obtain ⟨x, rfl, r1⟩ := rvs1 r
    exact ⟨_, by rw [rv_int r1], h.ok rh (.int _)⟩
  · exact h.elim
theorem c_max2 (hc : X.calm = true := by rfl) : CallG X (.builtin "max") gMax2 := by
  refine ⟨_, call_max2 hc, fun M H φ us xs Q rh r h => ?_⟩
  unfold gMax2 at h
  split at h
  · obtain ⟨x, y, rfl, r1, r2⟩ := rvs2 r
    exact ⟨_, _, by rw [rv_int r1, rv_int r2], h.ok rh (.int _)⟩
  · exact h.elim
theorem c_min2 (hc : X.calm = true := by rfl) : CallG X (.builtin "min") gMin2 := by
  refine ⟨_, call_min2 hc, fun M H φ us xs Q rh r h => ?_⟩
  unfold gMin2 at h
  split at h
  · obtain ⟨x, y, rfl, r1, r2⟩ := rvs2 r
    exact ⟨_, _, by rw [rv_int r1, rv_int r2], h.ok rh (.int _)⟩
  · exact h.elim
theorem c_int : CallG X (.type "int") gInt := by
  refine ⟨_, call_int1, fun M H φ us xs Q rh r h => ?_⟩
  unfold gInt at h
  split at h
  · obtain ⟨x, rfl, r1⟩ := rvs1 r
    exact .inl ⟨_, by rw [rv_int r1], h.ok rh (.int _)⟩
  · obtain ⟨x, rfl, r1⟩ := rvs1 r
    exact .inr ⟨_, by rw [rv_bl r1], h.ok rh (.int _)⟩
  · exact h.elim
theorem c_list {m : Bool} : CallG X (.type "list") (gListOf m) := by
  refine ⟨_, call_list_of, fun M H φ us xs Q rh r h => ?_⟩
  unfold gListOf at h
  split at h
  · obtain ⟨x, rfl, r1⟩ := rvs1 r
    obtain ⟨a, rfl, hq⟩ := scr_sql r1
    exact ⟨a, _, rfl, .inl hq, new_list rh (RVs.ints _) h⟩
  · obtain ⟨x, rfl, r1⟩ := rvs1 r
    split at h
    · rename_i ys hy
      obtain ⟨p, vs, rfl, hp, rs⟩ := rv_seq rh r1 hy
      exact ⟨p, vs, rfl, hp, new_list rh rs h⟩
    · exact h.elim
  · exact h.elim
theorem c_tuple : CallG X (.type "tuple") gTupOf := by
  refine ⟨_, call_tuple_of, fun M H φ us xs Q rh r h => ?_⟩
  unfold gTupOf at h
  split at h
  · obtain ⟨x, rfl, r1⟩ := rvs1 r
    split at h
    · rename_i ys hy
      obtain ⟨p, vs, rfl, hp, rs⟩ := rv_seq rh r1 hy
      refine ⟨p, vs, rfl, hp.elim (fun q => .inl ⟨q, new_tup rh rs h⟩) fun q => .inr ⟨q, h.ok rh (.tup q rs)⟩⟩
    · exact h.elim
  · exact h.elim
end

/-! ### isinstance of written built-in classes -/
def cellTy : Option Cell → String
  | some (.lst _) => "list"
  | some (.dct _) => "dict"
  | _ => ""
def tyName : PV → PHeap → String
  | .non, _ => "NoneType"
  | .bl _, _ => "bool"
  | .int _, _ => "int"
  | .str _, _ => "str"
  | .tup _, _ => "tuple"
  | .lst _, _ => "list"
  | .scr _, _ => "list"
  | .loc k, φ => cellTy φ[k]?
/-- isinstance(x, T), T a written class: str, int, tuple, bool, list -/
def isI (T : String) (t : String) : Bool := t == T || (T == "int" && t == "bool")
def gIs (T : String) (u : PV) (φ : PHeap) : R PV := if tyName u φ = "" then .bad else .ok (.bl (isI T (tyName u φ))) φ
def pIs (T : String) (a : PX) : PX := fun ρ φ => (a ρ φ).bind fun u φ1 => gIs T u φ1
section
variable {X : Cx} {a b : Expr} {fa : PX} {pos p p2 : Pos}
theorem ty_of {K : PySem.W.Frag} {M : Mp} {H : Hp} {φ : PHeap} {u : PV} {x : V} (rh : RH K M H φ) (r : RV K M H u x) (hn : tyName u φ ≠ "") : TyX K H x (.type (tyName u φ)) := by
  cases r with
  | non => exact .base .non
  | bl b => exact .base (.bl b)
  | int i => exact .base (.int i)
  | str _ _ => exact .base (.str _)
  | @tup a xs vs hs _ =>
    rcases hs with (h | ⟨o, h⟩) | ⟨o, its, n, hk, hc, _⟩
    · exact .base (.tup h)
    · exact .fTuple h
    · exact .kTuple hk hc
  | lst h _ _ => exact .base (.lst h)
  | scr h _ =>
    rcases h with h | ⟨o, h⟩
    · exact .base (.lst h)
    · exact .base (.frz h)
  | @scrK a ns h =>
    rcases h (fun _ => none) with (h | ⟨o, h⟩) | ⟨o, its, n, hk, hc, _⟩
    · cases h
    · cases h
    · exact .kList hk hc
  | @loc k a hk =>
    simp only [tyName] at hn ⊢
    cases e : φ[k]? with
    | none => rw [e] at hn; exact absurd rfl hn
    | some c =>
      cases c with
      | lst xs =>
        obtain ⟨vs, h1, _⟩ := rh_at rh hk e
        exact .base (.lst h1)
      | dct kvs =>
        obtain ⟨b, h1, h2⟩ := rh.cell k _ e
        exact h2.elim
      | ins c fs => rw [e] at hn; exact absurd rfl hn
theorem kit_is {K : PySem.W.Frag} {T t : String} (hT : T = "str" ∨ T = "tuple" ∨ T = "int" ∨ T = "bool" ∨ T = "list") (ht : t = "NoneType" ∨ t = "bool" ∨ t = "int" ∨ t = "str" ∨ t = "tuple" ∨ t = "list" ∨ t = "dict") : PySem.W.kitOne K (.type t) (.type T) = some (isI T t) := by
  rcases hT with rfl | rfl | rfl | rfl | rfl <;> rcases ht with rfl | rfl | rfl | rfl | rfl | rfl | rfl <;> exact kit_ty (by decide +kernel)
theorem tyName_in (u : PV) (φ : PHeap) (hn : tyName u φ ≠ "") : tyName u φ = "NoneType" ∨ tyName u φ = "bool" ∨ tyName u φ = "int" ∨ tyName u φ = "str" ∨ tyName u φ = "tuple" ∨ tyName u φ = "list" ∨ tyName u φ = "dict" := by
  cases u with
  | loc k =>
    simp only [tyName] at hn ⊢
    cases e : φ[k]? with
    | none => rw [e] at hn; exact absurd rfl hn
    | some c =>
      cases c with
      | lst xs => simp [cellTy]
      | dct kvs => simp [cellTy]
      | ins c fs => rw [e] at hn; exact absurd rfl hn
  | _ => simp [tyName]
theorem x_isi {T : String} {x : Str} (hT : T = "str" ∨ T = "tuple" ∨ T = "int" ∨ T = "bool" ∨ T = "list") (hg : Gl X "isinstance") (hm : X.mg "isinstance" = none) (hb : bootBuiltins "isinstance" = some (.builtin "isinstance")) (hgT : Gl X x) (hmT : X.mg x = none) (hbT : bootBuiltins x = some (.type T)) (ha : EX X a fa)
    (hn : x ≠ "__name__" := by decide) (hd : (x == ("__debug__" : Str)) = false := by decide)
    (hs : starEach [a, .Name x p2] X.env = (false, eval a X.env) :: starEach [.Name x p2] X.env := by rfl) (hs2 : starEach [.Name x p2] X.env = (false, eval (.Name x p2) X.env) :: starEach [] X.env := by rfl) (hpl : (backTo pos (starEach [.Name x p2] X.env)).any (·.1) = false := by rfl) :
    EX X (.Call (.Name "isinstance" p) [a, .Name x p2] [] pos) (pIs T fa) := by
  refine pe_imp (pe_callB call_isi hg hm hb (pa_cons ha (pa_cons (pe_bltn (v := .ty T) hgT hmT hbT rfl hn hd) pa_nil hs2) hs) (by decide) (by decide) hs hpl) ?_
  rintro σ H Q ⟨M, φ, ρ, rh, re, h⟩
  refine ⟨M, φ, ρ, rh, re, (Po.bind (rel := RV X.K) h).mono ?_⟩
  rintro x H1 ⟨M1, φ1, u, e1, rh1, ru, h1⟩
  unfold gIs at h1
  split at h1
  · exact h1.elim
  · rename_i hz
    exact ⟨x, .ty T, _, _, _, rfl, .ty T, ty_of rh1 ru hz, kit_is hT (tyName_in u φ1 hz), h1.ok rh1 (.bl _)⟩
end
end PL

/-! PL5: methods of lists and texts, what is walked, comprehensions. -/
namespace PL
open PySem PySem.Spec PyProof.Rows L2

/-! ### methods -/
/-- o.m(as) of a list -/
def pLm (g : PV → List PV → PHeap → R PV) (o : PX) (as : PAs) : PX := fun ρ φ => (o ρ φ).bind fun u φ1 => match listOf φ1 u with
  | some _ => (as ρ φ1).bind fun vs φ2 => g u vs φ2
  | none => .bad
def gAppend (u : PV) (vs : List PV) (φ : PHeap) : R PV := match u, vs with
  | .loc k, [v] => match φ[k]? with
    | some (.lst xs) => if xs.length < sizeLine then .ok .non (φ.set k (.lst (xs ++ [v]))) else .bad
    | _ => .bad
  | _, _ => .bad
def gPop (u : PV) (vs : List PV) (φ : PHeap) : R PV := match u, vs with
  | .loc k, [] => match φ[k]? with
    | some (.lst xs) => match xs[xs.length - 1]? with
      | some x => .ok x (φ.set k (.lst xs.dropLast))
      | none => .bad
    | _ => .bad
  | _, _ => .bad
def gPopAt (u : PV) (vs : List PV) (φ : PHeap) : R PV := match u, vs with
  | .loc k, [.int i] => match φ[k]? with
    | some (.lst xs) => if smallI i then (match ixN xs.length i with
      | some j => match xs[j]? with
        | some x => .ok x (φ.set k (.lst (xs.eraseIdx j)))
        | none => .bad
      | none => .bad) else .bad
    | _ => .bad
  | _, _ => .bad
def gInsert (u : PV) (vs : List PV) (φ : PHeap) : R PV := match u, vs with
  | .loc k, [.int i, v] => match φ[k]? with
    | some (.lst xs) => if xs.length < sizeLine ∧ 0 ≤ i ∧ smallI i then .ok .non (φ.set k (.lst (xs.take i.toNat ++ [v] ++ xs.drop i.toNat))) else .bad
    | _ => .bad
  | _, _ => .bad
def gReverse (u : PV) (vs : List PV) (φ : PHeap) : R PV := match u, vs with
  | .loc k, [] => match φ[k]? with
    | some (.lst xs) => .ok .non (φ.set k (.lst xs.reverse))
    | _ => .bad
  | _, _ => .bad
def gExtend (u : PV) (vs : List PV) (φ : PHeap) : R PV := match u, vs with
  | .loc k, [w] => match φ[k]?, listOf φ w with
    | some (.lst xs), some ys => if xs.length + ys.length ≤ sizeLine then .ok .non (φ.set k (.lst (xs ++ ys))) else .bad
    | _, _ => .bad
  | _, _ => .bad
structure MetG (X : Cx) (id : String) (g : PV → List PV → PHeap → R PV) : Prop where
  ex : ∃ r, MtR X id r ∧ ∀ M H φ u us x xs Q, RH X.K M H φ → RV X.K M H u x → RVs X.K M H us xs → Po X.K (RV X.K) M H (g u us φ) Q → r x xs H Q
section
variable {X : Cx} {a b c e o : Expr} {es : List Expr} {fo fe : PX} {fs : PAs} {pos cpos apos p : Pos} {name : Str} {id : String} {g : PV → List PV → PHeap → R PV}
theorem x_lm (hm : MetG X id g) (pa : PlainAttrs "list") (slot : Slot "list" name id) (hty : typeOf (.builtin id) = pure (.type "method_descriptor")) (ho : EX X o fo) (ha : AX X (e :: es) fs)
    (hbase : attributeBase o name X.env (eval o X.env) = eval o X.env := by rfl)
    (hfew : ((backTo cpos (starEach (e :: es) X.env)).all (fun x => !x.1) && (backToKw cpos (keywordEach [] X.env)).all (fun x => x.1.isSome)
      && decide ((e :: es).length + ([] : List Keyword).length + (if ([] : List Keyword).isEmpty then 0 else 1) < 30)) = true := by rfl)
    (hline : (apos.endLine == cpos.line) = true := by rfl) (hs : starEach (e :: es) X.env = (false, eval e X.env) :: starEach es X.env := by rfl) (hplain : (backTo cpos (starEach es X.env)).any (·.1) = false := by rfl) :
    EX X (.Call (.Attribute o name apos) (e :: es) [] cpos) (pLm g fo fs) := by
  obtain ⟨r, hr, hp⟩ := hm.ex
  refine pe_imp (pe_bm pa slot hty hr ho ha.pa hbase hfew hline hs hplain) ?_
  rintro σ H Q ⟨M, φ, ρ, rh, re, h⟩
  refine ⟨M, φ, ρ, rh, re, (Po.bind (rel := RV X.K) h).mono ?_⟩
  rintro x H1 ⟨M1, φ1, u, e1, rh1, ru, h1⟩
  split at h1
  · rename_i xs hx
    obtain ⟨q, vs, rfl, hq, _⟩ := rv_list rh1 ru hx
    refine ⟨.inl ⟨rfl, vs, SqL.of hq⟩, M1, φ1, ρ, rh1, re.ext e1, (args_read ha h1).mono ?_⟩
    rintro xs H2 ⟨M2, φ2, vs, e2, rh2, rv, _, h2⟩
    exact hp _ _ _ _ _ _ _ _ rh2 (e2.val _ _ ru) rv h2
  · exact h1.elim
theorem x_lm0 (hm : MetG X id g) (pa : PlainAttrs "list") (slot : Slot "list" name id) (hty : typeOf (.builtin id) = pure (.type "method_descriptor")) (ho : EX X o fo)
    (hbase : attributeBase o name X.env (eval o X.env) = eval o X.env := by rfl) (hline : (apos.endLine == cpos.line) = true := by rfl) :
    EX X (.Call (.Attribute o name apos) [] [] cpos) (pLm g fo pNil) := by
  obtain ⟨r, hr, hp⟩ := hm.ex
  refine pe_imp (pe_bm0 pa slot hty hr ho hbase hline) ?_
  rintro σ H Q ⟨M, φ, ρ, rh, re, h⟩
  refine ⟨M, φ, ρ, rh, re, (Po.bind (rel := RV X.K) h).mono ?_⟩
  rintro x H1 ⟨M1, φ1, u, e1, rh1, ru, h1⟩
  split at h1
  · rename_i xs hx
    obtain ⟨q, vs, rfl, hq, _⟩ := rv_list rh1 ru hx
    exact ⟨.inl ⟨rfl, vs, SqL.of hq⟩, hp _ _ _ _ _ _ _ _ rh1 ru .nil h1⟩
  · exact h1.elim
/-- a cell is changed by a rule -/
theorem po_set {K : PySem.W.Frag} {M : Mp} {H : Hp} {φ : PHeap} {k : Nat} {a : Addr} {xs zs : List PV} {vs : List V} {u : PV} {x : V} {Q : VK} (rh : RH K M H φ) (hk : M.loc k = some a) (hx : φ[k]? = some (.lst zs)) (r : RVs K M H xs vs) (ru : RV K M H u x)
    (h : Po K (RV K) M H (.ok u (φ.set k (.lst xs))) Q) : Q x (upd H a (.lst vs)) :=
  h M _ _ (ext_set rh hk) (rh_set rh hk (lt_of_get hx) r) ((ext_set rh hk).val _ _ ru)
theorem rv_loc {K : PySem.W.Frag} {M : Mp} {H : Hp} {k : Nat} {x : V} (r : RV K M H (.loc k) x) : ∃ a, x = .ref a ∧ M.loc k = some a := by cases r; exact ⟨_, rfl, by assumption⟩
theorem m_append : MetG X "list.append" gAppend := by
  refine ⟨_, mt_append, fun M H φ u us x xs Q rh ru rus h => ?_⟩
  unfold gAppend at h
  split at h
  · obtain ⟨a, rfl, hk⟩ := rv_loc ru
    obtain ⟨y, rfl, ry⟩ := rvs1 rus
    split at h
    · rename_i zs hz
      obtain ⟨vs, h1, r⟩ := rh_at rh hk hz
      split at h
      · rename_i hl
        exact ⟨a, vs, y, rfl, rfl, h1, by rw [← r.length]; exact hl, po_set rh hk hz (r.append (.cons ry .nil)) .non h⟩
      · exact h.elim
    · exact h.elim
  · exact h.elim
theorem m_pop : MetG X "list.pop" gPop := by
  refine ⟨_, mt_pop, fun M H φ u us x xs Q rh ru rus h => ?_⟩
  unfold gPop at h
  split at h
  · obtain ⟨a, rfl, hk⟩ := rv_loc ru
    cases rus
    split at h
    · rename_i zs hz
      obtain ⟨vs, h1, r⟩ := rh_at rh hk hz
      split at h
      · rename_i y hy
        obtain ⟨w, hw, rw'⟩ := r.get hy
        rw [r.length] at hw
        refine ⟨a, vs, w, rfl, rfl, h1, hw, po_set rh hk hz ?_ rw' h⟩
        rw [List.dropLast_eq_take, List.dropLast_eq_take, ← r.length]
        exact r.take _
      · exact h.elim
    · exact h.elim
  · exact h.elim
theorem m_popAt : MetG X "list.pop" gPopAt := by
  refine ⟨_, mt_popAt, fun M H φ u us x xs Q rh ru rus h => ?_⟩
  unfold gPopAt at h
  split at h
  · obtain ⟨a, rfl, hk⟩ := rv_loc ru
    obtain ⟨y, rfl, ry⟩ := rvs1 rus
    split at h
    · rename_i zs hz
      obtain ⟨vs, h1, r⟩ := rh_at rh hk hz
      split at h
      · rename_i hi
        split at h
        · rename_i j hj
          split at h
          · rename_i y2 hy
            obtain ⟨w, hw, rw'⟩ := r.get hy
            obtain ⟨s1, s2, s3, s4⟩ := ixN_seq hj
            rw [r.length] at s1
            have hi := hi
            unfold smallI at hi
            exact ⟨a, vs, _, j, w, rfl, by rw [rv_int ry], h1, by omega, by omega, s1, hw, po_set rh hk hz (r.eraseIdx _) rw' h⟩
          · exact h.elim
        · exact h.elim
      · exact h.elim
    · exact h.elim
  · exact h.elim
theorem m_insert : MetG X "list.insert" gInsert := by
  refine ⟨_, mt_insert, fun M H φ u us x xs Q rh ru rus h => ?_⟩
  unfold gInsert at h
  split at h
  · obtain ⟨a, rfl, hk⟩ := rv_loc ru
    obtain ⟨y, z, rfl, ry, rz⟩ := rvs2 rus
    split at h
    · rename_i zs hz
      obtain ⟨vs, h1, r⟩ := rh_at rh hk hz
      split at h
      · rename_i hl
        obtain ⟨l1, l2, l3⟩ := hl
        unfold smallI at l3
        exact ⟨a, vs, _, z, rfl, by rw [rv_int ry], h1, by rw [← r.length]; exact l1, l2, by omega, po_set rh hk hz (((r.take _).append (.cons rz .nil)).append (r.drop _)) .non h⟩
      · exact h.elim
    · exact h.elim
  · exact h.elim
theorem m_reverse : MetG X "list.reverse" gReverse := by
  refine ⟨_, mt_reverse, fun M H φ u us x xs Q rh ru rus h => ?_⟩
  unfold gReverse at h
  split at h
  · obtain ⟨a, rfl, hk⟩ := rv_loc ru
    cases rus
    split at h
    · rename_i zs hz
      obtain ⟨vs, h1, r⟩ := rh_at rh hk hz
      exact ⟨a, vs, rfl, rfl, h1, po_set rh hk hz r.reverse .non h⟩
    · exact h.elim
  · exact h.elim
theorem m_extend : MetG X "list.extend" gExtend := by
  refine ⟨_, mt_extend, fun M H φ u us x xs Q rh ru rus h => ?_⟩
  unfold gExtend at h
  split at h
  · obtain ⟨a, rfl, hk⟩ := rv_loc ru
    obtain ⟨y, rfl, ry⟩ := rvs1 rus
    split at h
    · rename_i zs ys hz hy
      obtain ⟨vs, h1, r⟩ := rh_at rh hk hz
      obtain ⟨b, ws, rfl, h2, r2⟩ := rv_list rh ry hy
      split at h
      · rename_i hl
        exact ⟨a, b, vs, ws, rfl, rfl, h1, h2, by rw [← r.length, ← r2.length]; exact hl, po_set rh hk hz (r.append r2) .non h⟩
      · exact h.elim
    · exact h.elim
  · exact h.elim
/-- xs.append(e) and so on, short -/
theorem x_append (ho : EX X o fo) (ha : AX X (e :: es) fs) (hbase : attributeBase o "append" X.env (eval o X.env) = eval o X.env := by rfl)
    (hfew : ((backTo cpos (starEach (e :: es) X.env)).all (fun x => !x.1) && (backToKw cpos (keywordEach [] X.env)).all (fun x => x.1.isSome)
      && decide ((e :: es).length + ([] : List Keyword).length + (if ([] : List Keyword).isEmpty then 0 else 1) < 30)) = true := by rfl)
    (hline : (apos.endLine == cpos.line) = true := by rfl) (hs : starEach (e :: es) X.env = (false, eval e X.env) :: starEach es X.env := by rfl) (hplain : (backTo cpos (starEach es X.env)).any (·.1) = false := by rfl) :
    EX X (.Call (.Attribute o "append" apos) (e :: es) [] cpos) (pLm gAppend fo fs) := x_lm m_append PySem.F.plainAttrs_list PySem.F.slot_list_append PySem.F.type_list_append ho ha hbase hfew hline hs hplain
end

/-! ### texts -/
def strsOf : List PV → Option (List (List Nat))
  | [] => some []
  | .str s :: r => match strsOf r with
    | some ss => some (s :: ss)
    | none => none
  | _ => none
def joinL (sep : List Nat) : List (List Nat) → List Nat
  | [] => []
  | [s] => s
  | s :: t :: r => s ++ (sep ++ joinL sep (t :: r))
theorem joinL_TL (sep : List Nat) : ∀ ss, TL.joinL sep ss = joinL sep ss
  | [] => rfl
  | [_] => rfl
  | s :: t :: r => by
    show s ++ (sep ++ TL.joinL sep (t :: r)) = s ++ (sep ++ joinL sep (t :: r))
    rw [joinL_TL sep (t :: r)]
/-- sep.join(xs) -/
def gJoin (u v : PV) (φ : PHeap) : R PV := match u with
  | .str a => match seqOf φ v with
    | some xs => match strsOf xs with
      | some ss => if (ss.map (·.length)).sum + ss.length * a.length ≤ 16777216 then .ok (.str (joinL a ss)) φ else .bad
      | none => .bad
    | none => .bad
  | _ => .bad
def pJoin (o a : PX) : PX := fun ρ φ => (o ρ φ).bind fun u φ1 => match u with
  | .str s => (a ρ φ1).bind fun v φ2 => gJoin (.str s) v φ2
  | _ => .bad
section
variable {X : Cx} {a b c e o : Expr} {fo fe : PX} {pos apos p : Pos}
theorem strs_of {K : PySem.W.Frag} {M : Mp} {H : Hp} : ∀ {xs : List PV} {vs : List V} {ss : List (List Nat)}, RVs K M H xs vs → strsOf xs = some ss → ∃ ys : List Str, vs = ys.map V.str ∧ ys.map (fun y => y.cps.toList) = ss ∧ ∀ s ∈ ss, ∀ c ∈ s, c < 0x110000
  | [], [], _, .nil, h => by cases h; exact ⟨[], rfl, rfl, fun _ h => by cases h⟩
  | x :: xs, v :: vs, ss, .cons r rs, h => by
    cases x with
    | str s =>
      unfold strsOf at h
      split at h
      · rename_i tt ht
        cases h
        obtain ⟨ys, e1, e2, e3⟩ := strs_of rs ht
        obtain ⟨z, rfl, f1, f2⟩ := rv_str r
        refine ⟨z :: ys, by rw [e1]; rfl, by rw [List.map_cons, f1, e2], fun t ht => ?_⟩
        rcases List.mem_cons.mp ht with rfl | ht
        · exact f2
        · exact e3 t ht
      · cases h
    | _ => cases h
theorem join_tl (a : Str) (ys : List Str) : (Txt.join a ys).cps.toList = joinL a.cps.toList (ys.map fun y => y.cps.toList) := by
  rw [TL.join_eq]
  exact (TL.tl_join a ys).trans (joinL_TL _ _)
theorem joinL_mem {sep : List Nat} {c : Nat} : ∀ {ss : List (List Nat)}, c ∈ joinL sep ss → c ∈ sep ∨ ∃ s ∈ ss, c ∈ s
  | [], h => by cases h
  | [s], h => .inr ⟨s, List.mem_cons_self, h⟩
  | s :: t :: r, h => by
    unfold joinL at h
    rcases List.mem_append.mp h with h | h
    · exact .inr ⟨s, List.mem_cons_self, h⟩
    · rcases List.mem_append.mp h with h | h
      · exact .inl h
      · rcases joinL_mem h with h | ⟨u, h1, h2⟩
        · exact .inl h
        · exact .inr ⟨u, List.mem_cons_of_mem _ h1, h2⟩
theorem x_join (ho : EX X o fo) (he : EX X e fe) (hs : starEach [e] X.env = [(false, eval e X.env)] := by rfl) (hbase : attributeBase o "join" X.env (eval o X.env) = eval o X.env := by rfl) (hline : (apos.endLine == pos.line) = true := by rfl) :
    EX X (.Call (.Attribute o "join" apos) [e] [] pos) (pJoin fo fe) := by
  refine pe_imp (pe_join ho he hs hbase hline) ?_
  rintro σ H Q ⟨M, φ, ρ, rh, re, h⟩
  refine ⟨M, φ, ρ, rh, re, (Po.bind (rel := RV X.K) h).mono ?_⟩
  rintro x H1 ⟨M1, φ1, u, e1, rh1, ru, h1⟩
  split at h1
  · rename_i s _
    obtain ⟨z, rfl, f1, c1⟩ := rv_str ru
    refine ⟨⟨z, rfl⟩, M1, φ1, ρ, rh1, re.ext e1, (Po.bind (rel := RV X.K) h1).mono ?_⟩
    rintro y H2 ⟨M2, φ2, v, e2, rh2, rv, h2⟩
    simp only [gJoin] at h2
    split at h2
    · rename_i xs hx
      split at h2
      · rename_i ss hss
        split at h2
        · rename_i hz
          obtain ⟨p, vs, rfl, hp, r⟩ := rv_seq rh2 rv hx
          obtain ⟨ys, rfl, g1, g2⟩ := strs_of r hss
          refine ⟨z, p, ys, rfl, rfl, hp, ?_, h2.ok rh2 (.str ?_ fun c hc => ?_)⟩
          · have e3 : ys.map (·.length) = ss.map (·.length) := by
              rw [← g1, List.map_map]
              refine List.map_congr_left fun y _ => ?_
              show y.cps.size = _
              simp
            have e4 : ys.length = ss.length := by rw [← g1, List.length_map]
            rw [e3, e4, str_len f1]; exact hz
          · rw [join_tl, f1, g1]
          · rcases joinL_mem hc with hc | ⟨t, h3, h4⟩
            · exact c1 c hc
            · exact g2 t h3 c h4
        · exact h2.elim
      · exact h2.elim
    · exact h2.elim
  · exact h1.elim
end

/-! ### what is walked -/
def ItOk (K : PySem.W.Frag) (M0 : Mp) (H0 : Hp) (J : It) (xs : List PV) (g : Option Nat) : Prop :=
  ∀ M H φ, Ext K M0 H0 M H → RH K M H φ → still g xs φ = true →
    (∀ i, i < xs.length → J.go i H ∧ ∀ x H', J.yld i H x H' → ∃ M' v, xs[i]? = some v ∧ Ext K M H M' H' ∧ RH K M' H' φ ∧ RV K M' H' v x) ∧ J.stop xs.length H
abbrev relJ (K : PySem.W.Frag) : Mp → Hp → List PV × Option Nat → It → Prop := fun M H p J => ItOk K M H J p.1 p.2
def tI (K : PySem.W.Frag) (it : PL.PI) : TI := fun σ H R => ∃ M φ ρ, RH K M H φ ∧ RE K M H ρ σ ∧ Po K (relJ K) M H (it ρ φ) R
abbrev IX (X : Cx) (tg iter : Expr) (it : PL.PI) : Prop := L2.PI X tg iter (tI X.K it)
section
variable {X : Cx} {tg a b : Expr} {fa fb : PX} {pos p : Pos}
theorem still_list {xs : List PV} {k : Nat} {φ : PHeap} (h : still (some k) xs φ = true) : φ[k]? = some (.lst xs) := by
  unfold still at h
  simp only at h
  split at h
  · assumption
  · cases h
theorem itok_list {K : PySem.W.Frag} {M0 : Mp} {H0 : Hp} {a : Addr} {xs : List PV} {g : Option Nat} (hq : ∀ M H φ, Ext K M0 H0 M H → RH K M H φ → still g xs φ = true → ∃ vs, SqL K H a vs ∧ RVs K M H xs vs) : ItOk K M0 H0 (Itl K a) xs g := by
  intro M H φ e rh st
  obtain ⟨vs, hs, r⟩ := hq M H φ e rh st
  refine ⟨fun i hi => ?_, vs, hs, by rw [r.length]; exact Nat.le_refl _⟩
  obtain ⟨v, hv, rv⟩ := r.get (List.getElem?_eq_getElem hi)
  refine ⟨⟨vs, v, hs, hv⟩, fun x H' y => ?_⟩
  obtain ⟨rfl, y⟩ := y
  have := y vs hs
  rw [hv] at this
  cases this
  exact ⟨M, _, List.getElem?_eq_getElem hi, .refl, rh, rv⟩
theorem itok_tup {K : PySem.W.Frag} {M0 : Mp} {H0 : Hp} {a : Addr} {xs : List PV} {g : Option Nat} (hq : ∀ M H φ, Ext K M0 H0 M H → RH K M H φ → still g xs φ = true → ∃ vs, SqT K H a vs ∧ RVs K M H xs vs) : ItOk K M0 H0 (Itt K a) xs g := by
  intro M H φ e rh st
  obtain ⟨vs, hs, r⟩ := hq M H φ e rh st
  refine ⟨fun i hi => ?_, vs, hs, by rw [r.length]; exact Nat.le_refl _⟩
  obtain ⟨v, hv, rv⟩ := r.get (List.getElem?_eq_getElem hi)
  refine ⟨⟨vs, v, hs, hv⟩, fun x H' y => ?_⟩
  obtain ⟨rfl, y⟩ := y
  have := y vs hs
  rw [hv] at this
  cases this
  exact ⟨M, _, List.getElem?_eq_getElem hi, .refl, rh, rv⟩
theorem itok_range {K : PySem.W.Frag} {M0 : Mp} {H0 : Hp} (lo : Int) (n : Nat) : ItOk K M0 H0 (Itr lo n) (intsFrom lo n) none := by
  intro M H φ e rh st
  have hl : (intsFrom lo n).length = n := by unfold intsFrom; simp
  refine ⟨fun i hi => ⟨by rw [hl] at hi; exact hi, fun x H' y => ?_⟩, by show n ≤ _; rw [hl]; exact Nat.le_refl _⟩
  obtain ⟨rfl, rfl⟩ := y
  rw [hl] at hi
  exact ⟨M, .int (lo + i), by unfold intsFrom; simp [hi], .refl, rh, .int _⟩
theorem itok_str {K : PySem.W.Frag} {M0 : Mp} {H0 : Hp} {z : Str} {s : List Nat} (h1 : z.cps.toList = s) (h2 : ∀ c ∈ s, c < 0x110000) : ItOk K M0 H0 (Its z) (s.map fun c => .str [c]) none := by
  intro M H φ e rh st
  have hl : z.cps.size = s.length := by rw [← h1]; simp
  have hl2 : (s.map fun c => PV.str [c]).length = s.length := List.length_map _
  refine ⟨fun i hi => ⟨by rw [hl2] at hi; show i < z.cps.size; omega, fun x H' y => ?_⟩, by show z.cps.size ≤ _; omega⟩
  obtain ⟨rfl, c, hc, rfl⟩ := y
  have hc' : s[i]? = some c := by rw [← h1, Array.getElem?_toList]; exact hc
  refine ⟨M, .str [c], by rw [List.getElem?_map, hc']; rfl, .refl, rh, .str rfl fun d hd => ?_⟩
  have hd : d = c := by simpa using hd
  rw [hd]; exact h2 c (List.mem_of_getElem? hc')
theorem i_seq (ha : EX X a fa) : IX X tg a (iSeq fa) := by
  refine ⟨fun pins s σ H R I h => ?_⟩
  obtain ⟨M, φ, ρ, rh, re, h⟩ := h
  unfold iSeq at h
  -- by what the value is
  have key : ∀ (t : TI), L2.PI X tg a t → (t σ H R) → wpAny (model X.prog X.w) X.A (eval a X.env) (fun v s1 => wpAny (model X.prog X.w) X.A (pyIter v) (PIE X pins σ tg R) X.xe s1) X.xe s := fun t ht q => ht.run pins s σ H R I q
  cases e : fa ρ φ with
  | err _ _ => rw [e] at h; exact h.elim
  | bad => rw [e] at h; exact h.elim
  | ok u φ1 =>
    rw [e] at h
    simp only [PL.R.bind_ok] at h
    cases u with
    | tup xs =>
      refine key _ (pi_tup ha) ⟨M, φ, ρ, rh, re, ?_⟩
      rw [e]
      intro M1 H1 x e1 rh1 ru
      obtain ⟨p, vs, rfl, hp, r⟩ := rv_tup ru
      refine ⟨p, rfl, ⟨vs, hp⟩, h M1 H1 _ e1 rh1 (itok_tup fun M2 H2 φ2 e2 rh2 _ => ?_)⟩
      obtain ⟨q, ws, e3, hq, r2⟩ := rv_tup (e2.val _ _ ru)
      cases e3
      exact ⟨ws, hq, r2⟩
    | lst xs =>
      refine key _ (pi_list ha) ⟨M, φ, ρ, rh, re, ?_⟩
      rw [e]
      intro M1 H1 x e1 rh1 ru
      obtain ⟨p, vs, rfl, hp, r⟩ := rv_list rh1 ru (rfl : listOf φ1 (.lst xs) = some xs)
      refine ⟨p, rfl, ⟨vs, SqL.of hp⟩, h M1 H1 _ e1 rh1 (itok_list fun M2 H2 φ2 e2 rh2 _ => ?_)⟩
      obtain ⟨q, ws, e3, hq, r2⟩ := rv_list rh2 (e2.val _ _ ru) (rfl : listOf φ2 (.lst xs) = some xs)
      cases e3
      exact ⟨ws, SqL.of hq, r2⟩
    | scr ns =>
      refine key _ (pi_list ha) ⟨M, φ, ρ, rh, re, ?_⟩
      rw [e]
      intro M1 H1 x e1 rh1 ru
      obtain ⟨p, rfl, hp⟩ := scr_sql ru
      refine ⟨p, rfl, ⟨_, hp⟩, h M1 H1 _ e1 rh1 (itok_list fun M2 H2 φ2 e2 rh2 _ => ?_)⟩
      obtain ⟨q, e3, hq⟩ := scr_sql (e2.val _ _ ru)
      cases e3
      exact ⟨_, hq, RVs.ints _⟩
    | str t =>
      refine key _ (pi_str ha) ⟨M, φ, ρ, rh, re, ?_⟩
      rw [e]
      intro M1 H1 x e1 rh1 ru
      obtain ⟨z, rfl, f1, f2⟩ := rv_str ru
      exact ⟨z, rfl, h M1 H1 _ e1 rh1 (itok_str f1 f2)⟩
    | loc k =>
      simp only [itemsOf] at h
      split at h
      · rename_i xs hxs
        split at hxs
        · rename_i ys hy
          cases hxs
          refine key _ (pi_list ha) ⟨M, φ, ρ, rh, re, ?_⟩
          rw [e]
          intro M1 H1 x e1 rh1 ru
          obtain ⟨p, vs, rfl, hp, r⟩ := rv_list (xs := xs) rh1 ru (by simp only [listOf]; rw [hy])
          refine ⟨p, rfl, ⟨vs, SqL.of hp⟩, h M1 H1 _ e1 rh1 (itok_list fun M2 H2 φ2 e2 rh2 st => ?_)⟩
          obtain ⟨q, ws, e3, hq, r2⟩ := rv_list (xs := xs) rh2 (e2.val _ _ ru) (by simp only [listOf]; rw [still_list st])
          cases e3
          exact ⟨ws, SqL.of hq, r2⟩
        · cases hxs
      · exact h.elim
    | non => exact h.elim
    | bl _ => exact h.elim
    | int _ => exact h.elim
theorem i_range1 (hg : Gl X "range") (hm : X.mg "range" = none) (ha : EX X a fa) (hs : starEach [a] X.env = [(false, eval a X.env)] := by rfl) : IX X tg (.Call (.Name "range" p) [a] [] pos) (iRange1 fa) := by
  have pa : PA X [a] (tCons (tE X.K fa) L2.tNil) := pa_cons ha pa_nil (by rw [hs]; rfl)
  refine ⟨fun pins s σ H R I h => (pi_range1 hg hm pa hs).run pins s σ H R I ?_⟩
  obtain ⟨M, φ, ρ, rh, re, h⟩ := h
  unfold iRange1 at h
  refine ⟨M, φ, ρ, rh, re, (Po.bind (rel := RV X.K) h).mono ?_⟩
  rintro x H1 ⟨M1, φ1, u, e1, rh1, ru, h1⟩
  split at h1
  · split at h1
    · rename_i j hj
      unfold smallI at hj
      exact ⟨j, by rw [rv_int ru], hj.1, hj.2, h1.ok rh1 (itok_range _ _)⟩
    · exact h1.elim
  · exact h1.elim
theorem i_range2 (hg : Gl X "range") (hm : X.mg "range" = none) (ha : EX X a fa) (hb : EX X b fb) (hs : starEach [a, b] X.env = [(false, eval a X.env), (false, eval b X.env)] := by rfl) (hs2 : starEach [b] X.env = [(false, eval b X.env)] := by rfl) :
    IX X tg (.Call (.Name "range" p) [a, b] [] pos) (iRange2 fa fb) := by
  have pa : PA X [a, b] (tCons (tE X.K fa) (tCons (tE X.K fb) L2.tNil)) := pa_cons ha (pa_cons hb pa_nil (by rw [hs2]; rfl)) (by rw [hs, hs2])
  refine ⟨fun pins s σ H R I h => (pi_range2 hg hm pa hs hs2).run pins s σ H R I ?_⟩
  obtain ⟨M, φ, ρ, rh, re, h⟩ := h
  unfold iRange2 at h
  refine ⟨M, φ, ρ, rh, re, (Po.bind (rel := RV X.K) h).mono ?_⟩
  rintro x H1 ⟨M1, φ1, u, e1, rh1, ru, h1⟩
  refine ⟨M1, φ1, ρ, rh1, re.ext e1, (Po.bind (rel := RV X.K) h1).mono ?_⟩
  rintro y H2 ⟨M2, φ2, v, e2, rh2, rv, h2⟩
  split at h2
  · split at h2
    · rename_i i j hj
      unfold smallI at hj
      have rx := rv_int (e2.val _ _ ru)
      have ry := rv_int rv
      subst rx; subst ry
      exact ⟨_, _, rfl, ⟨hj.1.1, hj.1.2, hj.2.1, hj.2.2⟩, h2.ok rh2 (itok_range _ _)⟩
    · exact h2.elim
  · exact h2.elim
end
end PL

/-! PL6: targets, comprehensions, statements, loops, functions. -/
namespace PL
open PySem PySem.Spec PyProof.Rows L2

/-! ### targets -/
def tG (K : PySem.W.Frag) (g : PL.PG) : TG := fun v σ H Q => ∃ M φ ρ u, RH K M H φ ∧ RE K M H ρ σ ∧ RV K M H u v ∧
  match g u ρ φ with
  | .nx ρ' φ' => ∀ M' H' σ', Ext K M H M' H' → RH K M' H' φ' → RE K M' H' ρ' σ' → Q σ' H'
  | _ => False
def tGs (K : PySem.W.Frag) (g : List PV → Env → PHeap → O) : TGs := fun vs σ H Q => ∃ M φ ρ us, RH K M H φ ∧ RE K M H ρ σ ∧ RVs K M H us vs ∧
  match g us ρ φ with
  | .nx ρ' φ' => ∀ M' H' σ', Ext K M H M' H' → RH K M' H' φ' → RE K M' H' ρ' σ' → Q σ' H'
  | _ => False
abbrev GX (X : Cx) (tg : Expr) (g : PL.PG) : Prop := L2.PG X tg (tG X.K g)
abbrev GsX (X : Cx) (ts : List Expr) (g : List PV → Env → PHeap → O) : Prop := L2.PGs X ts (tGs X.K g)
theorem pg_imp {X : Cx} {e : Expr} {t t' : TG} (h : L2.PG X e t) (i : ∀ v σ H Q, t' v σ H Q → t v σ H Q) : L2.PG X e t' := ⟨fun pins s σ H v u Q I r q => h.run pins s σ H v u Q I r (i _ _ _ _ q)⟩
theorem pgs_imp {X : Cx} {e : List Expr} {t t' : TGs} (h : L2.PGs X e t) (i : ∀ v σ H Q, t' v σ H Q → t v σ H Q) : L2.PGs X e t' := ⟨fun pins s σ H v u Q I r q => h.run pins s σ H v u Q I r (i _ _ _ _ q)⟩
theorem RE.set {K : PySem.W.Frag} {M : Mp} {H : Hp} {ρ : Env} {σ : L2.St} {u : PV} {v : V} (r : RE K M H ρ σ) (i : Nat) (h : RV K M H u v) : RE K M H (ρ.set i (some u)) (σ.set i (some v)) := by
  refine ⟨by rw [List.length_set, List.length_set]; exact r.len, fun j w e => ?_⟩
  by_cases hj : j = i
  · subst hj
    by_cases hlt : j < ρ.length
    · rw [List.getElem?_set_self hlt] at e
      cases e
      exact ⟨v, by rw [List.getElem?_set_self (by rw [← r.len]; exact hlt)], h⟩
    · rw [List.getElem?_eq_none (by rw [List.length_set]; omega)] at e; cases e
  · rw [List.getElem?_set_ne (Ne.symm hj)] at e ⊢
    exact r.at_ j w e
section
variable {X : Cx} {pos : Pos}
theorem g_var {i : Nat} {x : Str} (hN : X.N.Nodup) (hi : X.N[i]? = some x := by rfl) (hx : Loc X.env.scope x := by first | exact Or.inl rfl | exact Or.inr rfl) (hf : X.fn x = true ∨ X.env.scope.names.lookup x = some .local := by first | exact .inl rfl | exact .inr rfl) : GX X (.Name x pos) (gVar i) := by
  refine pg_imp (pg_name hN hi hx hf) ?_
  rintro v σ H Q ⟨M, φ, ρ, u, rh, re, ru, h⟩
  exact h M H _ .refl rh (re.set i ru)
theorem gs_nil : GsX X [] gNils := by
  refine pgs_imp pgs_nil ?_
  rintro v σ H Q ⟨M, φ, ρ, u, rh, re, ru, h⟩
  cases ru with
  | nil => exact ⟨rfl, h M H _ .refl rh re⟩
  | cons _ _ => exact h.elim
theorem gs_cons {e : Expr} {es : List Expr} {g : PL.PG} {r : List PV → Env → PHeap → O} (h1 : GX X e g) (h2 : GsX X es r) (hs : (assignEach (e :: es) X.env).map (·.2) = assign e X.env :: (assignEach es X.env).map (·.2) := by rfl) : GsX X (e :: es) (PL.gCons g r) := by
  refine pgs_imp (pgs_cons h1 h2 hs) ?_
  rintro vs σ H Q ⟨M, φ, ρ, us, rh, re, ru, h⟩
  cases ru with
  | nil => exact h.elim
  | cons a b =>
    simp only [PL.gCons] at h
    refine ⟨_, _, rfl, M, φ, ρ, _, rh, re, a, ?_⟩
    split at h
    · rename_i ρ' φ' e
      split at e
      · rename_i ρ1 φ1 e1
        try rw [e1]
        intro M1 H1 σ1 x1 rh1 re1
        refine ⟨M1, φ1, ρ1, _, rh1, re1, x1.vals b, ?_⟩
        rw [e]
        exact fun M2 H2 σ2 x2 => h M2 H2 σ2 (x1.trans x2)
      · cases e
    · exact h.elim
/-- (a, b) = t, t a tuple -/
theorem g_tup {es : List Expr} {k : Nat} {g : List PV → Env → PHeap → O} {n : Nat} (hc : X.calm = true) (h : GsX X es g) (hg : ∀ us ρ φ, us.length ≠ n → g us ρ φ = .bad)
    (hn : (assignEach es X.env).length = n := by rfl) (hst : (assignEach es X.env).findIdx? (·.1) = none := by rfl) : GX X (.Tuple es k pos) (gTup g) := by
  refine pg_imp (pg_tup hc h hn hst) ?_
  rintro v σ H Q ⟨M, φ, ρ, u, rh, re, ru, h⟩
  cases u with
  | tup xs =>
    obtain ⟨a, vs, rfl, hs, r⟩ := rv_tup ru
    simp only [gTup] at h
    refine ⟨a, vs, rfl, hs, ?_, M, φ, ρ, xs, rh, re, r, h⟩
    rw [← r.length]
    by_cases q : xs.length = n
    · exact q
    · rw [hg _ _ _ q] at h; exact h.elim
  | _ => exact h.elim
end
theorem gNils_len : ∀ us ρ φ, us.length ≠ 0 → gNils us ρ φ = .bad
  | [], _, _, h => absurd rfl h
  | _ :: _, _, _, _ => rfl
theorem gCons_len {g : PL.PG} {r : List PV → Env → PHeap → O} {n : Nat} (h : ∀ us ρ φ, us.length ≠ n → r us ρ φ = .bad) : ∀ us ρ φ, us.length ≠ n + 1 → PL.gCons g r us ρ φ = .bad
  | [], _, _, _ => rfl
  | x :: us, ρ, φ, q => by
    simp only [PL.gCons]
    split
    · exact h _ _ _ (fun z => q (by rw [List.length_cons, z]))
    · rfl

/-! ### comprehensions -/
section
variable {K : PySem.W.Frag} {M M1 : Mp} {H H1 : Hp} {φ : PHeap}
/-- a list under way at D -/
theorem at_D {D : Addr} {o : HO} (rh : RH K M H φ) (hD : M.own D) (hl : ∀ k, M.loc k ≠ some D) (ch : Chg o) : (∀ u v, RV K M H u v → RV K M (upd H D o) u v) ∧ RH K M (upd H D o) φ := by
  -- as ext_of, with D left out of what is to stay
  have no : ∀ {a}, ¬ M.own a → a ≠ D := fun h z => h (by rw [z]; exact hD)
  have tupok : ∀ a vs, SqT K H a vs → SqT K (upd H D o) a vs := fun a vs h => by
    obtain ⟨w, e, c⟩ := rh.ownl D hD
    rcases h with (h | ⟨q, h⟩) | h
    · refine .inl (.inl ?_)
      rw [upd_ne]; exact h
      intro z; rw [z, e] at h; cases h; exact c
    · refine .inl (.inr ⟨q, ?_⟩)
      rw [upd_ne]; exact h
      intro z; rw [z, e] at h; cases h; exact c
    · exact .inr h
  have val : ∀ u v, RV K M H u v → RV K M (upd H D o) u v := fun u v h =>
    RV.rec (K := K) (M := M) (H := H) (motive_1 := fun u v _ => RV K M (upd H D o) u v) (motive_2 := fun us vs _ => RVs K M (upd H D o) us vs) .non .bl .int (fun h1 h2 => .str h1 h2)
      (fun hs _ ih => .tup (tupok _ _ hs) ih) (fun ha hn _ ih => .lst (by rw [upd_ne (no hn)]; exact ha) hn ih)
      (fun hs hn => .scr (hs.elim (fun h => .inl (by rw [upd_ne (no hn)]; exact h)) fun ⟨q, h⟩ => .inr ⟨q, by rw [upd_ne (no hn)]; exact h⟩) hn) .scrK .loc .nil (fun _ _ a b => .cons a b) h
  refine ⟨val, ⟨fun k c h => ?_, rh.dom, rh.inj, rh.own, fun a h => ?_, fun a h => ?_⟩⟩
  · obtain ⟨a, h1, h2⟩ := rh.cell k c h
    refine ⟨a, h1, ?_⟩
    have ha : upd H D o a = H a := upd_ne fun z => hl k (z ▸ h1)
    cases c with
    | lst xs => obtain ⟨vs, e1, e2⟩ := h2; exact ⟨vs, by rw [ha]; exact e1, RVs.map (F := fun _ _ => True) val e2⟩
    | dct _ => exact h2.elim
    | ins _ _ => exact h2.elim
  · by_cases q : a = D
    · rw [q, upd_same]; intro z; cases z
    · rw [upd_ne q]; exact rh.ownd a h
  · by_cases q : a = D
    · rw [q, upd_same]; exact ⟨_, rfl, ch⟩
    · rw [upd_ne q]; exact rh.ownl a h
/-- D is begun -/
theorem begin_D {D : Addr} (rh : RH K M H φ) (hD : H D = none) : Ext K M H ⟨M.loc, fun a => a = D ∨ M.own a⟩ (upd H D (.lst [])) ∧ RH K ⟨M.loc, fun a => a = D ∨ M.own a⟩ (upd H D (.lst [])) φ := by
  have hl : ∀ k, M.loc k ≠ some D := fun k z => rh.ownd D (rh.own k D z) hD
  have e : Ext K M H ⟨M.loc, fun a => a = D ∨ M.own a⟩ (upd H D (.lst [])) := by
    refine ext_of rh (fun _ _ h => h) (fun a h => ?_) (fun a o h _ => by rw [upd_ne (ne_of_none h hD)]; exact h) (fun a h1 h2 => ⟨.inr h1, h2, ?_⟩)
    · rcases h with h | h
      · exact .inr (.inl (by rw [h]; exact hD))
      · exact .inl h
    · obtain ⟨o, e, _⟩ := rh.ownl a h1
      rw [upd_ne (ne_of_none e hD)]
  refine ⟨e, ⟨fun k c h => ?_, rh.dom, rh.inj, fun k a h => .inr (rh.own k a h), fun a h => ?_, fun a h => ?_⟩⟩
  · obtain ⟨a, h1, h2⟩ := rh.cell k c h
    exact ⟨a, h1, h2.ext e (upd_ne fun z => hl k (z ▸ h1))⟩
  · rcases h with h | h
    · rw [h, upd_same]; intro z; cases z
    · obtain ⟨o, e, _⟩ := rh.ownl a h
      rw [upd_ne (ne_of_none e hD)]; exact rh.ownd a h
  · rcases h with h | h
    · rw [h, upd_same]; exact ⟨_, rfl, True.intro⟩
    · obtain ⟨o, e, c⟩ := rh.ownl a h
      rw [upd_ne (ne_of_none e hD)]; exact ⟨o, e, c⟩
/-- D is done: a value -/
theorem end_val {D : Addr} {xs : List PV} {vs : List V} (rh : RH K M H φ) (hD : M.own D) (hl : ∀ k, M.loc k ≠ some D) (he : H D = some (.lst vs)) (r : RVs K M H xs vs) :
    ∃ M', (∀ u v, RV K M H u v → RV K M' H u v) ∧ (∀ a, M.own a → a ≠ D → M'.own a) ∧ M'.loc = M.loc ∧ RH K M' H φ ∧ RV K M' H (.lst xs) (.ref D) := by
  have val : ∀ u v, RV K M H u v → RV K ⟨M.loc, fun a => a ≠ D ∧ M.own a⟩ H u v := fun u v h => rv_down (M := ⟨M.loc, fun a => a ≠ D ∧ M.own a⟩) (M' := M) (n := φ.length) (fun _ _ _ h => h) (fun a h => h.2) h (rv_below rh h)
  refine ⟨⟨M.loc, fun a => a ≠ D ∧ M.own a⟩, val, fun a h q => ⟨q, h⟩, rfl, ⟨fun k c h => ?_, rh.dom, rh.inj, fun k a h => ⟨fun z => hl k (z ▸ h), rh.own k a h⟩, fun a h => rh.ownd a h.2, fun a h => rh.ownl a h.2⟩, .lst he (fun z => z.1 rfl) (RVs.map (F := fun _ _ => True) val r)⟩
  obtain ⟨a, h1, h2⟩ := rh.cell k c h
  refine ⟨a, h1, ?_⟩
  cases c with
  | lst xs => obtain ⟨vs, e1, e2⟩ := h2; exact ⟨vs, e1, RVs.map (F := fun _ _ => True) val e2⟩
  | dct _ => exact h2.elim
  | ins _ _ => exact h2.elim
/-- .. a cell -/
theorem end_cell {D : Addr} {xs : List PV} {vs : List V} (rh : RH K M H φ) (hD : M.own D) (hl : ∀ k, M.loc k ≠ some D) (he : H D = some (.lst vs)) (r : RVs K M H xs vs) :
    ∃ M', (∀ u v, RV K M H u v → RV K M' H u v) ∧ (∀ a, M.own a → M'.own a) ∧ (∀ k a, M'.loc k = some a → a = D ∨ M.loc k = some a) ∧ RH K M' H (φ ++ [.lst xs]) ∧ M'.loc φ.length = some D := by
  let M' : Mp := ⟨fun j => if j = φ.length then some D else M.loc j, M.own⟩
  have lk : ∀ k a, M'.loc k = some a → (k = φ.length ∧ a = D) ∨ (k ≠ φ.length ∧ M.loc k = some a) := fun k a z => by
    have z : (if k = φ.length then some D else M.loc k) = some a := z
    by_cases q : k = φ.length
    · rw [if_pos q] at z; exact .inl ⟨q, (Option.some.inj z).symm⟩
    · rw [if_neg q] at z; exact .inr ⟨q, z⟩
  have up : ∀ k a, M.loc k = some a → M'.loc k = some a := fun k a h => by
    show (if k = φ.length then some D else M.loc k) = some a
    rw [if_neg]; exact h
    intro z
    rw [rh.dom k (Nat.le_of_eq z.symm)] at h; cases h
  have val : ∀ u v, RV K M H u v → RV K M' H u v := fun u v h =>
    RV.rec (K := K) (M := M) (H := H) (motive_1 := fun u v _ => RV K M' H u v) (motive_2 := fun us vs _ => RVs K M' H us vs) .non .bl .int (fun h1 h2 => .str h1 h2)
      (fun hs _ ih => .tup hs ih) (fun ha hn _ ih => .lst ha hn ih) (fun hs hn => .scr hs hn) .scrK (fun h => .loc (up _ _ h)) .nil (fun _ _ a b => .cons a b) h
  have hD' : M'.loc φ.length = some D := by
    show (if φ.length = φ.length then some D else M.loc φ.length) = some D
    rw [if_pos rfl]
  refine ⟨M', val, fun a h => h, fun k a h => ?_, ⟨fun k c h => ?_, fun k h => ?_, fun j k a h1 h2 => ?_, fun k a h => ?_, rh.ownd, rh.ownl⟩, hD'⟩
  · rcases lk k a h with ⟨_, q⟩ | ⟨_, q⟩
    · exact .inl q
    · exact .inr q
  · by_cases q : k < φ.length
    · rw [List.getElem?_append_left q] at h
      obtain ⟨a, h1, h2⟩ := rh.cell k c h
      refine ⟨a, up _ _ h1, ?_⟩
      cases c with
      | lst xs => obtain ⟨vs, e1, e2⟩ := h2; exact ⟨vs, e1, RVs.map (F := fun _ _ => True) val e2⟩
      | dct _ => exact h2.elim
      | ins _ _ => exact h2.elim
    · rw [List.getElem?_append_right (by omega)] at h
      have q2 : k - φ.length = 0 := by
        rcases Nat.eq_zero_or_pos (k - φ.length) with z | z
        · exact z
        · rw [List.getElem?_eq_none (by simp; omega)] at h; cases h
      rw [q2] at h
      cases h
      have q3 : k = φ.length := by omega
      exact ⟨D, by rw [q3]; exact hD', vs, he, RVs.map (F := fun _ _ => True) val r⟩
  · rw [List.length_append, List.length_singleton] at h
    show (if k = φ.length then some D else M.loc k) = none
    rw [if_neg (by omega)]; exact rh.dom k (by omega)
  · rcases lk _ _ h1 with ⟨a1, a2⟩ | ⟨a1, a2⟩ <;> rcases lk _ _ h2 with ⟨b1, b2⟩ | ⟨b1, b2⟩
    · rw [a1, b1]
    · rw [a2] at b2; exact absurd b2 (hl k)
    · rw [b2] at a2; exact absurd a2 (hl j)
    · exact rh.inj _ _ _ a2 b2
  · rcases lk _ _ h with ⟨_, a2⟩ | ⟨_, a2⟩
    · rw [a2]; exact hD
    · exact rh.own _ _ a2
end
abbrev TsX (X : Cx) (ifs : List Expr) (f : PL.PT) : Prop := PTs X ifs (tT X.K f)
section
variable {X : Cx} {tg iter elt c : Expr} {ifs : List Expr} {scope : Scope} {pos : Pos} {it : PL.PI} {t : PL.PT} {e : PX}
theorem ts_nil : TsX X [] PL.tYes := ⟨fun pins s σ H Q I ⟨M, φ, ρ, rh, re, h⟩ => pts_nil.run pins s σ H Q I (h.ok rh rfl)⟩
theorem ts_one (h : TX X c t) : TsX X [c] t := pts_one h
theorem set_none_set {α : Type} (σ : List (Option α)) (i : Nat) (v : α) : ((σ.set i none).set i (some v)).set i none = σ.set i none := by rw [List.set_set, List.set_set]
theorem lc_read {m : Bool} {i : Nat} {wi : TI} (hwi : ∀ σ H R, tI X.K it σ H R → wi σ H R) : ∀ σ H Q, tE X.K (pLc m it (gVar i) t e) σ H Q → tLc wi (gName i) (tT X.K t) (tE X.K e) [i] σ H Q := by
  rintro σ H Q ⟨M, φ, ρ, rh, re, h⟩
  refine hwi σ H _ ⟨M, φ, ρ, rh, re, (Po.bind (rel := relJ X.K) h).mono ?_⟩
  rintro J H1 ⟨M1, φ1, ⟨xs, g⟩, e1, rh1, ok, h1⟩
  simp only at h1 ok
  split at h1
  case isFalse => exact h1.elim
  rename_i st
  intro D hD
  obtain ⟨eb, rb⟩ := begin_D rh1 hD
  have hl1 : ∀ k, M1.loc k ≠ some D := fun k z => rh1.ownd D (rh1.own k D z) hD
  have re1 := re.ext e1
  -- the state at a turn
  refine ⟨fun j mm H' => mm = xs.length - j ∧ j ≤ xs.length ∧ ∃ M' φ' acc vacc, Ext X.K M1 H1 M' H' ∧ RH X.K M' H' φ' ∧ M'.own D ∧ (∀ k, M'.loc k ≠ some D) ∧ H' D = some (.lst vacc) ∧ RVs X.K M' H' acc vacc ∧
    still g xs φ' = true ∧ Po X.K (RV X.K) M1 H1 (lcEnd m (lcGo g xs (gVar i) t e (xs.drop j) acc ρ φ')) Q, ⟨xs.length, by simp, Nat.zero_le _, _, φ1, [], [], eb, rb, .inl rfl, hl1, upd_same, .nil, st, h1⟩, ?_⟩
  rintro j mm H2 ⟨rfl, hj, M2, φ2, acc, vacc, e2, rh2, own2, loc2, hD2, racc, st2, h2⟩
  obtain ⟨go, stop⟩ := ok M2 H2 φ2 e2 rh2 st2
  by_cases hlt : j < xs.length
  · refine .inr ⟨(go j hlt).1, fun H' => ∃ m', m' < xs.length - j ∧ (m' = xs.length - (j + 1) ∧ j + 1 ≤ xs.length ∧ ∃ M' φ' acc vacc, Ext X.K M1 H1 M' H' ∧ RH X.K M' H' φ' ∧ M'.own D ∧ (∀ k, M'.loc k ≠ some D) ∧ H' D = some (.lst vacc) ∧ RVs X.K M' H' acc vacc ∧
      still g xs φ' = true ∧ Po X.K (RV X.K) M1 H1 (lcEnd m (lcGo g xs (gVar i) t e (xs.drop (j + 1)) acc ρ φ')) Q), fun H' q => q, fun x H3 y => ?_⟩
    obtain ⟨M3, v, hv, e3, rh3, rv⟩ := (go j hlt).2 x H3 y
    have hd : xs.drop j = v :: xs.drop (j + 1) := by
      rw [List.getElem?_eq_getElem hlt] at hv
      cases hv
      exact List.drop_eq_getElem_cons hlt
    rw [hd] at h2
    simp only [lcGo, gVar] at h2
    have e13 := e2.trans e3
    have re3 : RE X.K M3 H3 (ρ.set i (some v)) ((wipe σ [i]).set i (some x)) := by
      have := (re1.ext e13).set i rv
      show RE X.K M3 H3 (ρ.set i (some v)) ((σ.set i none).set i (some x))
      rw [List.set_set]; exact this
    refine ⟨set_none_set σ i x, M3, φ2, ρ.set i (some v), rh3, re3, ?_⟩
    have own3 : M3.own D ∧ (∀ k, M3.loc k ≠ some D) ∧ H3 D = H2 D := e3.res D own2 loc2
    -- the test
    cases ht : t (ρ.set i (some v)) φ2 with
    | err _ _ => rw [ht] at h2; exact h2.elim
    | bad => rw [ht] at h2; exact h2.elim
    | ok c φ4 =>
      rw [ht] at h2
      simp only [PL.R.bind_ok] at h2
      intro M4 H4 b e4 rh4 rb4
      have rb4 : c = b := rb4
      subst rb4
      have own4 := e4.res D own3.1 own3.2.1
      have e14 := e13.trans e4
      cases c with
      | false =>
        refine ite_ff ?_
        simp only [Bool.false_eq_true, if_false] at h2
        split at h2
        · rename_i st4
          exact ⟨_, by omega, rfl, hlt, M4, φ4, acc, vacc, e14, rh4, own4.1, own4.2.1, by rw [own4.2.2, own3.2.2]; exact hD2, (e3.trans e4).vals racc, st4, h2⟩
        · exact h2.elim
      | true =>
        refine ite_tt ⟨M4, φ4, _, rh4, re3.ext e4, ?_⟩
        simp only [if_true] at h2
        cases he : e (ρ.set i (some v)) φ4 with
        | err _ _ => rw [he] at h2; exact h2.elim
        | bad => rw [he] at h2; exact h2.elim
        | ok u φ5 =>
          rw [he] at h2
          simp only [PL.R.bind_ok] at h2
          intro M5 H5 y e5 rh5 ry
          have own5 := e5.res D own4.1 own4.2.1
          have e15 := e14.trans e5
          split at h2
          · rename_i st5
            rw [Bool.and_eq_true, decide_eq_true_eq] at st5
            have hD5 : H5 D = some (.lst vacc) := by rw [own5.2.2, own4.2.2, own3.2.2]; exact hD2
            have racc5 := (e3.trans (e4.trans e5)).vals racc
            obtain ⟨val, rh6⟩ := at_D (o := .lst (vacc ++ [y])) rh5 own5.1 own5.2.1 True.intro
            refine ⟨vacc, hD5, by rw [← racc.length]; exact st5.2, _, by omega, rfl, hlt, M5, φ5, acc ++ [u], vacc ++ [y], ?_, rh6, own5.1, own5.2.1, upd_same, ?_, st5.1, h2⟩
            · refine ⟨fun u v h => val _ _ (e15.val u v h), fun a h1 h2 => ?_⟩
              obtain ⟨q1, q2, q3⟩ := e15.res a h1 h2
              exact ⟨q1, q2, by rw [upd_ne (fun z => rh1.ownd a h1 (by rw [z]; exact hD))]; exact q3⟩
            · exact RVs.map (F := fun _ _ => True) val (racc5.append (.cons ry .nil))
          · exact h2.elim
  · have ej : j = xs.length := by omega
    subst ej
    refine .inl ⟨stop, ?_⟩
    rw [List.drop_length] at h2
    simp only [lcGo, lcEnd] at h2
    unfold mkList at h2
    cases m with
    | false =>
      obtain ⟨M3, val, own, loc, rh3, rv⟩ := end_val rh2 own2 loc2 hD2 racc
      refine h2 M3 H2 _ ⟨fun u v h => val _ _ (e2.val u v h), fun a h1 h2 => ?_⟩ rh3 rv
      obtain ⟨q1, q2, q3⟩ := e2.res a h1 h2
      exact ⟨own a q1 (fun z => rh1.ownd a h1 (by rw [z]; exact hD)), by rw [loc]; exact q2, q3⟩
    | true =>
      obtain ⟨M3, val, own, loc, rh3, hk⟩ := end_cell rh2 own2 loc2 hD2 racc
      refine h2 M3 H2 _ ⟨fun u v h => val _ _ (e2.val u v h), fun a h1 h2 => ?_⟩ rh3 (.loc hk)
      obtain ⟨q1, q2, q3⟩ := e2.res a h1 h2
      refine ⟨own a q1, fun k z => ?_, q3⟩
      rcases loc k a z with z | z
      · exact rh1.ownd a h1 (by rw [z]; exact hD)
      · exact q2 k z
/-- [elt for x in iter if ..], one name -/
theorem x_lc {m : Bool} {i : Nat} {x : Str} {px : Pos} (hc : X.calm = true) (hN : X.N.Nodup) (hi : IX X (.Name x px) iter it) (ok : BlkOk X.N X.env.scope scope [(x, i)])
    (hg : ∀ (s : Shared) (H : Hp) (C : Addr) (cl : List (Str × Addr)) (fp : List Addr), L2.PG (X.blk s H scope (compEnvC scope cl C X.env) fp) (.Name x px) (gName i)) (ht : ∀ (s : Shared) (H : Hp) (C : Addr) (cl : List (Str × Addr)) (fp : List Addr), TsX (X.blk s H scope (compEnvC scope cl C X.env) fp) ifs t)
    (he : ∀ (s : Shared) (H : Hp) (C : Addr) (cl : List (Str × Addr)) (fp : List Addr), EX (X.blk s H scope (compEnvC scope cl C X.env) fp) elt e) (hs : ∀ x, foldedSetIterable iter X.env x = pure x := by intro _; rfl) :
    EX X (.ListComp elt [⟨.Name x px, iter, ifs, 0⟩] scope pos) (pLc m it (gVar i) t e) :=
  pe_imp (pe_lc (own := [(x, i)]) hc hN hi ok hg ht he hs) (lc_read fun _ _ _ h => h)
end
end PL

/-! PL7: statements, loops, functions and their calls. -/
namespace PL
open PySem PySem.Spec PyProof.Rows L2

section
variable {X : Cx} {st : Stmt} {rest : List Stmt} {f g : SX} {e c o i2 : Expr} {fe fo fi : PX} {ft : PL.PT} {pos : Pos}
theorem ss_nil : SsX X [] sNil := by
  refine pss_imp pss_nil ?_
  rintro D σ H ⟨M, φ, ρ, rh, re, h⟩
  exact h M H σ .refl rh re
theorem ss_cons (h1 : StX X st f) (h2 : SsX X rest g) : SsX X (st :: rest) (sSeq f g) := by
  refine pss_imp (pss_cons h1 h2) ?_
  rintro D σ H ⟨M, φ, ρ, rh, re, h⟩
  refine ⟨M, φ, ρ, rh, re, ?_⟩
  unfold sSeq at h
  cases e : f ρ φ with
  | nx ρ1 φ1 =>
    rw [e] at h
    exact fun M1 H1 σ1 e1 rh1 re1 => ⟨M1, φ1, ρ1, rh1, re1, PoS.ext e1 h⟩
  | ret v φ1 => rw [e] at h; exact h
  | brk ρ1 φ1 => rw [e] at h; exact h
  | ct ρ1 φ1 => rw [e] at h; exact h
  | err _ _ _ => rw [e] at h; exact h
  | bad => rw [e] at h; exact h
/-- the value of an expression, then the rest -/
theorem ofR_po {K : PySem.W.Frag} {M : Mp} {H : Hp} {r : R PV} {ρ : Env} {k : PV → PHeap → O} {D : Ends} (h : PoS K M H (ofR r ρ k) D) :
    Po K (RV K) M H r fun x H1 => ∃ M1 φ1 v, Ext K M H M1 H1 ∧ RH K M1 H1 φ1 ∧ RV K M1 H1 v x ∧ PoS K M1 H1 (k v φ1) D := by
  cases r with
  | ok v φ1 => exact fun M1 H1 x e1 rh1 rv => ⟨M1, φ1, v, e1, rh1, rv, PoS.ext e1 h⟩
  | err _ _ => exact h
  | bad => exact h
theorem ofB_po {K : PySem.W.Frag} {M : Mp} {H : Hp} {r : R Bool} {ρ : Env} {k : Bool → PHeap → O} {D : Ends} (h : PoS K M H (ofB r ρ k) D) :
    Po K relB M H r fun x H1 => ∃ M1 φ1, Ext K M H M1 H1 ∧ RH K M1 H1 φ1 ∧ PoS K M1 H1 (k x φ1) D := by
  cases r with
  | ok v φ1 =>
    intro M1 H1 x e1 rh1 rv
    have rv : v = x := rv
    subst rv
    exact ⟨M1, φ1, e1, rh1, PoS.ext e1 h⟩
  | err _ _ => exact h
  | bad => exact h
theorem s_set {i : Nat} {x : Str} {pos' : Pos} (hN : X.N.Nodup) (he : EX X e fe) (hi : X.N[i]? = some x := by rfl) (hx : Loc X.env.scope x := by first | exact Or.inl rfl | exact Or.inr rfl) (hs : swapsWith e (some (.Name x pos')) pos.line X.env = pure false := by rfl) (hf : X.fn x = true ∨ X.env.scope.names.lookup x = some .local := by first | exact .inl rfl | exact .inr rfl) :
    StX X (.Assign [.Name x pos'] e pos) (sSet i fe) := by
  refine ps_imp (ps_set hN hi hx he hs hf) ?_
  rintro D σ H ⟨M, φ, ρ, rh, re, h⟩
  refine ⟨M, φ, ρ, rh, re, (ofR_po h).mono ?_⟩
  rintro x H1 ⟨M1, φ1, v, e1, rh1, rv, h1⟩
  exact h1 M1 H1 _ .refl rh1 ((re.ext e1).set i rv)
theorem s_asg {tg : Expr} {gg : PL.PG} (he : EX X e fe) (hg : GX X tg gg) (hs : swapsWithSole [tg] e pos.line X.env = pure false := by rfl) (hw : swappedStores [tg] e X.env = pure none := by rfl) (h1 : (assignEach [tg] X.env).map (·.2) = [assign tg X.env] := by rfl)
    (hgn : ∀ v ρ φ, match gg v ρ φ with | .nx _ _ => True | .bad => True | _ => False) : StX X (.Assign [tg] e pos) (sAsg gg fe) := by
  refine ps_imp (ps_asg he hg hs hw h1) ?_
  rintro D σ H ⟨M, φ, ρ, rh, re, h⟩
  refine ⟨M, φ, ρ, rh, re, (ofR_po h).mono ?_⟩
  rintro x H1 ⟨M1, φ1, v, e1, rh1, rv, h1⟩
  refine ⟨M1, φ1, ρ, v, rh1, re.ext e1, rv, ?_⟩
  have q := hgn v ρ φ1
  cases e : gg v ρ φ1 with
  | nx ρ' φ' => rw [e] at h1; exact h1
  | bad => rw [e] at h1; exact h1
  | _ => rw [e] at q; exact q
theorem s_drop (he : EX X e fe) (hs : swapsWith e none pos.line X.env = pure false := by rfl) : StX X (.Expr e pos) (sDrop fe) := by
  refine ps_imp (ps_expr he hs) ?_
  rintro D σ H ⟨M, φ, ρ, rh, re, h⟩
  refine ⟨M, φ, ρ, rh, re, (ofR_po h).mono ?_⟩
  rintro x H1 ⟨M1, φ1, v, e1, rh1, rv, h1⟩
  exact h1 M1 H1 σ .refl rh1 (re.ext e1)
theorem s_ret (he : EX X e fe) : StX X (.Return (some e) pos) (sRet fe) := by
  refine ps_imp (ps_ret he) ?_
  rintro D σ H ⟨M, φ, ρ, rh, re, h⟩
  refine ⟨M, φ, ρ, rh, re, (ofR_po h).mono ?_⟩
  rintro x H1 ⟨M1, φ1, v, e1, rh1, rv, h1⟩
  exact h1 M1 H1 x .refl rh1 rv
theorem s_retN : StX X (.Return none pos) sRetN := by
  refine ps_imp ps_retN ?_
  rintro D σ H ⟨M, φ, ρ, rh, re, h⟩
  exact h M H .non .refl rh .non
theorem s_pass : StX X (.Pass pos) sNil := by
  refine ps_imp ps_pass ?_
  rintro D σ H ⟨M, φ, ρ, rh, re, h⟩
  exact h M H σ .refl rh re
theorem s_brk : StX X (.Break pos) sBrk := by
  refine ps_imp ps_break ?_
  rintro D σ H ⟨M, φ, ρ, rh, re, h⟩
  exact h M H σ .refl rh re
theorem s_ct : StX X (.Continue pos) sCt := by
  refine ps_imp ps_continue ?_
  rintro D σ H ⟨M, φ, ρ, rh, re, h⟩
  exact h M H σ .refl rh re
theorem s_if {a b : List Stmt} (hc : TX X c ft) (ha : SsX X a f) (hb : SsX X b g) : StX X (.If c a b pos) (sIf ft f g) := by
  refine ps_imp (ps_if hc ha hb) ?_
  rintro D σ H ⟨M, φ, ρ, rh, re, h⟩
  refine ⟨M, φ, ρ, rh, re, (ofB_po h).mono ?_⟩
  rintro x H1 ⟨M1, φ1, e1, rh1, h1⟩
  cases x with
  | true => exact ite_tt ⟨M1, φ1, ρ, rh1, re.ext e1, h1⟩
  | false => exact ite_ff ⟨M1, φ1, ρ, rh1, re.ext e1, h1⟩
/-- x = [.. for ..] -/
theorem s_setLc {m : Bool} {i j : Nat} {y x : Str} {py px : Pos} {elt iter : Expr} {ifs : List Expr} {scope : Scope} {pos spos : Pos} {it : PL.PI} {t : PL.PT} {fe : PX} (hc : X.calm = true) (hN : X.N.Nodup) (hy : X.N[i]? = some y) (hyl : X.env.scope.names.lookup y = some .local)
    (hsw : swapsWith (.ListComp elt [⟨.Name x px, iter, ifs, 0⟩] scope pos) (some (.Name y py)) spos.line X.env = pure true) (hi : IX X (.Name x px) iter it) (ok : BlkOk X.N X.env.scope scope [(x, j)])
    (hg : ∀ (s : Shared) (H : Hp) (C : Addr) (cl : List (Str × Addr)) (fp : List Addr), L2.PG (X.blk s H scope (compEnvC scope cl C X.env) fp) (.Name x px) (gName j)) (ht : ∀ (s : Shared) (H : Hp) (C : Addr) (cl : List (Str × Addr)) (fp : List Addr), TsX (X.blk s H scope (compEnvC scope cl C X.env) fp) ifs t)
    (he : ∀ (s : Shared) (H : Hp) (C : Addr) (cl : List (Str × Addr)) (fp : List Addr), EX (X.blk s H scope (compEnvC scope cl C X.env) fp) elt fe) (hs : ∀ x, foldedSetIterable iter X.env x = pure x := by intro _; rfl) :
    StX X (.Assign [.Name y py] (.ListComp elt [⟨.Name x px, iter, ifs, 0⟩] scope pos) spos) (sSet i (pLc m it (gVar j) t fe)) := by
  refine ps_imp (ps_setLc (te := tE X.K fe) (tt := tT X.K t) (own := [(x, j)]) hc hN hy hyl hsw hi ok hg ht he hs) ?_
  rintro D σ H ⟨M, φ, ρ, rh, re, h⟩
  refine lc_read (m := m) (fun _ _ _ h => h) σ H _ ⟨M, φ, ρ, rh, re, (ofR_po h).mono ?_⟩
  rintro x H1 ⟨M1, φ1, v, e1, rh1, rv, h1⟩
  exact h1 M1 H1 _ .refl rh1 ((re.ext e1).set i rv)
theorem s_aug {i : Nat} {x : Str} {op : Operator} {gg : PV → PV → PHeap → R PV} {pos' : Pos} (hN : X.N.Nodup) (ho : OpG X (inplaceOp op) gg) (he : EX X e fe) (hi : X.N[i]? = some x := by rfl) (hx : Loc X.env.scope x := by first | exact Or.inl rfl | exact Or.inr rfl) (hf : X.fn x = true ∨ X.env.scope.names.lookup x = some .local := by first | exact .inl rfl | exact .inr rfl) :
    StX X (.AugAssign (.Name x pos') op e pos) (sAug gg i fe) := by
  obtain ⟨r, hr, hp⟩ := ho.ex
  refine ps_imp (ps_aug (ti := r) hN hi hx he (fun pins s σ H x y v u Q I r1 r2 q => hr pins s σ H x y v u Q I r1 r2 q) hf) ?_
  rintro D σ H ⟨M, φ, ρ, rh, re, h⟩
  unfold sAug at h
  split at h
  · rename_i u hu
    obtain ⟨x, hx, ru⟩ := re.at_ i u hu
    refine ⟨x, hx, M, φ, ρ, rh, re, (ofR_po h).mono ?_⟩
    rintro y H1 ⟨M1, φ1, v, e1, rh1, rv, h1⟩
    refine hp M1 H1 φ1 u v x y _ rh1 (e1.val _ _ ru) rv ((ofR_po h1).mono ?_)
    rintro z H2 ⟨M2, φ2, w, e2, rh2, rw', h2⟩
    exact h2 M2 H2 _ .refl rh2 ((re.ext (e1.trans e2)).set i rw')
  · exact h.elim
/-- o[i] = e, a list's cell -/
def gSetIx (u j v : PV) (φ : PHeap) : Option PHeap := match u, j with
  | .loc k, .int i => match φ[k]? with
    | some (.lst xs) => match ixN xs.length i with
      | some n => some (φ.set k (.lst (xs.set n v)))
      | none => none
    | _ => none
  | _, _ => none
theorem s_sub (he : EX X e fe) (ho : EX X o fo) (hi : EX X i2 fi) {pos' : Pos}
    (ha : ∀ v, assign (.Subscript o i2 pos') X.env v = (do
      let ov ← holding [v] (eval o X.env)
      let iv ← holding [v, ov] (eval i2 X.env)
      standAt pos'
      holding [v, ov, iv] (setItem ov iv v)
      release [v, ov, iv] []) := by intro _; rfl)
    (hs : swapsWithSole [.Subscript o i2 pos'] e pos.line X.env = pure false := by rfl) (hw : swappedStores [.Subscript o i2 pos'] e X.env = pure none := by rfl) (h1 : (assignEach [.Subscript o i2 pos'] X.env).map (·.2) = [assign (.Subscript o i2 pos') X.env] := by rfl) :
    StX X (.Assign [.Subscript o i2 pos'] e pos) (sSub gSetIx fo fi fe) := by
  refine ps_imp (ps_asg he (pg_sub ho hi set_list ha) hs hw h1) ?_
  rintro D σ H ⟨M, φ, ρ, rh, re, h⟩
  refine ⟨M, φ, ρ, rh, re, (ofR_po h).mono ?_⟩
  rintro z H1 ⟨M1, φ1, v, e1, rh1, rv, h1⟩
  refine ⟨M1, φ1, ρ, rh1, re.ext e1, (ofR_po h1).mono ?_⟩
  rintro x H2 ⟨M2, φ2, u, e2, rh2, ru, h2⟩
  refine ⟨M2, φ2, ρ, rh2, (re.ext e1).ext e2, (ofR_po h2).mono ?_⟩
  rintro y H3 ⟨M3, φ3, j, e3, rh3, rj, h3⟩
  have re3 := ((re.ext e1).ext e2).ext e3
  have ru := e3.val _ _ ru
  have rv := e3.val _ _ (e2.val _ _ rv)
  unfold gSetIx at h3
  split at h3
  · rename_i φ4 e4
    split at e4
    · obtain ⟨a, rfl, hk⟩ := rv_loc ru
      cases rj
      split at e4
      · rename_i xs hx
        split at e4
        · rename_i n hn
          cases e4
          obtain ⟨vs, hv, r⟩ := rh_at rh3 hk hx
          refine ⟨a, vs, _, n, rfl, rfl, hv, by rw [← r.length]; exact hn, ?_⟩
          exact h3 M3 _ σ (ext_set rh3 hk) (rh_set rh3 hk (lt_of_get hx) (r.set n rv)) (re3.ext (ext_set rh3 hk))
        · cases e4
      · cases e4
    · cases e4
  · exact h3.elim
end

/-! ### loops -/
section
variable {X : Cx} {tg iter c : Expr} {body : List Stmt} {it : PL.PI} {gg : PL.PG} {b : SX} {t : PL.PT} {pos : Pos}
theorem s_for (hp : PassesOwn (model X.prog X.w) X.A X.env X.xe) (hc : X.calm = true) (hi : IX X tg iter it) (hg : GX X tg gg) (hb : SsX X body b) (hs : ∀ x, foldedSetIterable iter X.env x = pure x := by intro _; rfl) : StX X (.For tg iter body [] pos) (sFor it gg b) := by
  refine ps_imp (ps_for hp hc hi hg hb hs) ?_
  rintro D σ H ⟨M, φ, ρ, rh, re, h⟩
  unfold sFor at h
  have h' : Po X.K (relJ X.K) M H (it ρ φ) fun J H1 => ∃ M1 φ1, ∃ p : List PV × Option Nat, Ext X.K M H M1 H1 ∧ RH X.K M1 H1 φ1 ∧ ItOk X.K M1 H1 J p.1 p.2 ∧ still p.2 p.1 φ1 = true ∧ PoS X.K M1 H1 (forGo p.2 p.1 gg b p.1 ρ φ1) D := by
    cases e : it ρ φ with
    | ok p φ1 =>
      rw [e] at h
      simp only at h
      split at h
      · rename_i st
        exact fun M1 H1 J e1 rh1 ok => ⟨M1, φ1, p, e1, rh1, ok, st, PoS.ext e1 h⟩
      · exact h.elim
    | err _ _ => rw [e] at h; exact h
    | bad => rw [e] at h; exact h
  refine ⟨M, φ, ρ, rh, re, h'.mono ?_⟩
  rintro J H1 ⟨M1, φ1, ⟨xs, g⟩, e1, rh1, ok, st, h1⟩
  simp only at ok st h1
  let W : Nat → Nat → L2.St → Hp → Prop := fun j mm σ' H' => mm = xs.length - j ∧ j ≤ xs.length ∧ ∃ M' φ' ρ', Ext X.K M1 H1 M' H' ∧ RH X.K M' H' φ' ∧ RE X.K M' H' ρ' σ' ∧ still g xs φ' = true ∧ PoS X.K M' H' (forGo g xs gg b (xs.drop j) ρ' φ') D
  refine ⟨W, ⟨xs.length, by simp, Nat.zero_le _, M1, φ1, ρ, .refl, rh1, re.ext e1, st, h1⟩, ?_⟩
  rintro j mm σ2 H2 ⟨rfl, hj, M2, φ2, ρ2, e2, rh2, re2, st2, h2⟩
  obtain ⟨go, stop⟩ := ok M2 H2 φ2 e2 rh2 st2
  by_cases hlt : j < xs.length
  · refine .inr ⟨(go j hlt).1, fun σ' H' => W (j + 1) (xs.length - (j + 1)) σ' H', fun σ' H' q => ⟨_, by omega, q⟩, fun x H3 y => ?_⟩
    obtain ⟨M3, v, hv, e3, rh3, rv⟩ := (go j hlt).2 x H3 y
    have hd : xs.drop j = v :: xs.drop (j + 1) := by
      rw [List.getElem?_eq_getElem hlt] at hv
      cases hv
      exact List.drop_eq_getElem_cons hlt
    rw [hd] at h2
    simp only [forGo] at h2
    refine ⟨M3, φ2, ρ2, v, rh3, re2.ext e3, rv, ?_⟩
    cases eg : gg v ρ2 φ2 with
    | nx ρ4 φ4 =>
      rw [eg] at h2
      simp only at h2
      intro M4 H4 σ4 e4 rh4 re4
      refine ⟨M4, φ4, ρ4, rh4, re4, ?_⟩
      have e14 := (e2.trans e3).trans e4
      have e24 := e3.trans e4
      cases eb : b ρ4 φ4 with
      | nx ρ5 φ5 =>
        rw [eb] at h2
        simp only at h2
        split at h2
        · rename_i st5
          exact fun M5 H5 σ5 e5 rh5 re5 => ⟨rfl, hlt, M5, φ5, ρ5, e14.trans e5, rh5, re5, st5, PoS.ext (e24.trans e5) h2⟩
        · exact h2.elim
      | ct ρ5 φ5 =>
        rw [eb] at h2
        simp only at h2
        split at h2
        · rename_i st5
          exact fun M5 H5 σ5 e5 rh5 re5 => ⟨rfl, hlt, M5, φ5, ρ5, e14.trans e5, rh5, re5, st5, PoS.ext (e24.trans e5) h2⟩
        · exact h2.elim
      | brk ρ5 φ5 =>
        rw [eb] at h2
        exact fun M5 H5 σ5 e5 rh5 re5 => h2 M5 H5 σ5 (e24.trans e5) rh5 re5
      | ret v5 φ5 =>
        rw [eb] at h2
        exact fun M5 H5 x5 e5 rh5 rv5 => h2 M5 H5 x5 (e24.trans e5) rh5 rv5
      | err _ _ _ => rw [eb] at h2; exact h2
      | bad => rw [eb] at h2; exact h2
    | ret _ _ => rw [eg] at h2; exact h2.elim
    | brk _ _ => rw [eg] at h2; exact h2.elim
    | ct _ _ => rw [eg] at h2; exact h2.elim
    | err _ _ _ => rw [eg] at h2; exact h2.elim
    | bad => rw [eg] at h2; exact h2.elim
  · have ej : j = xs.length := by omega
    subst ej
    refine .inl ⟨stop, ?_⟩
    rw [List.drop_length] at h2
    exact h2 M2 H2 σ2 .refl rh2 re2
theorem s_while {n : Nat} (hp : PassesOwn (model X.prog X.w) X.A X.env X.xe) (hc : TX X c t) (hb : SsX X body b) : StX X (.While c body [] pos) (whGo t b n) := by
  refine ps_imp (ps_while hp hc hb) ?_
  rintro D σ H ⟨M, φ, ρ, rh, re, h⟩
  refine ⟨fun m σ' H' => ∃ M' φ' ρ', RH X.K M' H' φ' ∧ RE X.K M' H' ρ' σ' ∧ PoS X.K M' H' (whGo t b m ρ' φ') D, ⟨n, M, φ, ρ, rh, re, h⟩, ?_⟩
  rintro m σ2 H2 ⟨M2, φ2, ρ2, rh2, re2, h2⟩
  cases m with
  | zero => exact h2.elim
  | succ m =>
    unfold whGo at h2
    refine ⟨M2, φ2, ρ2, rh2, re2, (ofB_po h2).mono ?_⟩
    rintro x H3 ⟨M3, φ3, e3, rh3, h3⟩
    cases x with
    | false => exact ite_ff (h3 M3 H3 σ2 .refl rh3 (re2.ext e3))
    | true =>
      refine ite_tt ⟨fun σ' H' => ∃ M' φ' ρ', RH X.K M' H' φ' ∧ RE X.K M' H' ρ' σ' ∧ PoS X.K M' H' (whGo t b m ρ' φ') D, fun σ' H' q => ⟨m, Nat.lt_succ_self _, q⟩, M3, φ3, ρ2, rh3, re2.ext e3, ?_⟩
      simp only [if_true] at h3
      cases eb : b ρ2 φ3 with
      | nx ρ5 φ5 =>
        rw [eb] at h3
        exact fun M5 H5 σ5 e5 rh5 re5 => ⟨M5, φ5, ρ5, rh5, re5, PoS.ext e5 h3⟩
      | ct ρ5 φ5 =>
        rw [eb] at h3
        exact fun M5 H5 σ5 e5 rh5 re5 => ⟨M5, φ5, ρ5, rh5, re5, PoS.ext e5 h3⟩
      | brk ρ5 φ5 => rw [eb] at h3; exact h3
      | ret v5 φ5 => rw [eb] at h3; exact h3
      | err _ _ _ => rw [eb] at h3; exact h3
      | bad => rw [eb] at h3; exact h3
end

/-! ### functions -/
def spP (K : PySem.W.Frag) (F : PF) (n : Nat) : Sp := fun vs H Q _ => ∃ M φ us, RH K M H φ ∧ RVs K M H us vs ∧ us.length = n ∧ Po K (RV K) M H (F us φ) Q
section
variable {P : Program} {w : World} {K : PySem.W.Frag} {mg : Str → Option Value} {base : Heap}
/-- a def of the module that may be called: its pure function is F -/
structure Cal (P : Program) (w : World) (K : PySem.W.Frag) (mg : Str → Option Value) (base : Heap) (n : Nat) (x : Str) (np : Nat) (F : PF) : Prop where
  ex : ∃ f fd ps, ps.length = np ∧ FnOk P w K mg base CX0 n f fd ps (spP K F np) ∧ mg x = some (.ref f) ∧ PySem.W.keepIn K (.ref f) = true ∧ Binds K fd ps []
theorem fin_po {M M1 : Mp} {H H1 : Hp} {φ φ1 : PHeap} {keep : Bool} {v : PV} {x : V} {Q : VK} (rh : RH K M H φ) (h : Po K (RV K) M H (fin keep φ v φ1) Q) (e : Ext K M H M1 H1) (rh1 : RH K M1 H1 φ1) (rv : RV K M1 H1 v x) : Q x H1 := by
  unfold fin at h
  split at h
  case isFalse => exact h.elim
  rename_i kp
  obtain ⟨e2, rh2⟩ := cut_back rh rh1 e kp
  have hl : ∀ k a, k < φ.length → M1.loc k = some a → M.loc k = some a := fun k a hk h => by
    obtain ⟨b, hb, _⟩ := rh.cell k _ (List.getElem?_eq_getElem hk)
    have := e.loc hb
    rw [h] at this; cases this; exact hb
  have ho := ext_own rh rh1 e
  split at h
  · rename_i hb
    exact h M H1 x e2 rh2 (rv_down hl ho rv hb)
  · rename_i hb
    split at h
    · rename_i k
      split at h
      · rename_i xs hx
        obtain ⟨a, rfl, hk⟩ := rv_loc rv
        obtain ⟨vs, ha, r⟩ := rh_at rh1 hk hx
        have hk2 : ¬ k < φ.length := by
          intro z; unfold below at hb; rw [decide_eq_true z] at hb; cases hb
        have nown : ¬ M.own a := fun z => by
          rcases Classical.em (∃ j, M.loc j = some a) with ⟨j, hj⟩ | q
          · have := rh1.inj _ _ _ (e.loc hj) hk
            have hj2 : j < φ.length := Nat.lt_of_not_le fun y => by rw [rh.dom j y] at hj; cases hj
            omega
          · exact (e.res a z fun j y => q ⟨j, y⟩).2.1 k hk
        split at h
        · rename_i hbs
          have r2 := rvs_down hl ho r hbs
          cases keep with
          | false => exact h M H1 _ e2 rh2 (.lst ha nown r2)
          | true =>
            -- the cell is kept, under the next number
            have hlen : (φ1.take φ.length).length = φ.length := by rw [List.length_take]; have := kp.1; omega
            let M2 : Mp := ⟨M.loc, fun b => b = a ∨ M.own b⟩
            have val : ∀ u v, RV K M H u v → RV K M2 H1 u v := fun u v hv => by
              have h1 := e.val u v hv
              refine rv_down (M := M2) (M' := M1) hl (fun b hb2 => ?_) h1 (rv_below rh hv)
              rcases hb2 with hb2 | hb2
              · rw [hb2]; exact rh1.own _ _ hk
              · exact ho b hb2
            have nl : ∀ j, M.loc j ≠ some a := fun j z => nown (rh.own _ _ z)
            have rh3 : RH K M2 H1 (φ1.take φ.length) := by
              refine ⟨fun j c hj => ?_, rh2.dom, rh2.inj, fun j b hj => .inr (rh2.own j b hj), fun b hb2 => ?_, fun b hb2 => ?_⟩
              · obtain ⟨b, h1, h2⟩ := rh2.cell j c hj
                refine ⟨b, h1, ?_⟩
                have q : φ1[j]? = some c := by
                  have : j < φ.length := by have := lt_of_get hj; rw [hlen] at this; exact this
                  rw [List.getElem?_take_of_lt this] at hj; exact hj
                have hj2 : j < φ.length := by have := lt_of_get hj; rw [hlen] at this; exact this
                obtain ⟨b', h3, h4⟩ := rh1.cell j c q
                have := hl j b' hj2 h3
                rw [h1] at this; cases this
                cases c with
                | lst ys =>
                  obtain ⟨ws, q1, q2⟩ := h4
                  obtain ⟨ws2, q3, q4⟩ := h2
                  refine ⟨ws, q1, rvs_down (M := M2) (M' := M1) hl (fun b hb2 => ?_) q2 ?_⟩
                  · rcases hb2 with hb2 | hb2
                    · rw [hb2]; exact rh1.own _ _ hk
                    · exact ho b hb2
                  · have := rvs_below rh2 q4
                    rw [hlen] at this; exact this
                | dct _ => exact h2.elim
                | ins _ _ => exact h2.elim
              · rcases hb2 with hb2 | hb2
                · rw [hb2, ha]; intro z; cases z
                · exact rh2.ownd b hb2
              · rcases hb2 with hb2 | hb2
                · rw [hb2]; exact ⟨_, ha, True.intro⟩
                · exact rh2.ownl b hb2
            have r3 : RVs K M2 H1 xs vs := rvs_down (M := M2) (M' := M1) hl (fun b hb2 => by
              rcases hb2 with hb2 | hb2
              · rw [hb2]; exact rh1.own _ _ hk
              · exact ho b hb2) r hbs
            obtain ⟨M3, v3, o3, l3, rh4, hk3⟩ := end_cell rh3 (.inl rfl) nl ha r3
            rw [hlen] at hk3
            refine h M3 H1 _ ⟨fun u v hv => v3 _ _ (val u v hv), fun b h1 h2 => ?_⟩ rh4 (.loc hk3)
            obtain ⟨q1, q2, q3⟩ := e.res b h1 h2
            refine ⟨o3 b (.inr h1), fun j z => ?_, q3⟩
            rcases l3 j b z with z | z
            · rw [z] at h1; exact nown h1
            · exact h2 j z
        · exact h.elim
      · exact h.elim
    · exact h.elim
theorem finM_po {M M1 : Mp} {H H1 : Hp} {φ φ1 : PHeap} {m : Mode} {v : PV} {x : V} {Q : VK} (rh : RH K M H φ) (h : Po K (RV K) M H (finM m φ v φ1) Q) (e : Ext K M H M1 H1) (rh1 : RH K M1 H1 φ1) (rv : RV K M1 H1 v x) : Q x H1 := by
  cases m with
  | cut => exact fin_po rh h e rh1 rv
  | keep => exact fin_po rh h e rh1 rv
  | all => exact h M1 H1 x e rh1 rv
theorem re_start {M : Mp} {H : Hp} {us : List PV} {vs : List V} {N : List Str} (r : RVs K M H us vs) : RE K M H (PL.start N.length us) (L2.start N vs) := by
  refine ⟨?_, fun i u h => ?_⟩
  · unfold PL.start L2.start
    simp only [List.length_append, List.length_map, List.length_replicate, r.length]
  · unfold PL.start at h
    unfold L2.start
    by_cases hi : i < us.length
    · rw [List.getElem?_append_left (by simpa using hi), List.getElem?_map] at h
      cases e : us[i]? with
      | none => rw [e] at h; cases h
      | some u' =>
        rw [e] at h; cases h
        obtain ⟨v, h1, h2⟩ := r.get e
        refine ⟨v, ?_, h2⟩
        rw [List.getElem?_append_left (by rw [List.length_map, ← r.length]; exact hi), List.getElem?_map, h1]; rfl
    · rw [List.getElem?_append_right (by simpa using hi), List.getElem?_replicate] at h
      split at h <;> cases h
/-- a def by its body -/
theorem fn_ok {x qual : Str} {st : Stmt} {f : Addr} {fd : FuncData} {N ps : List Str} {k : Nat} {m : Mode} {b : SX} (F : Fun K x qual st f fd) (S : FnScope N ps (defScope st))
    (hbody : ∀ (cdv : Value) (A : Around) (outer : List PySem.Env) (s : Shared) (H : Hp) (E : XK), Room k (A.deeper (envOfC qual (defScope st) s.heap.objs.size f cdv)) →
      SsX (cxOf CX0 P w K mg base N qual (defScope st) f cdv A outer s H E).nox (defBody st) b) : FnOk P w K mg base CX0 (k + 1) f fd ps (spP K (pFun ps.length N.length m b) ps.length) := by
  refine F.ok S (fun vs H Q E h => ?_) (fun cdv A outer s H vs Q E hr h => ?_)
  · obtain ⟨M, φ, us, rh, r, hl, h⟩ := h
    rw [← r.length]; exact hl
  · obtain ⟨M, φ, us, rh, r, hl, h⟩ := h
    refine ⟨_, hbody cdv A outer s H E hr, M, φ, PL.start N.length us, rh, re_start r, ?_⟩
    unfold pFun at h
    rw [if_pos hl] at h
    cases e : b (PL.start N.length us) φ with
    | ret v φ1 =>
      rw [e] at h
      exact fun M1 H1 x e1 rh1 rv => finM_po rh h e1 rh1 rv
    | nx ρ1 φ1 =>
      rw [e] at h
      exact fun M1 H1 σ1 e1 rh1 _ => finM_po rh h e1 rh1 .non
    | brk _ _ => rw [e] at h; exact h.elim
    | ct _ _ => rw [e] at h; exact h.elim
    | err _ _ _ => rw [e] at h; exact h.elim
    | bad => rw [e] at h; exact h.elim
/-- nothing is promised -/
theorem cal_zero {x : Str} {f : Addr} {fd : FuncData} {ps : List Str} (hm : mg x = some (.ref f)) (kp : PySem.W.keepIn K (.ref f) = true) (b : Binds K fd ps []) : Cal P w K mg base 0 x ps.length (fun _ _ => .bad) :=
  ⟨f, fd, ps, rfl, ⟨fun vs H Q E ⟨_, _, us, _, r, hl, _⟩ => by rw [← r.length]; exact hl, fun A outer s H args us vs Q E _ _ _ _ ⟨_, _, _, _, _, _, h⟩ => h.elim⟩, hm, kp, b⟩
theorem cal_mk {x : Str} {f : Addr} {fd : FuncData} {ps : List Str} {n np : Nat} {F : PF} (hm : mg x = some (.ref f)) (kp : PySem.W.keepIn K (.ref f) = true) (b : Binds K fd ps []) (hn : ps.length = np) (h : FnOk P w K mg base CX0 n f fd ps (spP K F np)) : Cal P w K mg base n x np F := ⟨f, fd, ps, hn, h, hm, kp, b⟩
end
section
variable {X : Cx} {e : Expr} {es : List Expr} {fs : PAs} {p pos : Pos} {n np : Nat} {x : Str} {F : PF}
theorem x_call (c : Cal X.prog X.w X.K X.mg X.base n x np F) (hr : Room n X.A) (ha : AX X (e :: es) fs) (hn : (e :: es).length = np := by rfl) (hg : Gl X x := by rfl) (hdb : (x == ("__debug__" : Str)) = false := by decide) (he : starEach (e :: es) X.env = (false, eval e X.env) :: starEach es X.env := by rfl) (hpl : (backTo pos (starEach es X.env)).any (·.1) = false := by rfl) :
    EX X (.Call (.Name x p) (e :: es) [] pos) (pCall F fs) := by
  obtain ⟨f, fd, ps, hps, G, hm, kp, hb⟩ := c.ex
  refine pe_imp (pe_call G hr hg hm kp hb .nil pass0 ha.pa hdb he hpl) ?_
  rintro σ H Q ⟨M, φ, ρ, rh, re, h⟩
  refine ⟨M, φ, ρ, rh, re, (args_read ha h).mono ?_⟩
  rintro xs H1 ⟨M1, φ1, vs, e1, rh1, rv, hl, h1⟩
  rw [List.append_nil]
  exact ⟨M1, φ1, vs, rh1, rv, hl.trans hn, h1⟩
theorem x_call0 (c : Cal X.prog X.w X.K X.mg X.base n x np F) (hr : Room n X.A) (hn : 0 = np := by rfl) (hg : Gl X x := by rfl) (hdb : (x == ("__debug__" : Str)) = false := by decide) : EX X (.Call (.Name x p) [] [] pos) (pCall F pNil) := by
  obtain ⟨f, fd, ps, hps, G, hm, kp, hb⟩ := c.ex
  refine pe_imp (pe_call0 G hr hg hm kp hb .nil pass0 hdb) ?_
  rintro σ H Q ⟨M, φ, ρ, rh, re, h⟩
  exact ⟨M, φ, [], rh, .nil, hn, h⟩
end
end PL

/-! PL8: further built-ins: sum, max and min of a list, str of an int, sorted; unpacking; a try that nothing leaves. -/
namespace PL
open PySem PySem.Spec PyProof.Rows L2

/-! ### lists of ints -/
def intsOf : List PV → Option (List Int)
  | [] => some []
  | .int i :: r => match intsOf r with
    | some ns => some (i :: ns)
    | none => none
  | _ => none
theorem ints_of {K : PySem.W.Frag} {M : Mp} {H : Hp} : ∀ {xs : List PV} {vs : List V} {ns : List Int}, RVs K M H xs vs → intsOf xs = some ns → vs = ns.map V.int ∧ xs = ns.map PV.int
  | [], [], _, .nil, h => by cases h; exact ⟨rfl, rfl⟩
  | x :: xs, v :: vs, ns, .cons r rs, h => by
    cases x with
    | int i =>
      unfold intsOf at h
      split at h
      · rename_i ms hm
        cases h
        obtain ⟨e1, e2⟩ := ints_of rs hm
        rw [rv_int r, e1, e2]
        exact ⟨rfl, rfl⟩
      · cases h
    | _ => cases h
def gSum (us : List PV) (φ : PHeap) : R PV := match us with
  | [u] => match listOf φ u with
    | some xs => match intsOf xs with
      | some ns => .ok (.int ns.sum) φ
      | none => .bad
    | none => .bad
  | _ => .bad
def maxI : List Int → Int → Int
  | [], m => m
  | n :: r, m => maxI r (if n > m then n else m)
def minI : List Int → Int → Int
  | [], m => m
  | n :: r, m => minI r (if n < m then n else m)
theorem maxI_spec : ∀ (r : List Int) (m : Int), (maxI r m ∈ m :: r) ∧ ∀ y ∈ m :: r, y ≤ maxI r m
  | [], m => ⟨List.mem_cons_self, fun y h => by rw [List.mem_singleton.mp h]; exact Int.le_refl _⟩
  | n :: r, m => by
    obtain ⟨h1, h2⟩ := maxI_spec r (if n > m then n else m)
    unfold maxI
    refine ⟨?_, fun y hy => ?_⟩
    · rcases List.mem_cons.mp h1 with h | h
      · rw [h]; split <;> simp
      · exact List.mem_cons_of_mem _ (List.mem_cons_of_mem _ h)
    · rcases List.mem_cons.mp hy with rfl | hy
      · have := h2 _ List.mem_cons_self
        split at this <;> split <;> omega
      · rcases List.mem_cons.mp hy with rfl | hy
        · have := h2 _ List.mem_cons_self
          split at this <;> split <;> omega
        · exact h2 y (List.mem_cons_of_mem _ hy)
theorem minI_spec : ∀ (r : List Int) (m : Int), (minI r m ∈ m :: r) ∧ ∀ y ∈ m :: r, minI r m ≤ y
  | [], m => ⟨List.mem_cons_self, fun y h => by rw [List.mem_singleton.mp h]; exact Int.le_refl _⟩
  | n :: r, m => by
    obtain ⟨h1, h2⟩ := minI_spec r (if n < m then n else m)
    unfold minI
    refine ⟨?_, fun y hy => ?_⟩
    · rcases List.mem_cons.mp h1 with h | h
      · rw [h]; split <;> simp
      · exact List.mem_cons_of_mem _ (List.mem_cons_of_mem _ h)
    · rcases List.mem_cons.mp hy with rfl | hy
      · have := h2 _ List.mem_cons_self
        split at this <;> split <;> omega
      · rcases List.mem_cons.mp hy with rfl | hy
        · have := h2 _ List.mem_cons_self
          split at this <;> split <;> omega
        · exact h2 y (List.mem_cons_of_mem _ hy)
def gMaxL (us : List PV) (φ : PHeap) : R PV := match us with
  | [u] => match listOf φ u with
    | some xs => match intsOf xs with
      | some (n :: r) => .ok (.int (maxI r n)) φ
      | _ => .bad
    | none => .bad
  | _ => .bad
def gMinL (us : List PV) (φ : PHeap) : R PV := match us with
  | [u] => match listOf φ u with
    | some xs => match intsOf xs with
      | some (n :: r) => .ok (.int (minI r n)) φ
      | _ => .bad
    | none => .bad
  | _ => .bad
/-- the digits of an int's text -/
def strI (i : Int) : List Nat := if i < 0 then 45 :: TL.numL i.natAbs else TL.numL i.natAbs
def gStrI (us : List PV) (φ : PHeap) : R PV := match us with
  | [.int i] => if 0 ≤ i ∧ i.natAbs.log2 < 1920 then .ok (.str (TL.numL i.natAbs)) φ else .bad
  | _ => .bad
section
variable {X : Cx}
theorem c_sum (hc : X.calm = true := by rfl) : CallG X (.builtin "sum") gSum := by
  refine ⟨_, cr_sum hc, fun M H φ us xs Q rh r h => ?_⟩
  unfold gSum at h
  split at h
  · obtain ⟨x, rfl, r1⟩ := rvs1 r
    split at h
    · rename_i ys hy
      split at h
      · rename_i ns hns
        obtain ⟨a, vs, rfl, ha, rs⟩ := rv_list rh r1 hy
        obtain ⟨e1, e2⟩ := ints_of rs hns
        exact ⟨a, ns, rfl, SqL.of (by rw [ha, e1]), h.ok rh (.int _)⟩
      · exact h.elim
    · exact h.elim
  · exact h.elim
theorem c_maxL (hc : X.calm = true := by rfl) : CallG X (.builtin "max") gMaxL := by
  refine ⟨_, cr_max hc, fun M H φ us xs Q rh r h => ?_⟩
  unfold gMaxL at h
  split at h
  · obtain ⟨x, rfl, r1⟩ := rvs1 r
    split at h
    · rename_i ys hy
      split at h
      · rename_i n ns hns
        obtain ⟨a, vs, rfl, ha, rs⟩ := rv_list rh r1 hy
        obtain ⟨e1, e2⟩ := ints_of rs hns
        refine ⟨a, n :: ns, rfl, SqL.of (by rw [ha, e1]), by simp, fun m hm hle => ?_⟩
        obtain ⟨g1, g2⟩ := maxI_spec ns n
        have em : m = maxI ns n := Int.le_antisymm (g2 m hm) (hle _ g1)
        rw [em]
        exact h.ok rh (.int _)
      · exact h.elim
    · exact h.elim
  · exact h.elim
theorem c_minL (hc : X.calm = true := by rfl) : CallG X (.builtin "min") gMinL := by
  refine ⟨_, cr_min hc, fun M H φ us xs Q rh r h => ?_⟩
  unfold gMinL at h
  split at h
  · obtain ⟨x, rfl, r1⟩ := rvs1 r
    split at h
    · rename_i ys hy
      split at h
      · rename_i n ns hns
        obtain ⟨a, vs, rfl, ha, rs⟩ := rv_list rh r1 hy
        obtain ⟨e1, e2⟩ := ints_of rs hns
        refine ⟨a, n :: ns, rfl, SqL.of (by rw [ha, e1]), by simp, fun m hm hle => ?_⟩
        obtain ⟨g1, g2⟩ := minI_spec ns n
        have em : m = minI ns n := Int.le_antisymm (hle _ g1) (g2 m hm)
        rw [em]
        exact h.ok rh (.int _)
      · exact h.elim
    · exact h.elim
  · exact h.elim
theorem c_strI : CallG X (.type "str") gStrI := by
  refine ⟨_, call_str_int, fun M H φ us xs Q rh r h => ?_⟩
  unfold gStrI at h
  split at h
  · rename_i i
    obtain ⟨x, rfl, r1⟩ := rvs1 r
    split at h
    · rename_i hi
      refine ⟨i, by rw [rv_int r1], hi.2, h.ok rh (.str ?_ fun c hc => ?_)⟩
      · have e : i = ((i.natAbs : Nat) : Int) := by omega
        conv => lhs; rw [e]
        exact TL.tl_num _
      · have := TL.numL_digits i.natAbs
        have := this c hc
        omega
    · exact h.elim
  · exact h.elim

/-! ### x += e -/
def gIAdd (u v : PV) (φ : PHeap) : R PV := match u, v with
  | .int i, .int j => .ok (.int (i + j)) φ
  | .str a, .str b => if a.length + b.length ≤ sizeLine then .ok (.str (a ++ b)) φ else .bad
  | _, _ => .bad
theorem o_iadd : OpG X (inplaceOp .Add) gIAdd := by
  refine ⟨_, (iop_add (X := X)).or (iop_add_str (X := X)), ?_⟩
  intro M H φ u v x y Q rh ru rv h
  unfold gIAdd at h
  split at h
  · cases ru; cases rv
    exact .inl ⟨_, _, rfl, rfl, h.ok rh (.int _)⟩
  · obtain ⟨z, rfl, e1, c1⟩ := rv_str ru
    obtain ⟨z', rfl, e2, c2⟩ := rv_str rv
    split at h
    · rename_i hz
      refine .inr ⟨z, z', rfl, rfl, by rw [str_len e1, str_len e2]; exact hz, h.ok rh (.str ?_ (chars_append c1 c2))⟩
      show (z.cps ++ z'.cps).toList = _
      rw [Array.toList_append, e1, e2]
    · exact h.elim
  · exact h.elim

/-! ### unpacking a list -/
/-- (a, b) = a tuple or a list -/
def gUnp (g : List PV → Env → PHeap → O) : PL.PG := fun v ρ φ => match v with
  | .tup xs => g xs ρ φ
  | .lst xs => g xs ρ φ
  | _ => .bad
theorem g_unp {pos : Pos} {es : List Expr} {k : Nat} {g : List PV → Env → PHeap → O} {n : Nat} (hc : X.calm = true) (h : GsX X es g) (hg : ∀ us ρ φ, us.length ≠ n → g us ρ φ = .bad)
    (hn : (assignEach es X.env).length = n := by rfl) (hst : (assignEach es X.env).findIdx? (·.1) = none := by rfl) : GX X (.Tuple es k pos) (gUnp g) := by
  refine ⟨fun pins s σ H v u Q I r q => ?_⟩
  obtain ⟨M, φ, ρ, w, rh, re, rw', q⟩ := q
  have len : ∀ {xs : List PV} {vs : List V}, RVs X.K M H xs vs → (match g xs ρ φ with | .nx ρ' φ' => ∀ M' H' σ', Ext X.K M H M' H' → RH X.K M' H' φ' → RE X.K M' H' ρ' σ' → Q σ' H' | _ => False) → vs.length = n := fun {xs vs} r q => by
    rw [← r.length]
    by_cases z : xs.length = n
    · exact z
    · rw [hg _ _ _ z] at q; exact q.elim
  cases w with
  | tup xs =>
    obtain ⟨a, vs, rfl, hs, rr⟩ := rv_tup rw'
    exact (pg_tup hc h hn hst).run pins s σ H _ u Q I r ⟨a, vs, rfl, hs, len rr q, M, φ, ρ, xs, rh, re, rr, q⟩
  | lst xs =>
    obtain ⟨a, vs, rfl, hs, rr⟩ := rv_list rh rw' (rfl : listOf φ (.lst xs) = some xs)
    exact (pg_unl hc h hn hst).run pins s σ H _ u Q I r ⟨a, vs, rfl, SqL.of hs, len rr q, M, φ, ρ, xs, rh, re, rr, q⟩
  | _ => exact q.elim
/-- a target that only goes on or not at all -/
def GOk (g : PL.PG) : Prop := ∀ v ρ φ, match g v ρ φ with | .nx _ _ => True | .bad => True | _ => False
def GsOk (g : List PV → Env → PHeap → O) : Prop := ∀ v ρ φ, match g v ρ φ with | .nx _ _ => True | .bad => True | _ => False
theorem gok_var {i : Nat} : GOk (gVar i) := fun _ _ _ => True.intro
theorem gok_nils : GsOk gNils := fun v ρ φ => by cases v <;> exact True.intro
theorem gok_cons {g : PL.PG} {r : List PV → Env → PHeap → O} (h : GOk g) (h2 : GsOk r) : GsOk (PL.gCons g r) := fun v ρ φ => by
  cases v with
  | nil => exact True.intro
  | cons x xs =>
    simp only [PL.gCons]
    cases e : g x ρ φ with
    | nx ρ1 φ1 => exact h2 xs ρ1 φ1
    | _ => exact True.intro
theorem gok_unp {g : List PV → Env → PHeap → O} (h : GsOk g) : GOk (gUnp g) := fun v ρ φ => by
  cases v <;> first | exact h _ ρ φ | exact True.intro

/-! ### try: nothing leaves the body -/
theorem s_try {body : List Stmt} {h₀ : ExceptHandler} {hs : List ExceptHandler} {b : SX} {pos : Pos} (hb : SsX X.nox body b) : StX X (.Try body (h₀ :: hs) [] [] pos) b := ps_try_thru0 hb

/-! ### a < b < c -/
/-- a op b op' c -/
def pChain (g g' : PV → PV → PHeap → R PV) (a b c : PX) : PX := fun ρ φ => (a ρ φ).bind fun u φ1 => (b ρ φ1).bind fun v φ2 => (g u v φ2).bind fun z φ3 => match z with
  | .bl true => (c ρ φ3).bind fun w φ4 => g' v w φ4
  | .bl false => .ok (.bl false) φ3
  | _ => .bad
section
variable {a b c : Expr} {fa fb fc : PX} {pos : Pos} {op op' : CmpOp} {g g' : PV → PV → PHeap → R PV}
theorem chain_read {r r' : R2} (hr : ∀ M H φ u v x y Q, RH X.K M H φ → RV X.K M H u x → RV X.K M H v y → Po X.K (RV X.K) M H (g u v φ) Q → r x y H Q) (hr' : ∀ M H φ u v x y Q, RH X.K M H φ → RV X.K M H u x → RV X.K M H v y → Po X.K (RV X.K) M H (g' u v φ) Q → r' x y H Q) :
    ∀ σ H Q, tE X.K (pChain g g' fa fb fc) σ H Q → tChain r r' (tE X.K fa) (tE X.K fb) (tE X.K fc) σ H Q := by
  rintro σ H Q ⟨M, φ, ρ, rh, re, h⟩
  refine ⟨M, φ, ρ, rh, re, (Po.bind (rel := RV X.K) h).mono ?_⟩
  rintro x H1 ⟨M1, φ1, u, e1, rh1, ru, h1⟩
  refine ⟨M1, φ1, ρ, rh1, re.ext e1, (Po.bind (rel := RV X.K) h1).mono ?_⟩
  rintro y H2 ⟨M2, φ2, v, e2, rh2, rv, h2⟩
  refine hr M2 H2 φ2 u v x y _ rh2 (e2.val _ _ ru) rv ((Po.bind (rel := RV X.K) h2).mono ?_)
  rintro z H3 ⟨M3, φ3, w, e3, rh3, rw', h3⟩
  split at h3
  · refine ⟨true, rv_bl rw', ite_tt ⟨M3, φ3, ρ, rh3, ((re.ext e1).ext e2).ext e3, (Po.bind (rel := RV X.K) h3).mono ?_⟩⟩
    rintro t H4 ⟨M4, φ4, s, e4, rh4, rs, h4⟩
    exact hr' M4 H4 φ4 v s y t Q rh4 (e4.val _ _ (e3.val _ _ rv)) rs h4
  · exact ⟨false, rv_bl rw', ite_ff (h3.ok rh3 (.bl _))⟩
  · exact h3.elim
theorem x_chain (ho : OpG X (compareOp op) g) (ho' : OpG X (compareOp op') g') (ha : EX X a fa) (hb : EX X b fb) (hc : EX X c fc) (hm : lastMarks [op, op'] [b, c] = false := by with_unfolding_all rfl) : EX X (.Compare a [op, op'] [b, c] pos) (pChain g g' fa fb fc) := by
  obtain ⟨r, hr, hp⟩ := ho.ex
  obtain ⟨r', hr', hp'⟩ := ho'.ex
  exact pe_imp (pe_chain hr hr' ha hb hc hm) (chain_read hp hp')
theorem t_chain (ho : OpG X (compareOp op) g) (ho' : OpG X (compareOp op') g') (ha : EX X a fa) (hb : EX X b fb) (hc : EX X c fc) (hm : lastMarks [op, op'] [b, c] = false := by with_unfolding_all rfl) : TX X (.Compare a [op, op'] [b, c] pos) (pTB (pChain g g' fa fb fc)) := by
  obtain ⟨r, hr, hp⟩ := ho.ex
  obtain ⟨r', hr', hp'⟩ := ho'.ex
  exact pt_imp (pt_chain hr hr' ha hb hc hm) (tb_read (chain_read hp hp'))
end
theorem x_globS {x z : Str} {s : List Nat} {pos : Pos} (h : ∃ t, X.mg x = some (.str z t)) (hz : z.cps.toList = s := by decide +kernel) (hc : (s.all (· < 0x110000)) = true := by decide) (hg : Gl X x := by rfl) (hd : (x == ("__debug__" : Str)) = false := by decide) : EX X (.Name x pos) (pC (.str s)) := by
  obtain ⟨t, h⟩ := h
  exact x_glob hg h (v := .str z) ⟨t, rfl⟩ (fun _ _ => .str hz fun c hm => of_decide_eq_true (List.all_eq_true.mp hc c hm)) hd
theorem x_globI {x : Str} {i : Int} {pos : Pos} (h : ∃ t, X.mg x = some (.int i t)) (hg : Gl X x := by rfl) (hd : (x == ("__debug__" : Str)) = false := by decide) : EX X (.Name x pos) (pC (.int i)) := by
  obtain ⟨t, h⟩ := h
  exact x_glob hg h (v := .int i) ⟨t, rfl⟩ (fun _ _ => .int i) hd
theorem room65 {k : Nat} {A : Around} (hr : Room k A) : A.units + 65 < cLine := by have := hr.un; omega
end

/-- the law's promise -/
def spLaw (K : PySem.W.Frag) : Sp := fun vs H Q _ => ∃ (a : Addr) (ns : List Int), vs = [.ref a] ∧ SqL K H a (ns.map V.int) ∧ ns.length ≤ 63 ∧ ∀ H', Q (.bl true) H'
theorem sp_law {K : PySem.W.Frag} {F : PF} (h : ∀ ns : List Int, ns.length ≤ 63 → ∃ φ, F [.scr ns] [] = .ok (.bl true) φ) : ∀ vs H Q E, spLaw K vs H Q E → spP K F 1 vs H Q E := by
  rintro vs H Q E ⟨a, ns, rfl, hs, hl, q⟩
  obtain ⟨φ, e⟩ := h ns hl
  have rv : RV K ⟨fun _ => none, fun _ => False⟩ H (.scr ns) (.ref a) := by
    rcases hs with h | h
    · exact .scr h (fun z => z)
    · exact .scrK fun H' => .inr h
  refine ⟨⟨fun _ => none, fun _ => False⟩, [], [.scr ns], ⟨fun k c h => (by simp at h), fun _ _ => rfl, fun _ _ _ h => (by cases h), fun _ _ h => (by cases h), fun _ h => False.elim h, fun _ h => False.elim h⟩, .cons rv .nil, rfl, ?_⟩
  rw [e]
  intro M' H' x _ _ r
  rw [rv_bl r]; exact q H'
theorem def_mk {K : PySem.W.Frag} {h : Heap} {mg : Str → Option Value} {x : Str} {st : Stmt} {f : Addr} {ps : List Str} {od an : Option Addr} {sl : Array (Option Value)} {oc kV dc pm cd ct : Value} (X : K.In h) (G : h.Ns mainGlobals mg)
    (a : PySem.W.nsIn K mainGlobals x = some (some (.ref f))) (l : K.lookup f = some ⟨oc, od, .func (PySem.W.fnOf x x (defArgs st) (defBody st) (defScope st) .none kV dc pm an cd ct), sl⟩) (c : PySem.W.codeIn K cd x = true) (k : PySem.W.keepIn K (.ref f) = true)
    (hb : ∀ (kV doc pm : Value) (an : Option Addr) (cdv ct : Value) (us : List Value), us.length = ps.length → bindArgs (PySem.W.fnOf x x (defArgs st) (defBody st) (defScope st) .none kV doc pm an cdv ct) ⟨us, []⟩ = pure (ps.zip us)) :
    ∃ f fd, Fun K x x st f fd ∧ mg x = some (.ref f) ∧ Binds K fd ps [] := ⟨f, _, fun_mk l c k, PySem.W.mg_of X G a, (fun_mk l c k).binds hb⟩
theorem bb_len : bootBuiltins "len" = some (.builtin "len") := by decide +kernel
theorem bb_abs : bootBuiltins "abs" = some (.builtin "abs") := by decide +kernel
theorem bb_max : bootBuiltins "max" = some (.builtin "max") := by decide +kernel
theorem bb_min : bootBuiltins "min" = some (.builtin "min") := by decide +kernel
theorem bb_sum : bootBuiltins "sum" = some (.builtin "sum") := by decide +kernel
theorem bb_sorted : bootBuiltins "sorted" = some (.builtin "sorted") := by decide +kernel
theorem bb_isinstance : bootBuiltins "isinstance" = some (.builtin "isinstance") := by decide +kernel
theorem bb_int : bootBuiltins "int" = some (.type "int") := by decide +kernel
theorem bb_str : bootBuiltins "str" = some (.type "str") := by decide +kernel
theorem bb_bool : bootBuiltins "bool" = some (.type "bool") := by decide +kernel
theorem bb_list : bootBuiltins "list" = some (.type "list") := by decide +kernel
theorem bb_tuple : bootBuiltins "tuple" = some (.type "tuple") := by decide +kernel
theorem bb_dict : bootBuiltins "dict" = some (.type "dict") := by decide +kernel
theorem bb_set : bootBuiltins "set" = some (.type "set") := by decide +kernel
end PL

/-! PW1: proof rules for the pure reading: what an evaluation ends with. -/
namespace PL
open PySem PyProof.Rows

/-- the evaluation ends well, in Q -/
def wR {α : Type} (r : R α) (Q : α → PHeap → Prop) : Prop := match r with
  | .ok v φ => Q v φ
  | _ => False
/-- a statement ends: on, with a return, by break, by continue -/
def wS (o : O) (N : Env → PHeap → Prop) (T : PV → PHeap → Prop) (B C : Env → PHeap → Prop) : Prop := match o with
  | .nx ρ φ => N ρ φ
  | .ret v φ => T v φ
  | .brk ρ φ => B ρ φ
  | .ct ρ φ => C ρ φ
  | _ => False
theorem wR.mono {α : Type} {r : R α} {Q Q' : α → PHeap → Prop} (h : wR r Q) (f : ∀ v φ, Q v φ → Q' v φ) : wR r Q' := by
  cases r <;> first | exact f _ _ h | exact h
theorem wR.ok {α : Type} {r : R α} {Q : α → PHeap → Prop} (h : wR r Q) : ∃ v φ, r = .ok v φ ∧ Q v φ := by
  cases r <;> first | exact ⟨_, _, rfl, h⟩ | exact h.elim
theorem wR_eq {α : Type} {r : R α} {v : α} {φ : PHeap} {Q : α → PHeap → Prop} (e : r = .ok v φ) (h : Q v φ) : wR r Q := by rw [e]; exact h
theorem wR_bind {α β : Type} {r : R α} {k : α → PHeap → R β} {Q : β → PHeap → Prop} (h : wR r fun v φ => wR (k v φ) Q) : wR (r.bind k) Q := by
  cases r <;> exact h
theorem wS.mono {o : O} {N N' : Env → PHeap → Prop} {T T' : PV → PHeap → Prop} {B B' C C' : Env → PHeap → Prop} (h : wS o N T B C) (f : ∀ ρ φ, N ρ φ → N' ρ φ) (g : ∀ v φ, T v φ → T' v φ) (b : ∀ ρ φ, B ρ φ → B' ρ φ) (c : ∀ ρ φ, C ρ φ → C' ρ φ) : wS o N' T' B' C' := by
  cases o <;> first | exact f _ _ h | exact g _ _ h | exact b _ _ h | exact c _ _ h | exact h
theorem wS_ofR {r : R PV} {ρ : Env} {k : PV → PHeap → O} {N : Env → PHeap → Prop} {T : PV → PHeap → Prop} {B C : Env → PHeap → Prop} (h : wR r fun v φ => wS (k v φ) N T B C) : wS (ofR r ρ k) N T B C := by
  cases r <;> exact h
theorem wS_ofB {r : R Bool} {ρ : Env} {k : Bool → PHeap → O} {N : Env → PHeap → Prop} {T : PV → PHeap → Prop} {B C : Env → PHeap → Prop} (h : wR r fun v φ => wS (k v φ) N T B C) : wS (ofB r ρ k) N T B C := by
  cases r <;> exact h
section
variable {ρ : Env} {φ : PHeap} {Q : PV → PHeap → Prop} {N : Env → PHeap → Prop} {T : PV → PHeap → Prop} {B C : Env → PHeap → Prop} {QB : Bool → PHeap → Prop} {QA : List PV → PHeap → Prop} {QO : Option Int → PHeap → Prop}
/-! statements -/
theorem w_seq {a b : SX} (h : wS (a ρ φ) (fun ρ1 φ1 => wS (b ρ1 φ1) N T B C) T B C) : wS (sSeq a b ρ φ) N T B C := by
  unfold sSeq; revert h; cases a ρ φ <;> exact id
theorem w_snil (h : N ρ φ) : wS (sNil ρ φ) N T B C := h
theorem w_set {i : Nat} {a : PX} (h : wR (a ρ φ) fun v φ1 => N (ρ.set i (some v)) φ1) : wS (sSet i a ρ φ) N T B C := wS_ofR (h.mono fun _ _ q => q)
theorem w_drop {a : PX} (h : wR (a ρ φ) fun _ φ1 => N ρ φ1) : wS (sDrop a ρ φ) N T B C := wS_ofR (h.mono fun _ _ q => q)
theorem w_ret {a : PX} (h : wR (a ρ φ) T) : wS (sRet a ρ φ) N T B C := wS_ofR (h.mono fun _ _ q => q)
theorem w_retN (h : T .non φ) : wS (sRetN ρ φ) N T B C := h
theorem w_brk (h : B ρ φ) : wS (sBrk ρ φ) N T B C := h
theorem w_ct (h : C ρ φ) : wS (sCt ρ φ) N T B C := h
theorem w_sif {t : PT} {a b : SX} (h : wR (t ρ φ) fun c φ1 => (c = true → wS (a ρ φ1) N T B C) ∧ (c = false → wS (b ρ φ1) N T B C)) : wS (sIf t a b ρ φ) N T B C := by
  refine wS_ofB (h.mono fun c φ1 q => ?_)
  cases c
  · exact q.2 rfl
  · exact q.1 rfl
theorem w_asg {g : PG} {a : PX} (h : wR (a ρ φ) fun v φ1 => wS (g v ρ φ1) N T B C) : wS (sAsg g a ρ φ) N T B C := wS_ofR h
theorem w_aug {g : PV → PV → PHeap → R PV} {i : Nat} {a : PX} {u : PV} (hu : ρ[i]? = some (some u)) (h : wR (a ρ φ) fun v φ1 => wR (g u v φ1) fun z φ2 => N (ρ.set i (some z)) φ2) : wS (sAug g i a ρ φ) N T B C := by
  unfold sAug; rw [hu]; exact wS_ofR (h.mono fun _ _ q => wS_ofR (q.mono fun _ _ q => q))
theorem w_sub {g : PV → PV → PV → PHeap → Option PHeap} {o i e : PX} (h : wR (e ρ φ) fun v φ1 => wR (o ρ φ1) fun u φ2 => wR (i ρ φ2) fun j φ3 => ∃ φ4, g u j v φ3 = some φ4 ∧ N ρ φ4) : wS (sSub g o i e ρ φ) N T B C := by
  refine wS_ofR (h.mono fun _ _ q => wS_ofR (q.mono fun _ _ q => wS_ofR (q.mono fun _ _ q => ?_)))
  obtain ⟨φ4, e, q⟩ := q
  rw [e]; exact q
/-! targets -/
theorem w_gvar {i : Nat} {v : PV} (h : N (ρ.set i (some v)) φ) : wS (gVar i v ρ φ) N T B C := h
theorem w_gunp {g : List PV → Env → PHeap → O} {xs : List PV} (h : wS (g xs ρ φ) N T B C) : wS (gUnp g (.tup xs) ρ φ) N T B C := h
theorem w_gunpL {g : List PV → Env → PHeap → O} {xs : List PV} (h : wS (g xs ρ φ) N T B C) : wS (gUnp g (.lst xs) ρ φ) N T B C := h
theorem w_gtup {g : List PV → Env → PHeap → O} {xs : List PV} (h : wS (g xs ρ φ) N T B C) : wS (gTup g (.tup xs) ρ φ) N T B C := h
theorem w_gcons {g : PG} {r : List PV → Env → PHeap → O} {v : PV} {us : List PV} (h : wS (g v ρ φ) (fun ρ1 φ1 => wS (r us ρ1 φ1) N T B C) (fun _ _ => False) (fun _ _ => False) (fun _ _ => False)) : wS (gCons g r (v :: us) ρ φ) N T B C := by
  cases hg : g v ρ φ with
  | nx ρ1 φ1 => rw [hg] at h; simp only [gCons, hg]; exact h
  | _ => rw [hg] at h; exact (show False from h).elim
theorem w_gnils (h : N ρ φ) : wS (gNils [] ρ φ) N T B C := h
/-! expressions -/
theorem w_var {i : Nat} {v : PV} (hv : ρ[i]? = some (some v)) (h : Q v φ) : wR (pVar i ρ φ) Q := by unfold pVar; rw [hv]; exact h
theorem w_c {v : PV} (h : Q v φ) : wR (pC v ρ φ) Q := h
theorem w_bin {g : PV → PV → PHeap → R PV} {a b : PX} (h : wR (a ρ φ) fun u φ1 => wR (b ρ φ1) fun v φ2 => wR (g u v φ2) Q) : wR (pBin g a b ρ φ) Q := wR_bind (h.mono fun _ _ q => wR_bind q)
theorem w_un {g : PV → PHeap → R PV} {a : PX} (h : wR (a ρ φ) fun u φ1 => wR (g u φ1) Q) : wR (pUn g a ρ φ) Q := wR_bind h
theorem w_nil (h : QA [] φ) : wR (pNil ρ φ) QA := h
theorem w_cons {a : PX} {r : PAs} (h : wR (a ρ φ) fun v φ1 => wR (r ρ φ1) fun vs φ2 => QA (v :: vs) φ2) : wR (pCons a r ρ φ) QA := wR_bind (h.mono fun _ _ q => wR_bind (q.mono fun _ _ q => q))
theorem w_tup {as : PAs} (h : wR (as ρ φ) fun vs φ1 => Q (.tup vs) φ1) : wR (pTup as ρ φ) Q := wR_bind (h.mono fun _ _ q => q)
theorem w_lst {as : PAs} (h : wR (as ρ φ) fun vs φ1 => Q (.lst vs) φ1) : wR (pLst as ρ φ) Q := wR_bind (h.mono fun _ _ q => q)
theorem w_lstC {as : PAs} (h : wR (as ρ φ) fun vs φ1 => Q (.loc φ1.length) (φ1 ++ [.lst vs])) : wR (pLstC as ρ φ) Q := wR_bind (h.mono fun _ _ q => q)
theorem w_if {t : PT} {a b : PX} (h : wR (t ρ φ) fun c φ1 => (c = true → wR (a ρ φ1) Q) ∧ (c = false → wR (b ρ φ1) Q)) : wR (pIf t a b ρ φ) Q := by
  refine wR_bind (h.mono fun c φ1 q => ?_)
  cases c
  · exact q.2 rfl
  · exact q.1 rfl
theorem w_eand {a b : PX} (h : wR (a ρ φ) fun u φ1 => ∃ c, u = .bl c ∧ (c = true → wR (b ρ φ1) Q) ∧ (c = false → Q (.bl false) φ1)) : wR (pAnd a b ρ φ) Q := by
  refine wR_bind (h.mono fun u φ1 q => ?_)
  obtain ⟨c, rfl, q1, q2⟩ := q
  cases c
  · exact q2 rfl
  · exact q1 rfl
theorem w_eor {a b : PX} (h : wR (a ρ φ) fun u φ1 => ∃ c, u = .bl c ∧ (c = true → Q (.bl true) φ1) ∧ (c = false → wR (b ρ φ1) Q)) : wR (pOr a b ρ φ) Q := by
  refine wR_bind (h.mono fun u φ1 q => ?_)
  obtain ⟨c, rfl, q1, q2⟩ := q
  cases c
  · exact q2 rfl
  · exact q1 rfl
theorem w_tb {a : PX} (h : wR (a ρ φ) fun u φ1 => ∃ c, u = .bl c ∧ QB c φ1) : wR (pTB a ρ φ) QB := by
  refine wR_bind (h.mono fun u φ1 q => ?_)
  obtain ⟨c, rfl, q⟩ := q
  exact q
theorem w_tand {a b : PT} (h : wR (a ρ φ) fun c φ1 => (c = true → wR (b ρ φ1) QB) ∧ (c = false → QB false φ1)) : wR (tAnd a b ρ φ) QB := by
  refine wR_bind (h.mono fun c φ1 q => ?_)
  cases c
  · exact q.2 rfl
  · exact q.1 rfl
theorem w_tor {a b : PT} (h : wR (a ρ φ) fun c φ1 => (c = true → QB true φ1) ∧ (c = false → wR (b ρ φ1) QB)) : wR (tOr a b ρ φ) QB := by
  refine wR_bind (h.mono fun c φ1 q => ?_)
  cases c
  · exact q.2 rfl
  · exact q.1 rfl
theorem w_tnot {a : PT} (h : wR (a ρ φ) fun c φ1 => QB (!c) φ1) : wR (tNot a ρ φ) QB := wR_bind (h.mono fun _ _ q => q)
theorem w_tyes (h : QB true φ) : wR (tYes ρ φ) QB := h
theorem w_call {F : PF} {as : PAs} (h : wR (as ρ φ) fun vs φ1 => wR (F vs φ1) Q) : wR (pCall F as ρ φ) Q := wR_bind h
theorem w_on (h : QO none φ) : wR (poN ρ φ) QO := h
theorem w_os {a : PX} (h : wR (a ρ φ) fun u φ1 => ∃ i, u = .int i ∧ QO (some i) φ1) : wR (poS a ρ φ) QO := by
  refine wR_bind (h.mono fun u φ1 q => ?_)
  obtain ⟨c, rfl, q⟩ := q
  exact q
theorem w_sl {g : PV → Option Int → Option Int → PHeap → R PV} {a : PX} {lo hi : PO} (h : wR (a ρ φ) fun u φ1 => wR (lo ρ φ1) fun l φ2 => wR (hi ρ φ2) fun r φ3 => wR (g u l r φ3) Q) : wR (pSl g a lo hi ρ φ) Q :=
  wR_bind (h.mono fun _ _ q => wR_bind (q.mono fun _ _ q => wR_bind q))
theorem w_lm {g : PV → List PV → PHeap → R PV} {o : PX} {as : PAs} (h : wR (o ρ φ) fun u φ1 => (listOf φ1 u).isSome = true ∧ wR (as ρ φ1) fun vs φ2 => wR (g u vs φ2) Q) : wR (pLm g o as ρ φ) Q := by
  refine wR_bind (h.mono fun u φ1 q => ?_)
  obtain ⟨q1, q⟩ := q
  revert q1
  cases listOf φ1 u with
  | none => exact fun h => by cases h
  | some _ => exact fun _ => wR_bind q
theorem w_is {t : String} {a : PX} (h : wR (a ρ φ) fun u φ1 => tyName u φ1 ≠ "" ∧ Q (.bl (isI t (tyName u φ1))) φ1) : wR (pIs t a ρ φ) Q := by
  refine wR_bind (h.mono fun u φ1 q => ?_)
  unfold gIs
  rw [if_neg q.1]; exact q.2
/-! functions -/
theorem w_fun {np ns : Nat} {m : Mode} {b : SX} {us : List PV} (hl : us.length = np) (h : wS (b (start ns us) φ) (fun _ φ1 => wR (finM m φ .non φ1) Q) (fun v φ1 => wR (finM m φ v φ1) Q) (fun _ _ => False) (fun _ _ => False)) : wR (pFun np ns m b us φ) Q := by
  unfold pFun; rw [if_pos hl]
  revert h; cases b (start ns us) φ <;> first | exact id | exact fun h => h.elim
theorem fin_ok {keep : Bool} {φ φ1 : PHeap} {v : PV} (hk : Keeps φ φ1) (hv : below φ.length v = true) : fin keep φ v φ1 = .ok v (φ1.take φ.length) := by
  unfold fin; rw [if_pos hk, hv]
theorem keeps_append {φ ψ : PHeap} : Keeps φ (φ ++ ψ) := ⟨by simp, fun k c h => .inl (by
  rw [List.getElem?_append_left (List.getElem?_eq_some_iff.mp h).1]; exact h)⟩
theorem keeps_self {φ : PHeap} : Keeps φ φ := ⟨Nat.le_refl _, fun _ _ h => .inl h⟩
/-- the first cell changed, new ones behind -/
theorem keeps_head {t t' : Cell} {ψ χ : PHeap} (h : cbelow 0 t' = true) (hm : ∀ n, cbelow 0 t' = true → cbelow n t' = true) : Keeps (t :: ψ) (t' :: (ψ ++ χ)) :=
  ⟨by simp, fun k c e => by
    cases k with
    | zero => exact .inr ⟨t', rfl, hm _ h⟩
    | succ k =>
      left
      simp only [List.getElem?_cons_succ] at e ⊢
      rw [List.getElem?_append_left (List.getElem?_eq_some_iff.mp e).1]; exact e⟩
theorem w_fin {keep : Bool} {φ1 : PHeap} {v : PV} (hk : Keeps φ φ1) (hv : below φ.length v = true) (h : Q v (φ1.take φ.length)) : wR (fin keep φ v φ1) Q := by
  rw [fin_ok hk hv]; exact h
theorem w_finL {keep : Bool} {φ1 : PHeap} {k : Nat} {xs : List PV} (hk : Keeps φ φ1) (hn : φ.length ≤ k) (hx : φ1[k]? = some (.lst xs)) (hb : belows φ.length xs = true) (h : if keep then Q (.loc φ.length) (φ1.take φ.length ++ [.lst xs]) else Q (.lst xs) (φ1.take φ.length)) : wR (fin keep φ (.loc k) φ1) Q := by
  unfold fin
  have e : below φ.length (.loc k) = false := by simp only [below]; exact decide_eq_false (by omega)
  rw [if_pos hk, e]
  simp only [hx, hb]
  cases keep <;> exact h
/-- .. where nothing old changed -/
theorem w_fin0 {m : Mode} {ψ : PHeap} {v : PV} (hm : m = .cut ∨ m = .keep) (hv : below φ.length v = true) (h : Q v φ) : wR (finM m φ v (φ ++ ψ)) Q := by
  rcases hm with rfl | rfl <;> exact w_fin keeps_append hv (by rw [List.take_left]; exact h)
theorem w_fin00 {m : Mode} {v : PV} (hm : m = .cut ∨ m = .keep) (hv : below φ.length v = true) (h : Q v φ) : wR (finM m φ v φ) Q := by
  have := w_fin0 (ψ := []) (Q := Q) hm hv h
  rwa [List.append_nil] at this
theorem w_cutL {ψ : PHeap} {k : Nat} {xs : List PV} (hn : φ.length ≤ k) (hx : (φ ++ ψ)[k]? = some (.lst xs)) (hb : belows φ.length xs = true) (h : Q (.lst xs) φ) : wR (finM .cut φ (.loc k) (φ ++ ψ)) Q :=
  w_finL keeps_append hn hx hb (by rw [List.take_left]; exact h)
theorem w_keepL {ψ : PHeap} {k : Nat} {xs : List PV} (hn : φ.length ≤ k) (hx : (φ ++ ψ)[k]? = some (.lst xs)) (hb : belows φ.length xs = true) (h : Q (.loc φ.length) (φ ++ [.lst xs])) : wR (finM .keep φ (.loc k) (φ ++ ψ)) Q :=
  w_finL keeps_append hn hx hb (by rw [List.take_left]; exact h)
end
/-! ### loops -/
section
variable {ρ : Env} {φ : PHeap} {Q : PV → PHeap → Prop} {N : Env → PHeap → Prop} {T : PV → PHeap → Prop} {B C : Env → PHeap → Prop}
abbrev QI := List PV × Option Nat → PHeap → Prop
theorem w_iseq {a : PX} {P : QI} (h : wR (a ρ φ) fun u φ1 => ∃ xs, itemsOf φ1 u = some xs ∧ P (xs, guardOf u) φ1) : wR (iSeq a ρ φ) P := by
  refine wR_bind (h.mono fun u φ1 q => ?_)
  obtain ⟨xs, e, q⟩ := q
  rw [e]; exact q
theorem w_irange1 {a : PX} {P : QI} (h : wR (a ρ φ) fun u φ1 => ∃ j, u = .int j ∧ smallI j ∧ P (intsFrom 0 j.toNat, none) φ1) : wR (iRange1 a ρ φ) P := by
  refine wR_bind (h.mono fun u φ1 q => ?_)
  obtain ⟨j, rfl, hs, q⟩ := q
  simp only [hs, if_true]; exact q
theorem w_irange2 {a b : PX} {P : QI} (h : wR (a ρ φ) fun u φ1 => wR (b ρ φ1) fun v φ2 => ∃ i j, u = .int i ∧ v = .int j ∧ smallI i ∧ smallI j ∧ P (intsFrom i (j - i).toNat, none) φ2) : wR (iRange2 a b ρ φ) P := by
  refine wR_bind (h.mono fun u φ1 q => wR_bind (q.mono fun v φ2 q => ?_))
  obtain ⟨i, j, rfl, rfl, hs, hs2, q⟩ := q
  simp only [hs, hs2, and_self, if_true]; exact q
/-- the walked cell stands -/
def stillP (g : Option Nat) (xs : List PV) (φ : PHeap) : Prop := ∀ k, g = some k → φ[k]? = some (.lst xs)
theorem still_of {g : Option Nat} {xs : List PV} {φ : PHeap} (h : stillP g xs φ) : still g xs φ = true := by
  unfold still
  cases g with
  | none => rfl
  | some k => simp only [h k rfl, if_true]
theorem stillP_none {xs : List PV} {φ : PHeap} : stillP none xs φ := fun _ h => by cases h
theorem forGo_inv {g : Option Nat} {all : List PV} {tg : PG} {b : SX} (I : Nat → Env → PHeap → Prop)
    (hb : ∀ k x ρ φ, all[k]? = some x → I k ρ φ → wS (tg x ρ φ) (fun ρ1 φ1 => wS (b ρ1 φ1) (fun ρ2 φ2 => stillP g all φ2 ∧ I (k + 1) ρ2 φ2) T N (fun ρ2 φ2 => stillP g all φ2 ∧ I (k + 1) ρ2 φ2)) (fun _ _ => False) (fun _ _ => False) (fun _ _ => False))
    (he : ∀ ρ φ, I all.length ρ φ → N ρ φ) : ∀ (r : List PV) (k : Nat) (ρ : Env) (φ : PHeap), all.drop k = r → k ≤ all.length → I k ρ φ → wS (forGo g all tg b r ρ φ) N T B C
  | [], k, ρ, φ, e, hk, h => by
    have : k = all.length := by
      have := congrArg List.length e; rw [List.length_drop] at this; simp at this; omega
    rw [this] at h
    exact he _ _ h
  | x :: r, k, ρ, φ, e, hk, h => by
    have hx : all[k]? = some x := by
      have := congrArg (·[0]?) e; simpa using this
    have e' : all.drop (k + 1) = r := by
      have := congrArg List.tail e; simpa using this
    have hk' : k + 1 ≤ all.length := (List.getElem?_eq_some_iff.mp hx).1
    have q := hb k x ρ φ hx h
    unfold forGo
    revert q
    cases tg x ρ φ with
    | nx ρ1 φ1 =>
      intro q
      change wS (b ρ1 φ1) _ _ _ _ at q
      simp only
      revert q
      cases b ρ1 φ1 with
      | nx ρ2 φ2 =>
          intro q
          simp only [still_of q.1, if_true]
          exact forGo_inv I hb he r (k + 1) ρ2 φ2 e' hk' q.2
      | ct ρ2 φ2 =>
          intro q
          simp only [still_of q.1, if_true]
          exact forGo_inv I hb he r (k + 1) ρ2 φ2 e' hk' q.2
      | brk ρ2 φ2 => exact fun q => q
      | ret v φ2 => exact fun q => q
      | err e ρ2 φ2 => exact fun q => q.elim
      | bad => exact fun q => q.elim
    | _ => exact fun q => q.elim
/-- for, by an invariant at each place -/
theorem w_for {it : PI} {tg : PG} {b : SX} (I : Nat → Env → PHeap → Prop) (h : wR (it ρ φ) fun p φ1 => stillP p.2 p.1 φ1 ∧ I 0 ρ φ1 ∧
      (∀ k x ρ φ, p.1[k]? = some x → I k ρ φ → wS (tg x ρ φ) (fun ρ1 φ1 => wS (b ρ1 φ1) (fun ρ2 φ2 => stillP p.2 p.1 φ2 ∧ I (k + 1) ρ2 φ2) T N (fun ρ2 φ2 => stillP p.2 p.1 φ2 ∧ I (k + 1) ρ2 φ2)) (fun _ _ => False) (fun _ _ => False) (fun _ _ => False)) ∧
      (∀ ρ φ, I p.1.length ρ φ → N ρ φ)) : wS (sFor it tg b ρ φ) N T B C := by
  unfold sFor
  revert h
  cases it ρ φ with
  | ok p φ1 =>
    rintro ⟨h1, h2, h3, h4⟩
    simp only [still_of h1, if_true]
    exact forGo_inv I h3 h4 p.1 0 ρ φ1 rfl (Nat.zero_le _) h2
  | err e φ1 => exact fun h => h.elim
  | bad => exact fun h => h.elim
theorem lcGo_inv {g : Option Nat} {all : List PV} {tg : PG} {t : PT} {e : PX} (I : Nat → List PV → PHeap → Prop) {P : List PV → PHeap → Prop} {ρ : Env}
    (hb : ∀ k x acc φ, all[k]? = some x → I k acc φ → acc.length ≤ k → wS (tg x ρ φ) (fun ρ1 φ1 => wR (t ρ1 φ1) fun c φ2 => (c = true → wR (e ρ1 φ2) fun v φ3 => stillP g all φ3 ∧ I (k + 1) (acc ++ [v]) φ3) ∧ (c = false → stillP g all φ2 ∧ I (k + 1) acc φ2)) (fun _ _ => False) (fun _ _ => False) (fun _ _ => False))
    (he : ∀ acc φ, I all.length acc φ → acc.length ≤ all.length → P acc φ) (hl : all.length ≤ sizeLine) : ∀ (r acc : List PV) (k : Nat) (φ : PHeap), all.drop k = r → k ≤ all.length → acc.length ≤ k → I k acc φ → wR (lcGo g all tg t e r acc ρ φ) P
  | [], acc, k, φ, e, hk, ha, h => by
    have : k = all.length := by
      have := congrArg List.length e; rw [List.length_drop] at this; simp at this; omega
    subst this
    exact he _ _ h ha
  | x :: r, acc, k, φ, e', hk, ha, h => by
    have hx : all[k]? = some x := by
      have := congrArg (·[0]?) e'; simpa using this
    have e'' : all.drop (k + 1) = r := by
      have := congrArg List.tail e'; simpa using this
    have hk' : k + 1 ≤ all.length := (List.getElem?_eq_some_iff.mp hx).1
    have q := hb k x acc φ hx h ha
    unfold lcGo
    revert q
    cases tg x ρ φ with
    | nx ρ1 φ1 =>
      intro q
      refine wR_bind (wR.mono (show wR (t ρ1 φ1) _ from q) fun c φ2 q => ?_)
      cases c with
      | true =>
        simp only [if_true]
        refine wR_bind (wR.mono (q.1 rfl) fun v φ3 q => ?_)
        have hs : decide (acc.length < sizeLine) = true := decide_eq_true (by omega)
        simp only [still_of q.1, hs, Bool.and_self, if_true]
        exact lcGo_inv I hb he hl r _ (k + 1) φ3 e'' hk' (by simp; omega) q.2
      | false =>
        have q := q.2 rfl
        simp only [still_of q.1, if_true, Bool.false_eq_true, if_false]
        exact lcGo_inv I hb he hl r _ (k + 1) φ2 e'' hk' (by omega) q.2
    | _ => exact fun q => q.elim
/-- a comprehension, by an invariant at each place -/
theorem w_lc {m : Bool} {it : PI} {tg : PG} {t : PT} {e : PX} (I : Nat → List PV → PHeap → Prop) (h : wR (it ρ φ) fun p φ1 => stillP p.2 p.1 φ1 ∧ p.1.length ≤ sizeLine ∧ I 0 [] φ1 ∧
      (∀ k x acc φ, p.1[k]? = some x → I k acc φ → acc.length ≤ k → wS (tg x ρ φ) (fun ρ1 φ1 => wR (t ρ1 φ1) fun c φ2 => (c = true → wR (e ρ1 φ2) fun v φ3 => stillP p.2 p.1 φ3 ∧ I (k + 1) (acc ++ [v]) φ3) ∧ (c = false → stillP p.2 p.1 φ2 ∧ I (k + 1) acc φ2)) (fun _ _ => False) (fun _ _ => False) (fun _ _ => False)) ∧
      (∀ acc φ, I p.1.length acc φ → acc.length ≤ p.1.length → wR (mkList m acc φ) Q)) : wR (pLc m it tg t e ρ φ) Q := by
  unfold pLc
  refine wR_bind (h.mono fun p φ1 q => ?_)
  obtain ⟨h1, h2, h3, h4, h5⟩ := q
  simp only [still_of h1, if_true]
  have := lcGo_inv I h4 (P := fun acc φ => wR (mkList m acc φ) Q) h5 h2 p.1 [] 0 φ1 rfl (Nat.zero_le _) (Nat.zero_le _) h3
  revert this
  cases lcGo p.2 p.1 tg t e p.1 [] ρ φ1 <;> first | exact id | exact fun h => h.elim
/-- .. of a pure element -/
theorem w_lcP {m : Bool} {it : PI} {i : Nat} {t : PT} {e : PX} (p : PV → Bool) (f : PV → PV) (h : wR (it ρ φ) fun q φ1 => stillP q.2 q.1 φ1 ∧ q.1.length ≤ sizeLine ∧
      (∀ x, x ∈ q.1 → t (ρ.set i (some x)) φ1 = .ok (p x) φ1) ∧ (∀ x, x ∈ q.1 → p x = true → e (ρ.set i (some x)) φ1 = .ok (f x) φ1) ∧ wR (mkList m ((q.1.filter p).map f) φ1) Q) : wR (pLc m it (gVar i) t e ρ φ) Q := by
  unfold pLc
  refine wR_bind (h.mono fun q φ1 hq => ?_)
  obtain ⟨h1, h2, h3, h4, h5⟩ := hq
  simp only [still_of h1, if_true]
  have : ∀ (r acc : List PV), (∀ x ∈ r, x ∈ q.1) → acc.length + r.length ≤ sizeLine → lcGo q.2 q.1 (gVar i) t e r acc ρ φ1 = .ok (acc ++ (r.filter p).map f) φ1 := by
    intro r
    induction r with
    | nil => intro acc _ _; simp [lcGo]
    | cons x r ih =>
      intro acc hm hl
      simp only [lcGo, gVar]
      rw [h3 x (hm x (by simp))]
      simp only [List.length_cons] at hl
      simp only [R.bind_ok]
      by_cases hp : p x = true
      · have hs : decide (acc.length < sizeLine) = true := decide_eq_true (by omega)
        rw [hp, h4 x (hm x (by simp)) hp]
        simp only [if_true, R.bind_ok, still_of h1, hs, Bool.and_self]
        rw [ih _ (fun y hy => hm y (by simp [hy])) (by simp; omega), List.filter_cons_of_pos hp]
        simp
      · rw [Bool.not_eq_true] at hp
        rw [hp]
        simp only [Bool.false_eq_true, if_false, still_of h1, if_true]
        rw [ih _ (fun y hy => hm y (by simp [hy])) (by omega), List.filter_cons_of_neg (by rw [hp]; decide)]
  rw [this q.1 [] (fun _ h => h) (by simpa using h2)]
  simpa [lcEnd] using h5
theorem w_mkF {xs : List PV} (h : Q (.lst xs) φ) : wR (mkList false xs φ) Q := h
theorem w_mkT {xs : List PV} (h : Q (.loc φ.length) (φ ++ [.lst xs])) : wR (mkList true xs φ) Q := h
end
/-! ### ranges -/
theorem intsFrom_length (lo : Int) (n : Nat) : (intsFrom lo n).length = n := by simp [intsFrom]
theorem intsFrom_get {lo : Int} {n k : Nat} {x : PV} (h : (intsFrom lo n)[k]? = some x) : x = .int (lo + k) ∧ k < n := by
  simp only [intsFrom, List.getElem?_map, Option.map_eq_some_iff] at h
  obtain ⟨i, hi, rfl⟩ := h
  obtain ⟨h1, h2⟩ := List.getElem?_eq_some_iff.mp hi
  simp at h1 h2
  subst h2; exact ⟨rfl, h1⟩
theorem intsFrom_mem {lo : Int} {n : Nat} {x : PV} (h : x ∈ intsFrom lo n) : ∃ k : Nat, k < n ∧ x = .int (lo + k) := by
  simp only [intsFrom, List.mem_map, List.mem_range] at h
  obtain ⟨k, hk, rfl⟩ := h
  exact ⟨k, hk, rfl⟩
end PL

/-! PW2: the operators' and built-ins' rules. -/
namespace PL
open PySem PyProof.Rows L2
section
variable {φ : PHeap} {Q : PV → PHeap → Prop} {i j : Int} {xs ys : List PV} {s z : List Nat} {m : Bool} {u v x : PV}
theorem w_addI (h : Q (.int (i + j)) φ) : wR (gAdd m (.int i) (.int j) φ) Q := h
theorem w_addS (hl : s.length + z.length ≤ sizeLine) (h : Q (.str (s ++ z)) φ) : wR (gAdd m (.str s) (.str z) φ) Q := by
  simp only [gAdd, if_pos hl]; exact h
theorem w_addT (hl : xs.length + ys.length ≤ sizeLine) (h : Q (.tup (xs ++ ys)) φ) : wR (gAdd m (.tup xs) (.tup ys) φ) Q := by
  simp only [gAdd, if_pos hl]; exact h
theorem w_addL (hl : xs.length + ys.length ≤ sizeLine) (h : wR (mkList m (xs ++ ys) φ) Q) : wR (gAdd m (.lst xs) (.lst ys) φ) Q := by
  simp only [gAdd, listOf, if_pos hl]; exact h
theorem w_addX (h1 : listOf φ u = some xs) (h2 : listOf φ v = some ys) (hl : xs.length + ys.length ≤ sizeLine) (h : wR (mkList m (xs ++ ys) φ) Q) : wR (gAdd m u v φ) Q := by
  unfold gAdd
  cases u <;> cases v <;> first | (simp [listOf] at h1; done) | (simp [listOf] at h2; done) | (simp only [h1, h2, if_pos hl]; exact h)
theorem w_subI (h : Q (.int (i - j)) φ) : wR (gSub (.int i) (.int j) φ) Q := h
theorem w_mulI (hc : CMul i j) (h : Q (.int (i * j)) φ) : wR (gMul (.int i) (.int j) φ) Q := by
  simp only [gMul, if_pos hc]; exact h
theorem cmulR (h1 : -1000000000 < j) (h2 : j < 1000000000) : CMul i j := Or.inr ⟨by omega, by omega⟩
theorem cmulL (h1 : -1000000000 < i) (h2 : i < 1000000000) : CMul i j := Or.inl ⟨by omega, by omega⟩
theorem cpowL (h1 : 0 ≤ j) (h2 : j ≤ 1000000) (h3 : i.natAbs < 2 ^ 64) : CPow i j := ⟨h1, h2, h3⟩
theorem w_fdivI (hc : CDiv i j) (h : Q (.int (i / j)) φ) : wR (gFdiv (.int i) (.int j) φ) Q := by
  simp only [gFdiv, if_pos hc]; exact h
theorem w_modI (hc : 0 < j) (h : Q (.int (i % j)) φ) : wR (gMod (.int i) (.int j) φ) Q := by
  simp only [gMod, if_pos hc]; exact h
theorem w_powI (hc : CPow i j) (h : Q (.int (i ^ j.toNat)) φ) : wR (gPow (.int i) (.int j) φ) Q := by
  simp only [gPow, if_pos hc]; exact h
theorem w_neg (h : Q (.int (-i)) φ) : wR (gNeg (.int i) φ) Q := h
theorem w_not {b : Bool} (h : Q (.bl (!b)) φ) : wR (gNot (.bl b) φ) Q := h
theorem w_ltI (h : Q (.bl (decide (i < j))) φ) : wR (gLt (.int i) (.int j) φ) Q := h
theorem w_ltS (h : Q (.bl (decide (s < z))) φ) : wR (gLt (.str s) (.str z) φ) Q := h
theorem w_leI (h : Q (.bl (decide (i ≤ j))) φ) : wR (gLe (.int i) (.int j) φ) Q := h
theorem w_gtI (h : Q (.bl (decide (j < i))) φ) : wR (gGt (.int i) (.int j) φ) Q := h
theorem w_geI (h : Q (.bl (decide (j ≤ i))) φ) : wR (gGe (.int i) (.int j) φ) Q := h
theorem w_eqD (hu : okd 64 (norm φ u) = true) (hv : okd 64 (norm φ v) = true) (h : Q (.bl (pvEq (norm φ u) (norm φ v))) φ) : wR (gEq u v φ) Q := by
  unfold gEq; simp only [hu, hv, Bool.and_self, if_true]; exact h
theorem w_neD (hu : okd 64 (norm φ u) = true) (hv : okd 64 (norm φ v) = true) (h : Q (.bl (!pvEq (norm φ u) (norm φ v))) φ) : wR (gNe u v φ) Q := by
  unfold gNe; simp only [hu, hv, Bool.and_self, if_true]; exact h
theorem beq_dec {α : Type} [DecidableEq α] {a b : α} : (a == b) = decide (a = b) := rfl
theorem w_eqI (h : Q (.bl (decide (i = j))) φ) : wR (gEq (.int i) (.int j) φ) Q := w_eqD rfl rfl h
theorem w_neI (h : Q (.bl (!decide (i = j))) φ) : wR (gNe (.int i) (.int j) φ) Q := w_neD rfl rfl h
theorem w_eqS (h : Q (.bl (s == z)) φ) : wR (gEq (.str s) (.str z) φ) Q := w_eqD rfl rfl h
theorem w_neS (h : Q (.bl (!(s == z))) φ) : wR (gNe (.str s) (.str z) φ) Q := w_neD rfl rfl h
theorem w_eqB {a b : Bool} (h : Q (.bl (a == b)) φ) : wR (gEq (.bl a) (.bl b) φ) Q := w_eqD rfl rfl h
theorem w_neB {a b : Bool} (h : Q (.bl (!(a == b))) φ) : wR (gNe (.bl a) (.bl b) φ) Q := w_neD rfl rfl h
theorem w_isN (h : Q (.bl (isNon u)) φ) : wR (gIsN u .non φ) Q := h
theorem w_notN (h : Q (.bl (!isNon u)) φ) : wR (gNotN u .non φ) Q := h
theorem w_ixT (hx : pyIx xs i = some x) (h : Q x φ) : wR (gIx (.tup xs) (.int i) φ) Q := by
  simp only [gIx, seqOf, hx]; exact h
theorem w_ixL (hx : pyIx xs i = some x) (h : Q x φ) : wR (gIx (.lst xs) (.int i) φ) Q := by
  simp only [gIx, seqOf, hx]; exact h
theorem w_ixC {k : Nat} (hk : φ[k]? = some (.lst xs)) (hx : pyIx xs i = some x) (h : Q x φ) : wR (gIx (.loc k) (.int i) φ) Q := by
  simp only [gIx, seqOf, hk, hx]; exact h
theorem w_ixS {c : Nat} (hl : s.length ≤ sizeLine) (hx : pyIx s i = some c) (h : Q (.str [c]) φ) : wR (gIx (.str s) (.int i) φ) Q := by
  simp only [gIx, if_pos hl, hx]; exact h
theorem pyIx_nat {α : Type} {xs : List α} {i : Int} {x : α} (h0 : 0 ≤ i) (h : xs[i.toNat]? = some x) : pyIx xs i = some x := by
  unfold pyIx; rw [if_pos h0]; exact h
theorem w_ixT0 (h : Q x φ) : wR (gIx (.tup (x :: xs)) (.int 0) φ) Q := w_ixT (i := 0) (pyIx_nat (by decide) rfl) h
theorem w_ixL0 (h : Q x φ) : wR (gIx (.lst (x :: xs)) (.int 0) φ) Q := w_ixL (i := 0) (pyIx_nat (by decide) rfl) h
theorem w_ixC0 {k : Nat} (hk : φ[k]? = some (.lst (x :: xs))) (h : Q x φ) : wR (gIx (.loc k) (.int 0) φ) Q := w_ixC (i := 0) hk (pyIx_nat (by decide) rfl) h
theorem w_ixT1 {a : PV} (h : Q x φ) : wR (gIx (.tup (a :: x :: xs)) (.int 1) φ) Q := w_ixT (i := 1) (pyIx_nat (by decide) rfl) h
theorem w_ixL1 {a : PV} (h : Q x φ) : wR (gIx (.lst (a :: x :: xs)) (.int 1) φ) Q := w_ixL (i := 1) (pyIx_nat (by decide) rfl) h
theorem w_ixC1 {a : PV} {k : Nat} (hk : φ[k]? = some (.lst (a :: x :: xs))) (h : Q x φ) : wR (gIx (.loc k) (.int 1) φ) Q := w_ixC (i := 1) hk (pyIx_nat (by decide) rfl) h
theorem w_ixT2 {a b : PV} (h : Q x φ) : wR (gIx (.tup (a :: b :: x :: xs)) (.int 2) φ) Q := w_ixT (i := 2) (pyIx_nat (by decide) rfl) h
theorem w_ixL2 {a b : PV} (h : Q x φ) : wR (gIx (.lst (a :: b :: x :: xs)) (.int 2) φ) Q := w_ixL (i := 2) (pyIx_nat (by decide) rfl) h
theorem w_ixC2 {a b : PV} {k : Nat} (hk : φ[k]? = some (.lst (a :: b :: x :: xs))) (h : Q x φ) : wR (gIx (.loc k) (.int 2) φ) Q := w_ixC (i := 2) hk (pyIx_nat (by decide) rfl) h
theorem w_ixT3 {a b c : PV} (h : Q x φ) : wR (gIx (.tup (a :: b :: c :: x :: xs)) (.int 3) φ) Q := w_ixT (i := 3) (pyIx_nat (by decide) rfl) h
theorem w_ixL3 {a b c : PV} (h : Q x φ) : wR (gIx (.lst (a :: b :: c :: x :: xs)) (.int 3) φ) Q := w_ixL (i := 3) (pyIx_nat (by decide) rfl) h
theorem w_ixC3 {a b c : PV} {k : Nat} (hk : φ[k]? = some (.lst (a :: b :: c :: x :: xs))) (h : Q x φ) : wR (gIx (.loc k) (.int 3) φ) Q := w_ixC (i := 3) hk (pyIx_nat (by decide) rfl) h
theorem w_ixT4 {a b c d : PV} (h : Q x φ) : wR (gIx (.tup (a :: b :: c :: d :: x :: xs)) (.int 4) φ) Q := w_ixT (i := 4) (pyIx_nat (by decide) rfl) h
theorem w_ixL4 {a b c d : PV} (h : Q x φ) : wR (gIx (.lst (a :: b :: c :: d :: x :: xs)) (.int 4) φ) Q := w_ixL (i := 4) (pyIx_nat (by decide) rfl) h
theorem w_ixC4 {a b c d : PV} {k : Nat} (hk : φ[k]? = some (.lst (a :: b :: c :: d :: x :: xs))) (h : Q x φ) : wR (gIx (.loc k) (.int 4) φ) Q := w_ixC (i := 4) hk (pyIx_nat (by decide) rfl) h
theorem w_setT0 {ψ : PHeap} {P : PHeap → Prop} (h : P (.lst (v :: xs) :: ψ)) : ∃ φ4, gSetIx (.loc 0) (.int 0) v (.lst (x :: xs) :: ψ) = some φ4 ∧ P φ4 := ⟨_, by
  have e : ixN (x :: xs).length 0 = some 0 := by
    unfold ixN; rw [if_pos (by decide), if_pos (by simp only [List.length_cons]; omega)]; rfl
  simp only [gSetIx, List.getElem?_cons_zero, e]; rfl, h⟩
theorem w_setT1 {a : PV} {ψ : PHeap} {P : PHeap → Prop} (h : P (.lst (a :: v :: xs) :: ψ)) : ∃ φ4, gSetIx (.loc 0) (.int 1) v (.lst (a :: x :: xs) :: ψ) = some φ4 ∧ P φ4 := ⟨_, by
  have e : ixN (a :: x :: xs).length 1 = some 1 := by
    unfold ixN; rw [if_pos (by decide), if_pos (by simp only [List.length_cons]; omega)]; rfl
  simp only [gSetIx, List.getElem?_cons_zero, e]; rfl, h⟩
theorem w_setT2 {a b : PV} {ψ : PHeap} {P : PHeap → Prop} (h : P (.lst (a :: b :: v :: xs) :: ψ)) : ∃ φ4, gSetIx (.loc 0) (.int 2) v (.lst (a :: b :: x :: xs) :: ψ) = some φ4 ∧ P φ4 := ⟨_, by
  have e : ixN (a :: b :: x :: xs).length 2 = some 2 := by
    unfold ixN; rw [if_pos (by decide), if_pos (by simp only [List.length_cons]; omega)]; rfl
  simp only [gSetIx, List.getElem?_cons_zero, e]; rfl, h⟩
theorem w_setT3 {a b c : PV} {ψ : PHeap} {P : PHeap → Prop} (h : P (.lst (a :: b :: c :: v :: xs) :: ψ)) : ∃ φ4, gSetIx (.loc 0) (.int 3) v (.lst (a :: b :: c :: x :: xs) :: ψ) = some φ4 ∧ P φ4 := ⟨_, by
  have e : ixN (a :: b :: c :: x :: xs).length 3 = some 3 := by
    unfold ixN; rw [if_pos (by decide), if_pos (by simp only [List.length_cons]; omega)]; rfl
  simp only [gSetIx, List.getElem?_cons_zero, e]; rfl, h⟩
theorem w_setT4 {a b c d : PV} {ψ : PHeap} {P : PHeap → Prop} (h : P (.lst (a :: b :: c :: d :: v :: xs) :: ψ)) : ∃ φ4, gSetIx (.loc 0) (.int 4) v (.lst (a :: b :: c :: d :: x :: xs) :: ψ) = some φ4 ∧ P φ4 := ⟨_, by
  have e : ixN (a :: b :: c :: d :: x :: xs).length 4 = some 4 := by
    unfold ixN; rw [if_pos (by decide), if_pos (by simp only [List.length_cons]; omega)]; rfl
  simp only [gSetIx, List.getElem?_cons_zero, e]; rfl, h⟩
theorem pyIx_lt {α : Type} {xs : List α} {i : Int} (h0 : 0 ≤ i) (h : i < xs.length) : ∃ x, pyIx xs i = some x ∧ x ∈ xs := by
  have hl : i.toNat < xs.length := by omega
  exact ⟨xs[i.toNat], pyIx_nat h0 (List.getElem?_eq_getElem hl), List.getElem_mem hl⟩
theorem w_lenT (h : Q (.int xs.length) φ) : wR (gLen [.tup xs] φ) Q := h
theorem w_lenL (h : Q (.int xs.length) φ) : wR (gLen [.lst xs] φ) Q := h
theorem w_lenC {k : Nat} (hk : φ[k]? = some (.lst xs)) (h : Q (.int xs.length) φ) : wR (gLen [.loc k] φ) Q := by
  simp only [gLen, seqOf, hk]; exact h
theorem w_lenS (hl : s.length ≤ sizeLine) (h : Q (.int s.length) φ) : wR (gLen [.str s] φ) Q := by
  simp only [gLen, if_pos hl]; exact h
theorem w_abs (h : Q (.int (if i < 0 then -i else i)) φ) : wR (gAbs [.int i] φ) Q := h
theorem w_max2 (h : Q (.int (if j > i then j else i)) φ) : wR (gMax2 [.int i, .int j] φ) Q := h
theorem w_min2 (h : Q (.int (if j < i then j else i)) φ) : wR (gMin2 [.int i, .int j] φ) Q := h
theorem w_int (h : Q (.int i) φ) : wR (gInt [.int i] φ) Q := h
theorem w_listS {ns : List Int} (h : wR (mkList m (ns.map .int) φ) Q) : wR (gListOf m [.scr ns] φ) Q := h
theorem w_listX (hs : seqOf φ u = some xs) (h : wR (mkList m xs φ) Q) : wR (gListOf m [u] φ) Q := by
  cases u <;> first | (simp [seqOf] at hs; done) | (simp only [gListOf, hs]; exact h)
theorem w_tupX (hs : seqOf φ u = some xs) (h : Q (.tup xs) φ) : wR (gTupOf [u] φ) Q := by
  simp only [gTupOf, hs]; exact h
theorem w_appC {k : Nat} (hk : φ[k]? = some (.lst xs)) (hl : xs.length < sizeLine) (h : Q .non (φ.set k (.lst (xs ++ [v])))) : wR (gAppend (.loc k) [v] φ) Q := by
  simp only [gAppend, hk, if_pos hl]; exact h
theorem w_slS {lo hi : Option Int} (hl : s.length ≤ sizeLine) (h : Q (.str (cutL s lo hi)) φ) : wR (gSl m (.str s) lo hi φ) Q := by
  simp only [gSl, if_pos hl]; exact h
theorem w_slT {lo hi : Option Int} (h : Q (.tup (cutL xs lo hi)) φ) : wR (gSl m (.tup xs) lo hi φ) Q := h
theorem w_slL {lo hi : Option Int} (h : wR (mkList m (cutL xs lo hi) φ) Q) : wR (gSl m (.lst xs) lo hi φ) Q := h
theorem w_slC {lo hi : Option Int} {k : Nat} (hk : φ[k]? = some (.lst xs)) (h : wR (mkList m (cutL xs lo hi) φ) Q) : wR (gSl m (.loc k) lo hi φ) Q := by
  simp only [gSl, listOf, hk]; exact h
theorem w_sum {ns : List Int} (hs : listOf φ u = some xs) (hi : intsOf xs = some ns) (h : Q (.int ns.sum) φ) : wR (gSum [u] φ) Q := by
  simp only [gSum, hs, hi]; exact h
theorem w_maxL {n : Int} {r : List Int} (hs : listOf φ u = some xs) (hi : intsOf xs = some (n :: r)) (h : Q (.int (maxI r n)) φ) : wR (gMaxL [u] φ) Q := by
  simp only [gMaxL, hs, hi]; exact h
theorem w_minL {n : Int} {r : List Int} (hs : listOf φ u = some xs) (hi : intsOf xs = some (n :: r)) (h : Q (.int (minI r n)) φ) : wR (gMinL [u] φ) Q := by
  simp only [gMinL, hs, hi]; exact h
theorem w_strI (hc : 0 ≤ i ∧ i.natAbs.log2 < 1920) (h : Q (.str (TL.numL i.natAbs)) φ) : wR (gStrI [.int i] φ) Q := by
  simp only [gStrI, if_pos hc]; exact h
theorem w_in {b : Bool} (hb : inB φ u v = some b) (h : Q (.bl b) φ) : wR (gIn u v φ) Q := by
  simp only [gIn, hb]; exact h
theorem w_notIn {b : Bool} (hb : inB φ u v = some b) (h : Q (.bl (!b)) φ) : wR (gNotIn u v φ) Q := by
  simp only [gNotIn, hb]; exact h
theorem w_gis {t : String} (hn : tyName u φ ≠ "") (h : Q (.bl (isI t (tyName u φ))) φ) : wR (gIs t u φ) Q := by
  unfold gIs; rw [if_neg hn]; exact h
theorem intsOf_map (ns : List Int) : intsOf (ns.map .int) = some ns := by
  induction ns with
  | nil => rfl
  | cons n r ih => simp only [List.map_cons, intsOf, ih]
theorem w_is' {t : String} {a : PX} {ρ : Env} (h : wR (a ρ φ) fun u φ1 => wR (gIs t u φ1) Q) : wR (pIs t a ρ φ) Q := wR_bind h
theorem w_isT {t : String} (h : Q (.bl (isI t "tuple")) φ) : wR (gIs t (.tup xs) φ) Q := w_gis (show "tuple" ≠ "" by decide) h
theorem w_isS {t : String} (h : Q (.bl (isI t "str")) φ) : wR (gIs t (.str s) φ) Q := w_gis (show "str" ≠ "" by decide) h
theorem w_isI {t : String} (h : Q (.bl (isI t "int")) φ) : wR (gIs t (.int i) φ) Q := w_gis (show "int" ≠ "" by decide) h
theorem w_isB {t : String} {b : Bool} (h : Q (.bl (isI t "bool")) φ) : wR (gIs t (.bl b) φ) Q := w_gis (show "bool" ≠ "" by decide) h
theorem w_isO {t : String} (h : Q (.bl (isI t "NoneType")) φ) : wR (gIs t .non φ) Q := w_gis (show "NoneType" ≠ "" by decide) h
theorem w_isL {t : String} (h : Q (.bl (isI t "list")) φ) : wR (gIs t (.lst xs) φ) Q := w_gis (show "list" ≠ "" by decide) h
end
/-! ### the tape -/
def TapeOK (t : Cell) : Prop := ∃ (ns : List Int) (p q r : Int), t = .lst [.lst (ns.map .int), .int p, .int q, .int r] ∧ 0 ≤ p ∧ 0 ≤ q
theorem belows_ints (n : Nat) (ns : List Int) : belows n (ns.map .int) = true := by
  induction ns with
  | nil => rfl
  | cons a r ih => simp only [List.map_cons, belows, below, ih, Bool.and_self]
theorem TapeOK.below {t : Cell} (h : TapeOK t) (n : Nat) : cbelow n t = true := by
  obtain ⟨ns, p, q, r, rfl, _⟩ := h
  simp only [cbelow, belows, PL.below, belows_ints, Bool.and_self]
theorem belows_mem {n : Nat} {x : PV} : ∀ {xs : List PV}, belows n xs = true → x ∈ xs → below n x = true
  | y :: r, h, hm => by
    simp only [belows, Bool.and_eq_true] at h
    rcases List.mem_cons.mp hm with rfl | hm
    · exact h.1
    · exact belows_mem h.2 hm
section
variable {t t' : Cell} {ψ χ : PHeap} {Q : PV → PHeap → Prop} {v : PV}
theorem keeps_tape (ht : TapeOK t') : Keeps (t :: ψ) (t' :: (ψ ++ χ)) := keeps_head (ht.below 0) (fun n _ => ht.below n)
/-- a function's end: the tape is drawn on, new cells lie behind -/
theorem w_finT {m : Mode} (hm : m = .cut ∨ m = .keep) (ht : TapeOK t') (hv : below (ψ.length + 1) v = true) (h : Q v (t' :: ψ)) : wR (finM m (t :: ψ) v (t' :: (ψ ++ χ))) Q := by
  have e : (t' :: (ψ ++ χ)).take (t :: ψ).length = t' :: ψ := by simp
  rcases hm with rfl | rfl <;> exact w_fin (keeps_tape ht) (by simpa using hv) (by rw [e]; exact h)
theorem w_finT0 {m : Mode} (hm : m = .cut ∨ m = .keep) (ht : TapeOK t') (hv : below (ψ.length + 1) v = true) (h : Q v (t' :: ψ)) : wR (finM m (t :: ψ) v (t' :: ψ)) Q := by
  have := w_finT (χ := []) (ψ := ψ) (t := t) hm ht hv h
  simpa using this
theorem w_finTL {k : Nat} {xs : List PV} (ht : TapeOK t') (hk : ψ.length + 1 ≤ k) (hx : (t' :: (ψ ++ χ))[k]? = some (.lst xs)) (hb : belows (ψ.length + 1) xs = true) (h : Q (.lst xs) (t' :: ψ)) : wR (finM .cut (t :: ψ) (.loc k) (t' :: (ψ ++ χ))) Q := by
  have e : (t' :: (ψ ++ χ)).take (t :: ψ).length = t' :: ψ := by simp
  exact w_finL (keeps_tape ht) (by simpa using hk) hx (by simpa using hb) (by rw [if_neg (by decide), e]; exact h)
theorem w_finTK {k : Nat} {xs : List PV} (ht : TapeOK t') (hk : ψ.length + 1 ≤ k) (hx : (t' :: (ψ ++ χ))[k]? = some (.lst xs)) (hb : belows (ψ.length + 1) xs = true) (h : Q (.loc (ψ.length + 1)) (t' :: (ψ ++ [.lst xs]))) : wR (finM .keep (t :: ψ) (.loc k) (t' :: (ψ ++ χ))) Q := by
  have e : (t' :: (ψ ++ χ)).take (t :: ψ).length = t' :: ψ := by simp
  exact w_finL (keeps_tape ht) (by simpa using hk) hx (by simpa using hb) (by rw [if_pos rfl, e]; exact h)
/-- the cell behind the others -/
theorem get_new {c : Cell} : (t :: (ψ ++ [c]))[ψ.length + 1]? = some c := by simp
theorem set_new {c c' : Cell} : (t :: (ψ ++ [c])).set (ψ.length + 1) c' = t :: (ψ ++ [c']) := by simp
end
end PL

/-! PW3: the rules as instances, so that one word takes a step. -/
namespace PL
open PySem PyProof.Rows L2
class Wp (P : Prop) (P' : outParam Prop) : Prop where
  imp : P' → P
class Look (ρ : Env) (i : Nat) (v : outParam PV) : Prop where
  eq : ρ[i]? = some (some v)
instance {v : PV} {r : Env} : Look (some v :: r) 0 v := ⟨rfl⟩
instance {x : Option PV} {v : PV} {i : Nat} {r : Env} [h : Look r i v] : Look (x :: r) (i + 1) v := ⟨h.eq⟩
class SetE (ρ : Env) (i : Nat) (f : outParam (Option PV → Env)) : Prop where
  eq : ∀ x, ρ.set i x = f x
instance {y : Option PV} {r : Env} : SetE (y :: r) 0 (fun x => x :: r) := ⟨fun _ => rfl⟩
instance {y : Option PV} {r : Env} {i : Nat} {f : Option PV → Env} [h : SetE r i f] : SetE (y :: r) (i + 1) (fun x => y :: f x) := ⟨fun x => by rw [List.set_cons_succ, h.eq]⟩
class StartE (n : Nat) (us : List PV) (ρ : outParam Env) : Prop where
  eq : start n us = ρ
instance : StartE 0 [] [] := ⟨rfl⟩
instance {n : Nat} {r : Env} [h : StartE n [] r] : StartE (n + 1) [] (none :: r) := ⟨by rw [← h.eq]; rfl⟩
instance {n : Nat} {r : Env} {u : PV} {us : List PV} [h : StartE n us r] : StartE (n + 1) (u :: us) (some u :: r) := ⟨by rw [← h.eq]; simp [start]⟩
/-- the k-th cell of a heap that stands as a list -/
class At (φ : PHeap) (k : Nat) (c : outParam Cell) : Prop where
  eq : φ[k]? = some c
instance {c : Cell} {r : PHeap} : At (c :: r) 0 c := ⟨rfl⟩
instance {c d : Cell} {r : PHeap} {k : Nat} [h : At r k c] : At (d :: r) (k + 1) c := ⟨h.eq⟩
/-- .. and set -/
class AtSet (φ : PHeap) (k : Nat) (f : outParam (Cell → PHeap)) : Prop where
  eq : ∀ c, φ.set k c = f c
instance {d : Cell} {r : PHeap} : AtSet (d :: r) 0 (fun c => c :: r) := ⟨fun _ => rfl⟩
instance {d : Cell} {r : PHeap} {k : Nat} {f : Cell → PHeap} [h : AtSet r k f] : AtSet (d :: r) (k + 1) (fun c => d :: f c) := ⟨fun c => by rw [List.set_cons_succ, h.eq]⟩
/-- behind an unknown heap -/
instance {ψ r : PHeap} {c : Cell} : At (ψ ++ (c :: r)) ψ.length c := ⟨by simp⟩
instance {ψ r : PHeap} {c d : Cell} : At (ψ ++ (d :: c :: r)) (ψ.length + 1) c := ⟨by simp⟩
instance {ψ r : PHeap} {c d e : Cell} : At (ψ ++ (d :: e :: c :: r)) (ψ.length + 1 + 1) c := ⟨by simp [Nat.add_assoc]⟩
instance {ψ r : PHeap} {c : Cell} : AtSet (ψ ++ (c :: r)) ψ.length (fun c' => ψ ++ (c' :: r)) := ⟨fun _ => by simp⟩
instance {ψ r : PHeap} {c d : Cell} : AtSet (ψ ++ (d :: c :: r)) (ψ.length + 1) (fun c' => ψ ++ (d :: c' :: r)) := ⟨fun _ => by simp⟩
instance {ψ r : PHeap} {c d e : Cell} : AtSet (ψ ++ (d :: e :: c :: r)) (ψ.length + 1 + 1) (fun c' => ψ ++ (d :: e :: c' :: r)) := ⟨fun _ => by simp [Nat.add_assoc]⟩
/-- a new cell -/
class NewC (φ : PHeap) (n : outParam Nat) (f : outParam (Cell → PHeap)) : Prop where
  len : φ.length = n
  eq : ∀ c, φ ++ [c] = f c
instance : NewC [] 0 (fun c => [c]) := ⟨rfl, fun _ => rfl⟩
instance {d : Cell} {r : PHeap} {n : Nat} {f : Cell → PHeap} [h : NewC r n f] : NewC (d :: r) (n + 1) (fun c => d :: f c) := ⟨by rw [List.length_cons, h.len], fun c => by rw [List.cons_append, h.eq]⟩
instance (priority := 10) {ψ : PHeap} : NewC ψ ψ.length (fun c => ψ ++ [c]) := ⟨rfl, fun _ => rfl⟩
instance {ψ : PHeap} {d : Cell} : NewC (ψ ++ [d]) (ψ.length + 1) (fun c => ψ ++ [d, c]) := ⟨by simp, fun _ => by simp⟩
instance {ψ : PHeap} {d e : Cell} : NewC (ψ ++ [d, e]) (ψ.length + 1 + 1) (fun c => ψ ++ [d, e, c]) := ⟨by simp, fun _ => by simp⟩
section
variable {ρ : Env} {φ : PHeap} {Q : PV → PHeap → Prop} {N : Env → PHeap → Prop} {T : PV → PHeap → Prop} {B C : Env → PHeap → Prop} {QB : Bool → PHeap → Prop} {QA : List PV → PHeap → Prop} {QO : Option Int → PHeap → Prop}
variable {i j : Int} {xs ys : List PV} {s z : List Nat} {m : Bool} {u v x : PV}
theorem w_fun' {np ns : Nat} {m : Mode} {b : SX} {us : List PV} {ρ : Env} (hl : us.length = np) [hs : StartE ns us ρ] (h : wS (b ρ φ) (fun _ φ1 => wR (finM m φ .non φ1) Q) (fun v φ1 => wR (finM m φ v φ1) Q) (fun _ _ => False) (fun _ _ => False)) : wR (pFun np ns m b us φ) Q :=
  w_fun hl (by rw [hs.eq]; exact h)
instance i_var {i : Nat} [h : Look ρ i v] : Wp (wR (pVar i ρ φ) Q) (Q v φ) := ⟨fun q => w_var h.eq q⟩
instance i_set {i : Nat} {a : PX} {f : Option PV → Env} [h : SetE ρ i f] : Wp (wS (sSet i a ρ φ) N T B C) (wR (a ρ φ) fun v φ1 => N (f (some v)) φ1) := ⟨fun q => w_set (q.mono fun v φ1 q => by rw [h.eq]; exact q)⟩
instance i_gvar {i : Nat} {f : Option PV → Env} [h : SetE ρ i f] : Wp (wS (gVar i v ρ φ) N T B C) (N (f (some v)) φ) := ⟨fun q => w_gvar (by rw [h.eq]; exact q)⟩
instance i_aug {g : PV → PV → PHeap → R PV} {i : Nat} {a : PX} {f : Option PV → Env} [h0 : Look ρ i u] [h : SetE ρ i f] : Wp (wS (sAug g i a ρ φ) N T B C) (wR (a ρ φ) fun v φ1 => wR (g u v φ1) fun z φ2 => N (f (some z)) φ2) := ⟨fun q => w_aug h0.eq (q.mono fun v φ1 q => q.mono fun z φ2 q => by rw [h.eq]; exact q)⟩
instance i_bl {b : Bool} {P : Bool → Prop} : Wp (∃ c, PV.bl b = PV.bl c ∧ P c) (P b) := ⟨fun q => ⟨_, rfl, q⟩⟩
instance i_in {i : Int} {P : Int → Prop} : Wp (∃ c, PV.int i = PV.int c ∧ P c) (P i) := ⟨fun q => ⟨_, rfl, q⟩⟩
instance i_lenC {k : Nat} [h : At φ k (.lst xs)] : Wp (wR (gLen [.loc k] φ) Q) (Q (.int xs.length) φ) := ⟨fun q => w_lenC h.eq q⟩
instance i_itT {P : List PV → Prop} : Wp (∃ ys, itemsOf φ (.tup xs) = some ys ∧ P ys) (P xs) := ⟨fun q => ⟨_, rfl, q⟩⟩
instance i_itL {P : List PV → Prop} : Wp (∃ ys, itemsOf φ (.lst xs) = some ys ∧ P ys) (P xs) := ⟨fun q => ⟨_, rfl, q⟩⟩
instance i_itS {ns : List Int} {P : List PV → Prop} : Wp (∃ ys, itemsOf φ (.scr ns) = some ys ∧ P ys) (P (ns.map .int)) := ⟨fun q => ⟨_, rfl, q⟩⟩
instance i_itC {k : Nat} {P : List PV → Prop} [h : At φ k (.lst xs)] : Wp (∃ ys, itemsOf φ (.loc k) = some ys ∧ P ys) (P xs) := ⟨fun q => ⟨_, by simp only [itemsOf, h.eq], q⟩⟩
instance i_isSomeC {k : Nat} {P : Prop} [h : At φ k (.lst xs)] : Wp ((listOf φ (.loc k)).isSome = true ∧ P) P := ⟨fun q => ⟨by simp only [listOf, h.eq]; rfl, q⟩⟩
class SeqE (φ : PHeap) (u : PV) (xs : outParam (List PV)) : Prop where
  eq : seqOf φ u = some xs
instance : SeqE φ (.tup xs) xs := ⟨rfl⟩
instance : SeqE φ (.lst xs) xs := ⟨rfl⟩
instance {k : Nat} [h : At φ k (.lst xs)] : SeqE φ (.loc k) xs := ⟨by simp only [seqOf, h.eq]⟩
class LstE (φ : PHeap) (u : PV) (xs : outParam (List PV)) : Prop where
  eq : listOf φ u = some xs
instance : LstE φ (.lst xs) xs := ⟨rfl⟩
instance {k : Nat} [h : At φ k (.lst xs)] : LstE φ (.loc k) xs := ⟨by simp only [listOf, h.eq]⟩
instance i_listX {u : PV} [h : SeqE φ u xs] : Wp (wR (gListOf m [u] φ) Q) (wR (mkList m xs φ) Q) := ⟨fun q => w_listX h.eq q⟩
instance i_tupX {u : PV} [h : SeqE φ u xs] : Wp (wR (gTupOf [u] φ) Q) (Q (.tup xs) φ) := ⟨fun q => w_tupX h.eq q⟩
instance i_slC {k : Nat} {lo hi : Option Int} [h : At φ k (.lst xs)] : Wp (wR (gSl m (.loc k) lo hi φ) Q) (wR (mkList m (cutL xs lo hi) φ) Q) := ⟨fun q => w_slC h.eq q⟩
instance i_app {k : Nat} {f : Cell → PHeap} [h : At φ k (.lst xs)] [g : AtSet φ k f] : Wp (wR (gAppend (.loc k) [v] φ) Q) (xs.length < sizeLine ∧ Q .non (f (.lst (xs ++ [v])))) := ⟨fun q => w_appC h.eq q.1 (by rw [g.eq]; exact q.2)⟩
instance i_newl {n : Nat} {f : Cell → PHeap} [h : NewC φ n f] : Wp (wR (mkList true xs φ) Q) (Q (.loc n) (f (.lst xs))) := ⟨fun q => w_mkT (by rw [h.len, h.eq]; exact q)⟩
instance i_lstC {as : PAs} : Wp (wR (pLstC as ρ φ) Q) (wR (as ρ φ) fun vs φ1 => wR (mkList true vs φ1) Q) := ⟨fun q => w_lstC (q.mono fun _ _ q => q)⟩
class PosL (j : Int) : Prop where
  pos : 0 < j
instance {n : Nat} : PosL (OfNat.ofNat (n + 1) : Int) := ⟨Int.natCast_pos.mpr (Nat.succ_pos n)⟩
instance i_modI {i j : Int} [h : PosL j] : Wp (wR (gMod (.int i) (.int j) φ) Q) (Q (.int (i % j)) φ) := ⟨fun q => w_modI h.pos q⟩
instance i_ixC0 {k : Nat} [h : At φ k (.lst (x :: xs))] : Wp (wR (gIx (.loc k) (.int 0) φ) Q) (Q x φ) := ⟨fun q => w_ixC0 h.eq q⟩
instance i_ixC1 {a : PV} {k : Nat} [h : At φ k (.lst (a :: x :: xs))] : Wp (wR (gIx (.loc k) (.int 1) φ) Q) (Q x φ) := ⟨fun q => w_ixC1 h.eq q⟩
instance i_ixC2 {a b : PV} {k : Nat} [h : At φ k (.lst (a :: b :: x :: xs))] : Wp (wR (gIx (.loc k) (.int 2) φ) Q) (Q x φ) := ⟨fun q => w_ixC2 h.eq q⟩
instance i_ixC3 {a b c : PV} {k : Nat} [h : At φ k (.lst (a :: b :: c :: x :: xs))] : Wp (wR (gIx (.loc k) (.int 3) φ) Q) (Q x φ) := ⟨fun q => w_ixC3 h.eq q⟩
instance i_ixC4 {a b c d : PV} {k : Nat} [h : At φ k (.lst (a :: b :: c :: d :: x :: xs))] : Wp (wR (gIx (.loc k) (.int 4) φ) Q) (Q x φ) := ⟨fun q => w_ixC4 h.eq q⟩
instance i_w_seq {a b : SX} : Wp (wS (sSeq a b ρ φ) N T B C) (wS (a ρ φ) (fun ρ1 φ1 => wS (b ρ1 φ1) N T B C) T B C) := ⟨fun h => w_seq h⟩
instance i_w_snil : Wp (wS (sNil ρ φ) N T B C) (N ρ φ) := ⟨fun h => w_snil h⟩
instance i_w_drop {a : PX} : Wp (wS (sDrop a ρ φ) N T B C) (wR (a ρ φ) fun _ φ1 => N ρ φ1) := ⟨fun h => w_drop h⟩
instance i_w_ret {a : PX} : Wp (wS (sRet a ρ φ) N T B C) (wR (a ρ φ) T) := ⟨fun h => w_ret h⟩
instance i_w_retN : Wp (wS (sRetN ρ φ) N T B C) (T .non φ) := ⟨fun h => w_retN h⟩
instance i_w_sif {t : PT} {a b : SX} : Wp (wS (sIf t a b ρ φ) N T B C) (wR (t ρ φ) fun c φ1 => (c = true → wS (a ρ φ1) N T B C) ∧ (c = false → wS (b ρ φ1) N T B C)) := ⟨fun h => w_sif h⟩
instance i_w_asg {g : PG} {a : PX} : Wp (wS (sAsg g a ρ φ) N T B C) (wR (a ρ φ) fun v φ1 => wS (g v ρ φ1) N T B C) := ⟨fun h => w_asg h⟩
instance i_w_sub {g : PV → PV → PV → PHeap → Option PHeap} {o i e : PX} : Wp (wS (sSub g o i e ρ φ) N T B C) (wR (e ρ φ) fun v φ1 => wR (o ρ φ1) fun u φ2 => wR (i ρ φ2) fun j φ3 => ∃ φ4, g u j v φ3 = some φ4 ∧ N ρ φ4) := ⟨fun h => w_sub h⟩
instance i_w_gunp {g : List PV → Env → PHeap → O} {xs : List PV} : Wp (wS (gUnp g (.tup xs) ρ φ) N T B C) (wS (g xs ρ φ) N T B C) := ⟨fun h => w_gunp h⟩
instance i_w_gunpL {g : List PV → Env → PHeap → O} {xs : List PV} : Wp (wS (gUnp g (.lst xs) ρ φ) N T B C) (wS (g xs ρ φ) N T B C) := ⟨fun h => w_gunpL h⟩
instance i_w_gtup {g : List PV → Env → PHeap → O} {xs : List PV} : Wp (wS (gTup g (.tup xs) ρ φ) N T B C) (wS (g xs ρ φ) N T B C) := ⟨fun h => w_gtup h⟩
instance i_w_gcons {g : PG} {r : List PV → Env → PHeap → O} {v : PV} {us : List PV} : Wp (wS (gCons g r (v :: us) ρ φ) N T B C) (wS (g v ρ φ) (fun ρ1 φ1 => wS (r us ρ1 φ1) N T B C) (fun _ _ => False) (fun _ _ => False) (fun _ _ => False)) := ⟨fun h => w_gcons h⟩
instance i_w_gnils : Wp (wS (gNils [] ρ φ) N T B C) (N ρ φ) := ⟨fun h => w_gnils h⟩
instance i_w_c {v : PV} : Wp (wR (pC v ρ φ) Q) (Q v φ) := ⟨fun h => w_c h⟩
instance i_w_bin {g : PV → PV → PHeap → R PV} {a b : PX} : Wp (wR (pBin g a b ρ φ) Q) (wR (a ρ φ) fun u φ1 => wR (b ρ φ1) fun v φ2 => wR (g u v φ2) Q) := ⟨fun h => w_bin h⟩
instance i_w_un {g : PV → PHeap → R PV} {a : PX} : Wp (wR (pUn g a ρ φ) Q) (wR (a ρ φ) fun u φ1 => wR (g u φ1) Q) := ⟨fun h => w_un h⟩
instance i_w_nil : Wp (wR (pNil ρ φ) QA) (QA [] φ) := ⟨fun h => w_nil h⟩
instance i_w_cons {a : PX} {r : PAs} : Wp (wR (pCons a r ρ φ) QA) (wR (a ρ φ) fun v φ1 => wR (r ρ φ1) fun vs φ2 => QA (v :: vs) φ2) := ⟨fun h => w_cons h⟩
instance i_w_tup {as : PAs} : Wp (wR (pTup as ρ φ) Q) (wR (as ρ φ) fun vs φ1 => Q (.tup vs) φ1) := ⟨fun h => w_tup h⟩
instance i_w_lst {as : PAs} : Wp (wR (pLst as ρ φ) Q) (wR (as ρ φ) fun vs φ1 => Q (.lst vs) φ1) := ⟨fun h => w_lst h⟩
instance i_w_if {t : PT} {a b : PX} : Wp (wR (pIf t a b ρ φ) Q) (wR (t ρ φ) fun c φ1 => (c = true → wR (a ρ φ1) Q) ∧ (c = false → wR (b ρ φ1) Q)) := ⟨fun h => w_if h⟩
instance i_w_eand {a b : PX} : Wp (wR (pAnd a b ρ φ) Q) (wR (a ρ φ) fun u φ1 => ∃ c, u = .bl c ∧ (c = true → wR (b ρ φ1) Q) ∧ (c = false → Q (.bl false) φ1)) := ⟨fun h => w_eand h⟩
instance i_w_eor {a b : PX} : Wp (wR (pOr a b ρ φ) Q) (wR (a ρ φ) fun u φ1 => ∃ c, u = .bl c ∧ (c = true → Q (.bl true) φ1) ∧ (c = false → wR (b ρ φ1) Q)) := ⟨fun h => w_eor h⟩
instance i_w_tb {a : PX} : Wp (wR (pTB a ρ φ) QB) (wR (a ρ φ) fun u φ1 => ∃ c, u = .bl c ∧ QB c φ1) := ⟨fun h => w_tb h⟩
instance i_w_tand {a b : PT} : Wp (wR (tAnd a b ρ φ) QB) (wR (a ρ φ) fun c φ1 => (c = true → wR (b ρ φ1) QB) ∧ (c = false → QB false φ1)) := ⟨fun h => w_tand h⟩
instance i_w_tor {a b : PT} : Wp (wR (tOr a b ρ φ) QB) (wR (a ρ φ) fun c φ1 => (c = true → QB true φ1) ∧ (c = false → wR (b ρ φ1) QB)) := ⟨fun h => w_tor h⟩
instance i_w_tnot {a : PT} : Wp (wR (tNot a ρ φ) QB) (wR (a ρ φ) fun c φ1 => QB (!c) φ1) := ⟨fun h => w_tnot h⟩
instance i_w_tyes : Wp (wR (tYes ρ φ) QB) (QB true φ) := ⟨fun h => w_tyes h⟩
instance i_w_call {F : PF} {as : PAs} : Wp (wR (pCall F as ρ φ) Q) (wR (as ρ φ) fun vs φ1 => wR (F vs φ1) Q) := ⟨fun h => w_call h⟩
instance i_w_on : Wp (wR (poN ρ φ) QO) (QO none φ) := ⟨fun h => w_on h⟩
instance i_w_os {a : PX} : Wp (wR (poS a ρ φ) QO) (wR (a ρ φ) fun u φ1 => ∃ i, u = .int i ∧ QO (some i) φ1) := ⟨fun h => w_os h⟩
instance i_w_sl {g : PV → Option Int → Option Int → PHeap → R PV} {a : PX} {lo hi : PO} : Wp (wR (pSl g a lo hi ρ φ) Q) (wR (a ρ φ) fun u φ1 => wR (lo ρ φ1) fun l φ2 => wR (hi ρ φ2) fun r φ3 => wR (g u l r φ3) Q) := ⟨fun h => w_sl h⟩
instance i_w_lm {g : PV → List PV → PHeap → R PV} {o : PX} {as : PAs} : Wp (wR (pLm g o as ρ φ) Q) (wR (o ρ φ) fun u φ1 => (listOf φ1 u).isSome = true ∧ wR (as ρ φ1) fun vs φ2 => wR (g u vs φ2) Q) := ⟨fun h => w_lm h⟩
instance i_w_isp {t : String} {a : PX} {ρ : Env} : Wp (wR (pIs t a ρ φ) Q) (wR (a ρ φ) fun u φ1 => wR (gIs t u φ1) Q) := ⟨fun h => w_is' h⟩
instance i_w_addI : Wp (wR (gAdd m (.int i) (.int j) φ) Q) (Q (.int (i + j)) φ) := ⟨fun h => w_addI h⟩
instance i_w_subI : Wp (wR (gSub (.int i) (.int j) φ) Q) (Q (.int (i - j)) φ) := ⟨fun h => w_subI h⟩
instance i_w_neg : Wp (wR (gNeg (.int i) φ) Q) (Q (.int (-i)) φ) := ⟨fun h => w_neg h⟩
instance i_w_not {b : Bool} : Wp (wR (gNot (.bl b) φ) Q) (Q (.bl (!b)) φ) := ⟨fun h => w_not h⟩
instance i_w_ltI : Wp (wR (gLt (.int i) (.int j) φ) Q) (Q (.bl (decide (i < j))) φ) := ⟨fun h => w_ltI h⟩
instance i_w_ltS : Wp (wR (gLt (.str s) (.str z) φ) Q) (Q (.bl (decide (s < z))) φ) := ⟨fun h => w_ltS h⟩
instance i_w_leI : Wp (wR (gLe (.int i) (.int j) φ) Q) (Q (.bl (decide (i ≤ j))) φ) := ⟨fun h => w_leI h⟩
instance i_w_gtI : Wp (wR (gGt (.int i) (.int j) φ) Q) (Q (.bl (decide (j < i))) φ) := ⟨fun h => w_gtI h⟩
instance i_w_geI : Wp (wR (gGe (.int i) (.int j) φ) Q) (Q (.bl (decide (j ≤ i))) φ) := ⟨fun h => w_geI h⟩
instance i_w_eqI : Wp (wR (gEq (.int i) (.int j) φ) Q) (Q (.bl (decide (i = j))) φ) := ⟨fun h => w_eqI h⟩
instance i_w_neI : Wp (wR (gNe (.int i) (.int j) φ) Q) (Q (.bl (!decide (i = j))) φ) := ⟨fun h => w_neI h⟩
instance i_w_eqS : Wp (wR (gEq (.str s) (.str z) φ) Q) (Q (.bl (s == z)) φ) := ⟨fun h => w_eqS h⟩
instance i_w_neS : Wp (wR (gNe (.str s) (.str z) φ) Q) (Q (.bl (!(s == z))) φ) := ⟨fun h => w_neS h⟩
instance i_w_eqB {a b : Bool} : Wp (wR (gEq (.bl a) (.bl b) φ) Q) (Q (.bl (a == b)) φ) := ⟨fun h => w_eqB h⟩
instance i_w_neB {a b : Bool} : Wp (wR (gNe (.bl a) (.bl b) φ) Q) (Q (.bl (!(a == b))) φ) := ⟨fun h => w_neB h⟩
instance i_w_isN : Wp (wR (gIsN u .non φ) Q) (Q (.bl (isNon u)) φ) := ⟨fun h => w_isN h⟩
instance i_w_notN : Wp (wR (gNotN u .non φ) Q) (Q (.bl (!isNon u)) φ) := ⟨fun h => w_notN h⟩
instance i_w_lenT : Wp (wR (gLen [.tup xs] φ) Q) (Q (.int xs.length) φ) := ⟨fun h => w_lenT h⟩
instance i_w_lenL : Wp (wR (gLen [.lst xs] φ) Q) (Q (.int xs.length) φ) := ⟨fun h => w_lenL h⟩
instance i_w_abs : Wp (wR (gAbs [.int i] φ) Q) (Q (.int (if i < 0 then -i else i)) φ) := ⟨fun h => w_abs h⟩
instance i_w_max2 : Wp (wR (gMax2 [.int i, .int j] φ) Q) (Q (.int (if j > i then j else i)) φ) := ⟨fun h => w_max2 h⟩
instance i_w_min2 : Wp (wR (gMin2 [.int i, .int j] φ) Q) (Q (.int (if j < i then j else i)) φ) := ⟨fun h => w_min2 h⟩
instance i_w_int : Wp (wR (gInt [.int i] φ) Q) (Q (.int i) φ) := ⟨fun h => w_int h⟩
instance i_w_listS {ns : List Int} : Wp (wR (gListOf m [.scr ns] φ) Q) (wR (mkList m (ns.map .int) φ) Q) := ⟨fun h => w_listS h⟩
instance i_w_isT {t : String} : Wp (wR (gIs t (.tup xs) φ) Q) (Q (.bl (isI t "tuple")) φ) := ⟨fun h => w_isT h⟩
instance i_w_isS {t : String} : Wp (wR (gIs t (.str s) φ) Q) (Q (.bl (isI t "str")) φ) := ⟨fun h => w_isS h⟩
instance i_w_isI {t : String} : Wp (wR (gIs t (.int i) φ) Q) (Q (.bl (isI t "int")) φ) := ⟨fun h => w_isI h⟩
instance i_w_isB {t : String} {b : Bool} : Wp (wR (gIs t (.bl b) φ) Q) (Q (.bl (isI t "bool")) φ) := ⟨fun h => w_isB h⟩
instance i_w_isO {t : String} : Wp (wR (gIs t .non φ) Q) (Q (.bl (isI t "NoneType")) φ) := ⟨fun h => w_isO h⟩
instance i_w_isL {t : String} : Wp (wR (gIs t (.lst xs) φ) Q) (Q (.bl (isI t "list")) φ) := ⟨fun h => w_isL h⟩
instance i_w_mkF {xs : List PV} : Wp (wR (mkList false xs φ) Q) (Q (.lst xs) φ) := ⟨fun h => w_mkF h⟩
instance i_w_slT {lo hi : Option Int} : Wp (wR (gSl m (.tup xs) lo hi φ) Q) (Q (.tup (cutL xs lo hi)) φ) := ⟨fun h => w_slT h⟩
instance i_w_slL {lo hi : Option Int} : Wp (wR (gSl m (.lst xs) lo hi φ) Q) (wR (mkList m (cutL xs lo hi) φ) Q) := ⟨fun h => w_slL h⟩
instance i_w_iseq {a : PX} {P : QI} : Wp (wR (iSeq a ρ φ) P) (wR (a ρ φ) fun u φ1 => ∃ xs, itemsOf φ1 u = some xs ∧ P (xs, guardOf u) φ1) := ⟨fun h => w_iseq h⟩
instance i_w_irange1 {a : PX} {P : QI} : Wp (wR (iRange1 a ρ φ) P) (wR (a ρ φ) fun u φ1 => ∃ j, u = .int j ∧ smallI j ∧ P (intsFrom 0 j.toNat, none) φ1) := ⟨fun h => w_irange1 h⟩
instance i_w_irange2 {a b : PX} {P : QI} : Wp (wR (iRange2 a b ρ φ) P) (wR (a ρ φ) fun u φ1 => wR (b ρ φ1) fun v φ2 => ∃ i j, u = .int i ∧ v = .int j ∧ smallI i ∧ smallI j ∧ P (intsFrom i (j - i).toNat, none) φ2) := ⟨fun h => w_irange2 h⟩
instance i_w_ixT0 : Wp (wR (gIx (.tup (x :: xs)) (.int 0) φ) Q) (Q x φ) := ⟨fun h => w_ixT0 h⟩
instance i_w_ixT1 {a : PV} : Wp (wR (gIx (.tup (a :: x :: xs)) (.int 1) φ) Q) (Q x φ) := ⟨fun h => w_ixT1 h⟩
instance i_w_ixT2 {a b : PV} : Wp (wR (gIx (.tup (a :: b :: x :: xs)) (.int 2) φ) Q) (Q x φ) := ⟨fun h => w_ixT2 h⟩
instance i_w_ixT3 {a b c : PV} : Wp (wR (gIx (.tup (a :: b :: c :: x :: xs)) (.int 3) φ) Q) (Q x φ) := ⟨fun h => w_ixT3 h⟩
instance i_w_ixT4 {a b c d : PV} : Wp (wR (gIx (.tup (a :: b :: c :: d :: x :: xs)) (.int 4) φ) Q) (Q x φ) := ⟨fun h => w_ixT4 h⟩
instance i_w_ixL0 : Wp (wR (gIx (.lst (x :: xs)) (.int 0) φ) Q) (Q x φ) := ⟨fun h => w_ixL0 h⟩
instance i_w_ixL1 {a : PV} : Wp (wR (gIx (.lst (a :: x :: xs)) (.int 1) φ) Q) (Q x φ) := ⟨fun h => w_ixL1 h⟩
instance i_w_ixL2 {a b : PV} : Wp (wR (gIx (.lst (a :: b :: x :: xs)) (.int 2) φ) Q) (Q x φ) := ⟨fun h => w_ixL2 h⟩
instance i_w_ixL3 {a b c : PV} : Wp (wR (gIx (.lst (a :: b :: c :: x :: xs)) (.int 3) φ) Q) (Q x φ) := ⟨fun h => w_ixL3 h⟩
instance i_w_ixL4 {a b c d : PV} : Wp (wR (gIx (.lst (a :: b :: c :: d :: x :: xs)) (.int 4) φ) Q) (Q x φ) := ⟨fun h => w_ixL4 h⟩
instance i_w_setT0 {ψ : PHeap} {P : PHeap → Prop} : Wp (∃ φ4, gSetIx (.loc 0) (.int 0) v (.lst (x :: xs) :: ψ) = some φ4 ∧ P φ4) (P (.lst (v :: xs) :: ψ)) := ⟨fun h => w_setT0 h⟩
instance i_w_setT1 {a : PV} {ψ : PHeap} {P : PHeap → Prop} : Wp (∃ φ4, gSetIx (.loc 0) (.int 1) v (.lst (a :: x :: xs) :: ψ) = some φ4 ∧ P φ4) (P (.lst (a :: v :: xs) :: ψ)) := ⟨fun h => w_setT1 h⟩
instance i_w_setT2 {a b : PV} {ψ : PHeap} {P : PHeap → Prop} : Wp (∃ φ4, gSetIx (.loc 0) (.int 2) v (.lst (a :: b :: x :: xs) :: ψ) = some φ4 ∧ P φ4) (P (.lst (a :: b :: v :: xs) :: ψ)) := ⟨fun h => w_setT2 h⟩
instance i_w_setT3 {a b c : PV} {ψ : PHeap} {P : PHeap → Prop} : Wp (∃ φ4, gSetIx (.loc 0) (.int 3) v (.lst (a :: b :: c :: x :: xs) :: ψ) = some φ4 ∧ P φ4) (P (.lst (a :: b :: c :: v :: xs) :: ψ)) := ⟨fun h => w_setT3 h⟩
instance i_w_setT4 {a b c d : PV} {ψ : PHeap} {P : PHeap → Prop} : Wp (∃ φ4, gSetIx (.loc 0) (.int 4) v (.lst (a :: b :: c :: d :: x :: xs) :: ψ) = some φ4 ∧ P φ4) (P (.lst (a :: b :: c :: d :: v :: xs) :: ψ)) := ⟨fun h => w_setT4 h⟩
end
end PL

/-! PT1: terms as trees. -/
namespace PL
open PySem PyProof.Rows L2
inductive Tm where
  | nm (s : List Nat)
  | pr (a b : Tm)
  deriving DecidableEq
namespace Tm
def pv : Tm → PV
  | .nm s => .str s
  | .pr a b => .tup [a.pv, b.pv]
def size : Tm → Nat
  | .nm _ => 1
  | .pr a b => a.size + b.size
def depth : Tm → Nat
  | .nm _ => 0
  | .pr a b => max a.depth b.depth + 1
theorem size_pos : ∀ t : Tm, 0 < t.size
  | .nm _ => by simp [size]
  | .pr a b => by have := size_pos a; simp only [size]; omega
theorem depth_lt : ∀ t : Tm, t.depth < t.size
  | .nm _ => by simp [size, depth]
  | .pr a b => by
    have h1 := depth_lt a
    have h2 := depth_lt b
    have := size_pos a
    have := size_pos b
    simp only [size, depth]; omega
end Tm
theorem okd_tm : ∀ (t : Tm) (n : Nat), t.depth ≤ n → okd n t.pv = true
  | .nm _, _, _ => by simp [Tm.pv, okd]
  | .pr a b, 0, h => by simp [Tm.depth] at h
  | .pr a b, n + 1, h => by
    simp only [Tm.depth] at h
    simp only [Tm.pv, okd, okds, okd_tm a n (by omega), okd_tm b n (by omega), Bool.and_self]
theorem below_tm (n : Nat) : ∀ t : Tm, below n t.pv = true
  | .nm _ => by simp [Tm.pv, below]
  | .pr a b => by simp only [Tm.pv, below, belows, below_tm n a, below_tm n b, Bool.and_self]
theorem pvEq_tm : ∀ a b : Tm, pvEq a.pv b.pv = decide (a = b)
  | .nm s, .nm z => by simp only [Tm.pv, pvEq, Tm.nm.injEq]; by_cases h : s = z <;> simp [h]
  | .nm s, .pr c d => by simp [Tm.pv, pvEq]
  | .pr a b, .nm z => by simp [Tm.pv, pvEq]
  | .pr a b, .pr c d => by
    simp only [Tm.pv, pvEq, pvEqs, pvEq_tm a c, pvEq_tm b d, Tm.pr.injEq, Bool.and_true, Bool.decide_and]
theorem norm_tm (φ : PHeap) (t : Tm) : norm φ t.pv = t.pv := by cases t <;> rfl
theorem belows_map {α : Type} {f : α → PV} (n : Nat) (h : ∀ a, below n (f a) = true) : ∀ xs : List α, belows n (xs.map f) = true
  | [] => rfl
  | a :: r => by simp only [List.map_cons, belows, h a, belows_map n h r, Bool.and_self]
/-- an equation, or none -/
abbrev Eqn := Tm × Tm
def eqv (e : Eqn) : PV := .tup [e.1.pv, e.2.pv]
def oeq : Option Eqn → PV
  | none => .non
  | some e => eqv e
def clv (c : List Eqn × Option Eqn) : PV := .tup [.tup (c.1.map eqv), oeq c.2]
theorem below_eqv (n : Nat) (e : Eqn) : below n (eqv e) = true := by simp only [eqv, below, belows, below_tm, Bool.and_self]
theorem below_oeq (n : Nat) (e : Option Eqn) : below n (oeq e) = true := by cases e <;> first | rfl | exact below_eqv n _
theorem below_clv (n : Nat) (c : List Eqn × Option Eqn) : below n (clv c) = true := by
  simp only [clv, below, belows, belows_map n (below_eqv n), below_oeq, Bool.and_self]
theorem okd_eqv {n : Nat} {e : Eqn} (h : e.1.depth ≤ n ∧ e.2.depth ≤ n) : okd (n + 1) (eqv e) = true := by
  simp only [eqv, okd, okds, okd_tm _ _ h.1, okd_tm _ _ h.2, Bool.and_self]
theorem pvEq_eqv (a b : Eqn) : pvEq (eqv a) (eqv b) = decide (a = b) := by
  obtain ⟨a1, a2⟩ := a
  obtain ⟨b1, b2⟩ := b
  simp only [eqv, pvEq, pvEqs, pvEq_tm, Bool.and_true, Prod.mk.injEq, Bool.decide_and]
theorem pvEq_oeq (a : Option Eqn) (b : Eqn) : pvEq (oeq a) (eqv b) = decide (a = some b) := by
  cases a with
  | none => simp [oeq, eqv, pvEq]
  | some a => simp only [oeq, pvEq_eqv, Option.some.injEq]
/-- sides of at most n leaves -/
def szOK (n : Nat) (e : Eqn) : Prop := e.1.size ≤ n ∧ e.2.size ≤ n
def oszOK (n : Nat) (e : Option Eqn) : Prop := ∀ x, e = some x → szOK n x
theorem okd_sz {n : Nat} {e : Eqn} (h : szOK n e) : okd n (eqv e) = true := by
  have h1 := Tm.depth_lt e.1
  have h2 := Tm.depth_lt e.2
  obtain ⟨k, rfl⟩ : ∃ k, n = k + 1 := ⟨n - 1, by have := h.1; omega⟩
  exact okd_eqv ⟨by have := h.1; omega, by have := h.2; omega⟩
theorem okd_osz {n : Nat} {e : Option Eqn} (h : oszOK n e) : okd n (oeq e) = true := by
  cases e with
  | none => simp [oeq, okd]
  | some e => exact okd_sz (h e rfl)
mutual
theorem okd_mono : ∀ (v : PV) {n m : Nat}, n ≤ m → okd n v = true → okd m v = true
  | .tup xs, 0, m, h, q => by simp [okd] at q
  | .tup xs, n + 1, 0, h, q => by omega
  | .tup xs, n + 1, m + 1, h, q => by
    simp only [okd] at q ⊢
    exact okds_mono xs (by omega) q
  | .lst xs, 0, m, h, q => by simp [okd] at q
  | .lst xs, n + 1, 0, h, q => by omega
  | .lst xs, n + 1, m + 1, h, q => by
    simp only [okd] at q ⊢
    exact okds_mono xs (by omega) q
  | .non, _, _, _, _ => by simp [okd]
  | .bl _, _, _, _, _ => by simp [okd]
  | .int _, _, _, _, _ => by simp [okd]
  | .str _, _, _, _, _ => by simp [okd]
  | .loc _, _, _, _, q => by simp [okd] at q
  | .scr _, _, _, _, q => by simp [okd] at q
theorem okds_mono : ∀ (xs : List PV) {n m : Nat}, n ≤ m → okds n xs = true → okds m xs = true
  | [], _, _, _, _ => by simp [okds]
  | x :: r, n, m, h, q => by
    simp only [okds, Bool.and_eq_true] at q ⊢
    exact ⟨okd_mono x h q.1, okds_mono r h q.2⟩
end
/-! ### names -/
def letters : List Nat := [97, 98, 99, 100, 101, 102, 103, 104, 105, 106, 107, 108, 109, 110, 111, 112, 113, 114, 115, 116, 117, 118, 119, 120, 121, 122]
def signs : List Nat := letters ++ [48, 49, 50, 51, 52, 53, 54, 55, 56, 57]
def nameB (s : List Nat) : Bool := decide (1 ≤ s.length) && decide (s.length ≤ 8) && !(s == [102, 97, 108, 115, 101]) && (match s with | c :: _ => decide (c ∈ letters) | [] => false) && s.all fun c => decide (c ∈ signs)
def Tm.okN : Tm → Bool
  | .nm s => nameB s
  | .pr a b => a.okN && b.okN
end PL

/-! PT2: more rules. -/
namespace PL
open PySem PyProof.Rows L2
theorem fuel {n k : Nat} (h : k + 1 ≤ n) : ∃ m, n = m + 1 ∧ k ≤ m := ⟨n - 1, by omega, by omega⟩
theorem wR_to_eq {α : Type} {r : R α} {a : α} {φ : PHeap} (h : wR r fun v φ' => v = a ∧ φ' = φ) : r = .ok a φ := by
  obtain ⟨v, φ', rfl, rfl, rfl⟩ := h.ok
  rfl
section
variable {ρ : Env} {φ : PHeap} {Q : PV → PHeap → Prop} {N : Env → PHeap → Prop} {T : PV → PHeap → Prop} {B C : Env → PHeap → Prop}
variable {i j : Int} {xs ys : List PV} {s z : List Nat} {m : Bool} {u v x : PV}
/-- a comprehension whose elements have a property, on a heap that does not change -/
theorem w_lcM0 {m : Bool} {it : PI} {i : Nat} {t : PT} {e : PX} (P : PV → Prop) (h : wR (it ρ φ) fun p φ1 => stillP p.2 p.1 φ1 ∧ p.1.length ≤ sizeLine ∧
      (∀ x, x ∈ p.1 → wR (t (ρ.set i (some x)) φ1) fun c φ2 => φ2 = φ1 ∧ (c = true → wR (e (ρ.set i (some x)) φ1) fun v φ3 => φ3 = φ1 ∧ P v)) ∧
      (∀ vs, vs.length ≤ p.1.length → (∀ v ∈ vs, P v) → wR (mkList m vs φ1) Q)) : wR (pLc m it (gVar i) t e ρ φ) Q := by
  obtain ⟨⟨xs, g⟩, φ1, e1, h1, h2, h3, h4⟩ := h.ok
  refine w_lc (fun k acc φ' => φ' = φ1 ∧ acc.length ≤ k ∧ ∀ v ∈ acc, P v) ?_
  rw [e1]
  refine ⟨h1, h2, ⟨rfl, Nat.le_refl _, by simp⟩, ?_, ?_⟩
  · rintro k x acc φ' hx ⟨rfl, hl, ha⟩ _
    refine wR.mono (h3 x (List.mem_of_getElem? hx)) fun c φ2 q => ?_
    obtain ⟨rfl, q⟩ := q
    refine ⟨fun hc => (q hc).mono fun v φ3 q' => ?_, fun _ => ⟨h1, rfl, by omega, ha⟩⟩
    obtain ⟨rfl, q'⟩ := q'
    exact ⟨h1, rfl, by simp; omega, fun w hw => (List.mem_append.mp hw).elim (ha w) fun hw => by rw [List.mem_singleton.mp hw]; exact q'⟩
  · rintro acc φ' ⟨rfl, hl, ha⟩ _
    exact h4 acc hl ha
theorem w_lcM {m : Bool} {it : PI} {i : Nat} {t : PT} {e : PX} (P : PV → Prop) {f : Option PV → Env} [hf : SetE ρ i f] (h : wR (it ρ φ) fun p φ1 => stillP p.2 p.1 φ1 ∧ p.1.length ≤ sizeLine ∧
      (∀ x, x ∈ p.1 → wR (t (f (some x)) φ1) fun c φ2 => φ2 = φ1 ∧ (c = true → wR (e (f (some x)) φ1) fun v φ3 => φ3 = φ1 ∧ P v)) ∧
      (∀ vs, vs.length ≤ p.1.length → (∀ v ∈ vs, P v) → wR (mkList m vs φ1) Q)) : wR (pLc m it (gVar i) t e ρ φ) Q :=
  w_lcM0 P (h.mono fun p φ1 q => ⟨q.1, q.2.1, fun x hx => by rw [hf.eq]; exact q.2.2.1 x hx, q.2.2.2⟩)
theorem w_lcF {m : Bool} {it : PI} {i : Nat} {t : PT} {e : PX} (p : PV → Bool) (g : PV → PV) {f : Option PV → Env} [hf : SetE ρ i f] (h : wR (it ρ φ) fun q φ1 => stillP q.2 q.1 φ1 ∧ q.1.length ≤ sizeLine ∧
      (∀ x, x ∈ q.1 → wR (t (f (some x)) φ1) fun c φ2 => c = p x ∧ φ2 = φ1) ∧ (∀ x, x ∈ q.1 → p x = true → wR (e (f (some x)) φ1) fun v φ2 => v = g x ∧ φ2 = φ1) ∧ wR (mkList m ((q.1.filter p).map g) φ1) Q) : wR (pLc m it (gVar i) t e ρ φ) Q :=
  w_lcP p g (h.mono fun q φ1 h => ⟨h.1, h.2.1, fun x hx => by rw [hf.eq]; exact wR_to_eq (h.2.2.1 x hx), fun x hx hp => by rw [hf.eq]; exact wR_to_eq (h.2.2.2.1 x hx hp), h.2.2.2.2⟩)
theorem w_ixQ (hs : seqOf φ u = some xs) (hx : pyIx xs i = some x) (h : Q x φ) : wR (gIx u (.int i) φ) Q := by
  cases u <;> first | (simp [seqOf] at hs; done) | (simp only [gIx, hs, hx]; exact h)
theorem w_lenQ (hs : seqOf φ u = some xs) (h : Q (.int xs.length) φ) : wR (gLen [u] φ) Q := by
  cases u <;> first | (simp [seqOf] at hs; done) | (simp only [gLen, hs]; exact h)
theorem cutL_1 {α : Type} {x : α} {xs : List α} : cutL (x :: xs) (some 1) none = xs := by
  have : min (1 : Int).toNat (xs.length + 1) = 1 := by show min 1 _ = 1; omega
  simp [cutL, cutAt]
instance (priority := 2000) i_cut1L : Wp (wR (gSl false (.lst (x :: xs)) (some 1) none φ) Q) (Q (.lst xs) φ) := ⟨fun h => w_slL (by rw [cutL_1]; exact h)⟩
instance (priority := 2000) i_cut1T : Wp (wR (gSl m (.tup (x :: xs)) (some 1) none φ) Q) (Q (.tup xs) φ) := ⟨fun h => w_slT (by rw [cutL_1]; exact h)⟩
instance i_itStr {P : List PV → Prop} : Wp (∃ ys, itemsOf φ (.str s) = some ys ∧ P ys) (P (s.map fun c => .str [c])) := ⟨fun q => ⟨_, rfl, q⟩⟩
class LenE (xs : List PV) (n : outParam Nat) : Prop where
  eq : xs.length = n
instance : LenE [] 0 := ⟨rfl⟩
instance {x : PV} {xs : List PV} {n : Nat} [h : LenE xs n] : LenE (x :: xs) (n + 1) := ⟨by rw [List.length_cons, h.eq]⟩
instance (priority := 2000) i_lenTE {n : Nat} [h : LenE xs n] : Wp (wR (gLen [.tup xs] φ) Q) (Q (.int n) φ) := ⟨fun q => w_lenT (by rw [h.eq]; exact q)⟩
instance (priority := 2000) i_lenLE {n : Nat} [h : LenE xs n] : Wp (wR (gLen [.lst xs] φ) Q) (Q (.int n) φ) := ⟨fun q => w_lenL (by rw [h.eq]; exact q)⟩
instance i_isE1 {A B : Prop} : Wp (((x :: xs).isEmpty = true → A) ∧ ((x :: xs).isEmpty = false → B)) B := ⟨fun q => ⟨fun h => by simp at h, fun _ => q⟩⟩
instance i_isE2 {A B : Prop} : Wp (((!(x :: xs).isEmpty) = true → A) ∧ ((!(x :: xs).isEmpty) = false → B)) A := ⟨fun q => ⟨fun _ => q, fun h => by simp at h⟩⟩
instance i_isE3 {A B : Prop} : Wp (((([] : List PV).isEmpty) = true → A) ∧ (([] : List PV).isEmpty = false → B)) A := ⟨fun q => ⟨fun _ => q, fun h => by simp at h⟩⟩
instance (priority := 2000) i_isN_int {i : Int} : Wp (wR (gIsN (.int i) .non φ) Q) (Q (.bl false) φ) := ⟨fun q => q⟩
instance (priority := 2000) i_notN_int {i : Int} : Wp (wR (gNotN (.int i) .non φ) Q) (Q (.bl true) φ) := ⟨fun q => q⟩
instance (priority := 2000) i_isN_str {s : List Nat} : Wp (wR (gIsN (.str s) .non φ) Q) (Q (.bl false) φ) := ⟨fun q => q⟩
instance (priority := 2000) i_notN_str {s : List Nat} : Wp (wR (gNotN (.str s) .non φ) Q) (Q (.bl true) φ) := ⟨fun q => q⟩
instance (priority := 2000) i_isN_bl {b : Bool} : Wp (wR (gIsN (.bl b) .non φ) Q) (Q (.bl false) φ) := ⟨fun q => q⟩
instance (priority := 2000) i_notN_bl {b : Bool} : Wp (wR (gNotN (.bl b) .non φ) Q) (Q (.bl true) φ) := ⟨fun q => q⟩
instance (priority := 2000) i_isN_tup  : Wp (wR (gIsN (.tup xs) .non φ) Q) (Q (.bl false) φ) := ⟨fun q => q⟩
instance (priority := 2000) i_notN_tup  : Wp (wR (gNotN (.tup xs) .non φ) Q) (Q (.bl true) φ) := ⟨fun q => q⟩
instance (priority := 2000) i_isN_lst  : Wp (wR (gIsN (.lst xs) .non φ) Q) (Q (.bl false) φ) := ⟨fun q => q⟩
instance (priority := 2000) i_notN_lst  : Wp (wR (gNotN (.lst xs) .non φ) Q) (Q (.bl true) φ) := ⟨fun q => q⟩
instance (priority := 2000) i_isN_non : Wp (wR (gIsN .non .non φ) Q) (Q (.bl true) φ) := ⟨fun q => q⟩
instance (priority := 2000) i_notN_non : Wp (wR (gNotN .non .non φ) Q) (Q (.bl false) φ) := ⟨fun q => q⟩
theorem w_setC {k : Nat} {f : Cell → PHeap} {P : PHeap → Prop} [h : At φ k (.lst xs)] [g : AtSet φ k f] (h0 : 0 ≤ i) (h1 : i < xs.length) (q : P (f (.lst (xs.set i.toNat v)))) : ∃ φ4, gSetIx (.loc k) (.int i) v φ = some φ4 ∧ P φ4 := by
  refine ⟨_, ?_, q⟩
  have e : ixN xs.length i = some i.toNat := by unfold ixN; rw [if_pos h0, if_pos h1]
  simp only [gSetIx, h.eq, e, g.eq]
theorem cutL_take {α : Type} {ys : List α} (h0 : 0 ≤ i) (h1 : i ≤ ys.length) : cutL ys none (some i) = ys.take i.toNat := by
  have : ¬ i < 0 := by omega
  simp only [cutL, cutAt, if_neg this, List.drop_zero, Nat.sub_zero]
  rw [show min i.toNat ys.length = i.toNat by omega]
theorem pvEqs_nil : pvEqs xs [] = xs.isEmpty := by cases xs <;> simp [pvEqs]
theorem w_eqLn (h1 : okds 63 xs = true) (h : Q (.bl xs.isEmpty) φ) : wR (gEq (.lst xs) (.lst []) φ) Q :=
  w_eqD (by simp only [norm, okd]; exact h1) (by simp [norm, okd, okds]) (by simp only [norm, pvEq, pvEqs_nil]; exact h)
theorem w_neLn (h1 : okds 63 xs = true) (h : Q (.bl (!xs.isEmpty)) φ) : wR (gNe (.lst xs) (.lst []) φ) Q :=
  w_neD (by simp only [norm, okd]; exact h1) (by simp [norm, okd, okds]) (by simp only [norm, pvEq, pvEqs_nil]; exact h)
theorem w_eqTn (h1 : okds 63 xs = true) (h : Q (.bl xs.isEmpty) φ) : wR (gEq (.tup xs) (.tup []) φ) Q :=
  w_eqD (by simp only [norm, okd]; exact h1) (by simp [norm, okd, okds]) (by simp only [norm, pvEq, pvEqs_nil]; exact h)
theorem w_neTn (h1 : okds 63 xs = true) (h : Q (.bl (!xs.isEmpty)) φ) : wR (gNe (.tup xs) (.tup []) φ) Q :=
  w_neD (by simp only [norm, okd]; exact h1) (by simp [norm, okd, okds]) (by simp only [norm, pvEq, pvEqs_nil]; exact h)
theorem okds_all {n : Nat} : ∀ {xs : List PV}, (∀ x ∈ xs, okd n x = true) → okds n xs = true
  | [], _ => by simp [okds]
  | x :: r, h => by
    have h2 : okds n r = true := okds_all fun y hy => h y (List.mem_cons_of_mem _ hy)
    simp only [okds, h x List.mem_cons_self, h2, Bool.and_self]
theorem belows_all {n : Nat} : ∀ {xs : List PV}, (∀ x ∈ xs, below n x = true) → belows n xs = true
  | [], _ => rfl
  | x :: r, h => by
    have h2 : belows n r = true := belows_all fun y hy => h y (List.mem_cons_of_mem _ hy)
    simp only [belows, h x List.mem_cons_self, h2, Bool.and_self]
/-- False not in a list of True -/
theorem w_allTrue (h : ∀ v ∈ xs, v = .bl true) (q : Q (.bl true) φ) : wR (gNotIn (.bl false) (.lst xs) φ) Q := by
  refine w_notIn (b := false) ?_ q
  have h1 : okds 63 xs = true := okds_all fun v hv => by rw [h v hv]; simp [okd]
  have h2 : (xs.any fun y => pvEq y (.bl false)) = false := by
    rw [List.any_eq_false]; intro v hv; rw [h v hv]; decide
  simp only [inB, listOf, h1, h2]; rfl
end
end PL

/-! the pure functions of the defs (printed by gen.py) -/
namespace T
open PySem PL
/-- slots: 0 step -/
noncomputable def B_references_of (n : Nat) : SX :=
  sSeq (sIf (pTB (pBin gEq (pBin gIx (pVar 0) (pC (.int 0))) (pC (.str [114, 101, 102, 108, 101, 120, 105, 118, 105, 116, 121]))))
  (sSeq (sRet (pTup pNil))
  sNil)
  sNil)
  (sSeq (sIf (pTB (pBin gEq (pBin gIx (pVar 0) (pC (.int 0))) (pC (.str [99, 108, 97, 117, 115, 101]))))
  (sSeq (sRet (pBin gIx (pVar 0) (pC (.int 2))))
  sNil)
  sNil)
  (sSeq (sRet (pSl (gSl false) (pVar 0) (poS (pC (.int 1))) poN))
  sNil))
noncomputable def F_references_of : Nat → PF
  | 0 => fun _ _ => .bad
  | n + 1 => pFun 1 1 .cut (B_references_of n)
/-- slots: 0 step 1 weights 2 costs 3 total 4 number -/
noncomputable def B_step_cost (n : Nat) : SX :=
  sSeq (sSet 3 (pCall gSum (pCons (pLc false (iSeq (pCall (F_references_of n) (pCons (pVar 0) pNil))) (gVar 4) PL.tYes (pBin gIx (pVar 2) (pVar 4))) pNil)))
  (sSeq (sIf (pTB (pBin gEq (pBin gIx (pVar 0) (pC (.int 0))) (pC (.str [99, 108, 97, 117, 115, 101]))))
  (sSeq (sSet 3 (pBin (gAdd false) (pVar 3) (pBin gIx (pVar 1) (pBin gIx (pVar 0) (pC (.int 1))))))
  sNil)
  sNil)
  (sSeq (sRet (pVar 3))
  sNil))
noncomputable def F_step_cost : Nat → PF
  | 0 => fun _ _ => .bad
  | n + 1 => pFun 3 5 .cut (B_step_cost n)
/-- slots: 0 proof 1 weights 2 costs 3 step -/
noncomputable def B_steps_cost (n : Nat) : SX :=
  sSeq (sSet 2 (pLstC pNil))
  (sSeq (sFor (iSeq (pVar 0)) (gVar 3)
  (sSeq (sDrop (pLm gAppend (pVar 2) (pCons (pCall (F_step_cost n) (pCons (pVar 3) (pCons (pVar 1) (pCons (pVar 2) pNil)))) pNil)))
  sNil))
  (sSeq (sRet (pCall gTupOf (pCons (pVar 2) pNil)))
  sNil))
noncomputable def F_steps_cost : Nat → PF
  | 0 => fun _ _ => .bad
  | n + 1 => pFun 2 4 .cut (B_steps_cost n)
/-- slots: 0 script 1 total 2 cell -/
noncomputable def B__law_tape (n : Nat) : SX :=
  sSeq (sSet 1 (pC (.int 7)))
  (sSeq (sFor (iSeq (pVar 0)) (gVar 2)
  (sSeq (sSet 1 (pBin gMod (pCall gInt (pCons (pBin (gAdd false) (pBin gMul (pVar 1) (pC (.int 31))) (pCall gAbs (pCons (pCall gInt (pCons (pVar 2) pNil)) pNil))) pNil)) (pC (.int 2147483647))))
  sNil))
  (sSeq (sRet (pLstC (pCons (pCall (gListOf false) (pCons (pVar 0) pNil)) (pCons (pC (.int 0)) (pCons (pC (.int 0)) (pCons (pVar 1) pNil))))))
  sNil))
noncomputable def F__law_tape : Nat → PF
  | 0 => fun _ _ => .bad
  | n + 1 => pFun 1 3 .keep (B__law_tape n)
/-- slots: 0 tape 1 many 2 place 3 number -/
noncomputable def B__law_draw (n : Nat) : SX :=
  sSeq (sIf (pTB (pBin gEq (pBin gIx (pVar 0) (pC (.int 2))) (pC (.int 0))))
  (sSeq (sSet 2 (pBin gIx (pVar 0) (pC (.int 1))))
  (sSeq (sSet 3 (pC (.int 0)))
  (sSeq (sIf (pTB (pBin gLt (pVar 2) (pCall gLen (pCons (pBin gIx (pVar 0) (pC (.int 0))) pNil))))
  (sSeq (sSet 3 (pCall gAbs (pCons (pCall gInt (pCons (pBin gIx (pBin gIx (pVar 0) (pC (.int 0))) (pVar 2)) pNil)) pNil)))
  sNil)
  (sSeq (sSub gSetIx (pVar 0) (pC (.int 3)) (pBin gMod (pCall gInt (pCons (pBin (gAdd false) (pBin (gAdd false) (pBin gMul (pBin gIx (pVar 0) (pC (.int 3))) (pC (.int 48271))) (pVar 2)) (pC (.int 1))) pNil)) (pC (.int 2147483647))))
  (sSeq (sSet 3 (pBin gIx (pVar 0) (pC (.int 3))))
  sNil)))
  (sSeq (sSub gSetIx (pVar 0) (pC (.int 1)) (pBin (gAdd false) (pVar 2) (pC (.int 1))))
  (sSeq (sIf (pTB (pBin gLt (pVar 3) (pBin gPow (pC (.int 10)) (pC (.int 18)))))
  (sSeq (sSet 3 (pBin gMod (pCall gInt (pCons (pBin (gAdd false) (pBin (gAdd false) (pBin gMul (pVar 3) (pC (.int 48271))) (pBin gMul (pVar 2) (pC (.int 69621)))) (pC (.int 5))) pNil)) (pC (.int 2147483647))))
  (sSeq (sSet 3 (pBin gMod (pCall gInt (pCons (pBin gMul (pVar 3) (pC (.int 69621))) pNil)) (pC (.int 2147483629))))
  (sSeq (sRet (pBin gMod (pCall gInt (pCons (pVar 3) pNil)) (pCall gMax2 (pCons (pVar 1) (pCons (pC (.int 1)) pNil)))))
  sNil)))
  sNil)
  (sSeq (sSub gSetIx (pVar 0) (pC (.int 2)) (pVar 3))
  sNil))))))
  sNil)
  (sSeq (sSet 3 (pBin gIx (pVar 0) (pC (.int 2))))
  (sSeq (sSub gSetIx (pVar 0) (pC (.int 2)) (pBin gFdiv (pVar 3) (pCall gMax2 (pCons (pVar 1) (pCons (pC (.int 2)) pNil)))))
  (sSeq (sRet (pBin gMod (pCall gInt (pCons (pVar 3) pNil)) (pCall gMax2 (pCons (pVar 1) (pCons (pC (.int 1)) pNil)))))
  sNil)))
noncomputable def F__law_draw : Nat → PF
  | 0 => fun _ _ => .bad
  | n + 1 => pFun 2 4 .cut (B__law_draw n)
/-- slots: 0 tape 1 rows -/
noncomputable def B__law_pick (n : Nat) : SX :=
  sSeq (sRet (pBin gIx (pVar 1) (pCall (F__law_draw n) (pCons (pVar 0) (pCons (pCall gLen (pCons (pVar 1) pNil)) pNil)))))
  sNil
noncomputable def F__law_pick : Nat → PF
  | 0 => fun _ _ => .bad
  | n + 1 => pFun 2 2 .cut (B__law_pick n)
noncomputable def F__law_same : Nat → PF
  | 0 => fun _ _ => .bad
  | n + 1 => pFun 2 3 .cut (sSeq (sIf (pTB (pIs "tuple" (pVar 1)))
  (sSeq (sIf (PL.tOr (PL.tNot (pTB (pIs "tuple" (pVar 0)))) (pTB (pBin gNe (pCall gLen (pCons (pVar 0) pNil)) (pCall gLen (pCons (pVar 1) pNil)))))
  (sSeq (sRet (pC (.bl false)))
  sNil)
  sNil)
  (sSeq (sRet (pBin gNotIn (pC (.bl false)) (pLc false (iRange1 (pCall gLen (pCons (pVar 1) pNil))) (gVar 2) PL.tYes (pCall (F__law_same n) (pCons (pBin gIx (pVar 0) (pVar 2)) (pCons (pBin gIx (pVar 1) (pVar 2)) pNil))))))
  sNil))
  sNil)
  (sSeq (sIf (PL.tOr (pTB (pBin gIsN (pVar 1) (pC .non))) (pTB (pBin gIsN (pVar 0) (pC .non))))
  (sSeq (sRet (pAnd (pBin gIsN (pVar 1) (pC .non)) (pBin gIsN (pVar 0) (pC .non))))
  sNil)
  sNil)
  (sSeq (sIf (PL.tOr (pTB (pBin gNe (pIs "bool" (pVar 0)) (pIs "bool" (pVar 1)))) (pTB (pBin gNe (pIs "str" (pVar 0)) (pIs "str" (pVar 1)))))
  (sSeq (sRet (pC (.bl false)))
  sNil)
  sNil)
  (sSeq (sRet (pAnd (pBin gEq (pIs "int" (pVar 0)) (pIs "int" (pVar 1))) (pBin gEq (pVar 0) (pVar 1))))
  sNil))))
/-- slots: 0 tape 1 many 2 letters 3 signs 4 style 5 start 6 names 7 k -/
noncomputable def B__law_b_names (n : Nat) : SX :=
  sSeq (sSet 2 (pC (.str [97, 98, 99, 100, 101, 102, 103, 104, 105, 106, 107, 108, 109, 110, 111, 112, 113, 114, 115, 116, 117, 118, 119, 120, 121, 122])))
  (sSeq (sSet 3 (pBin (gAdd false) (pVar 2) (pC (.str [48, 49, 50, 51, 52, 53, 54, 55, 56, 57]))))
  (sSeq (sSet 4 (pCall (F__law_draw n) (pCons (pVar 0) (pCons (pC (.int 5)) pNil))))
  (sSeq (sSet 5 (pCall (F__law_draw n) (pCons (pVar 0) (pCons (pC (.int 36)) pNil))))
  (sSeq (sSet 6 (pLstC pNil))
  (sSeq (sFor (iRange1 (pVar 1)) (gVar 7)
  (sSeq (sIf (pTB (pBin gEq (pVar 4) (pC (.int 0))))
  (sSeq (sDrop (pLm gAppend (pVar 6) (pCons (pBin gIx (pVar 2) (pBin gMod (pCall gInt (pCons (pBin (gAdd false) (pVar 5) (pBin gMul (pC (.int 7)) (pVar 7))) pNil)) (pC (.int 26)))) pNil)))
  sNil)
  (sSeq (sIf (pTB (pBin gEq (pVar 4) (pC (.int 1))))
  (sSeq (sDrop (pLm gAppend (pVar 6) (pCons (pBin (gAdd false) (pC (.str [101, 109, 112, 108, 111, 121, 101])) (pBin gIx (pVar 3) (pBin gMod (pCall gInt (pCons (pBin (gAdd false) (pVar 5) (pBin gMul (pC (.int 5)) (pVar 7))) pNil)) (pC (.int 36))))) pNil)))
  sNil)
  (sSeq (sIf (pTB (pBin gEq (pVar 4) (pC (.int 2))))
  (sSeq (sDrop (pLm gAppend (pVar 6) (pCons (pBin (gAdd false) (pC (.str [112])) (pCall gStrI (pCons (pBin gMod (pCall gInt (pCons (pBin (gAdd false) (pVar 5) (pBin gMul (pC (.int 5)) (pVar 7))) pNil)) (pC (.int 36))) pNil))) pNil)))
  sNil)
  (sSeq (sIf (pTB (pBin gEq (pVar 4) (pC (.int 3))))
  (sSeq (sDrop (pLm gAppend (pVar 6) (pCons (pBin (gAdd false) (pC (.str [102, 97, 108, 115, 101])) (pBin gIx (pVar 3) (pBin gMod (pCall gInt (pCons (pBin (gAdd false) (pVar 5) (pBin gMul (pC (.int 5)) (pVar 7))) pNil)) (pC (.int 36))))) pNil)))
  sNil)
  (sSeq (sIf (pTB (pBin gLt (pVar 7) (pC (.int 8))))
  (sSeq (sDrop (pLm gAppend (pVar 6) (pCons (pSl (gSl false) (pBin (gAdd false) (pBin gIx (pVar 2) (pBin gMod (pCall gInt (pCons (pVar 5) pNil)) (pC (.int 26)))) (pC (.str [97, 49, 98, 50, 99, 51, 100]))) poN (poS (pBin (gAdd false) (pVar 7) (pC (.int 1))))) pNil)))
  sNil)
  (sSeq (sDrop (pLm gAppend (pVar 6) (pCons (pBin (gAdd false) (pBin gIx (pVar 2) (pBin gMod (pCall gInt (pCons (pBin (gAdd false) (pVar 5) (pVar 7)) pNil)) (pC (.int 26)))) (pC (.str [122]))) pNil)))
  sNil))
  sNil))
  sNil))
  sNil))
  sNil))
  sNil))
  (sSeq (sRet (pVar 6))
  sNil))))))
noncomputable def F__law_b_names : Nat → PF
  | 0 => fun _ _ => .bad
  | n + 1 => pFun 2 8 .cut (B__law_b_names n)
noncomputable def F__law_b_size : Nat → PF
  | 0 => fun _ _ => .bad
  | n + 1 => pFun 1 1 .cut (sSeq (sIf (pTB (pIs "str" (pVar 0)))
  (sSeq (sRet (pC (.int 1)))
  sNil)
  sNil)
  (sSeq (sRet (pBin (gAdd false) (pCall (F__law_b_size n) (pCons (pBin gIx (pVar 0) (pC (.int 0))) pNil)) (pCall (F__law_b_size n) (pCons (pBin gIx (pVar 0) (pC (.int 1))) pNil))))
  sNil))
noncomputable def F__law_b_depth : Nat → PF
  | 0 => fun _ _ => .bad
  | n + 1 => pFun 1 1 .cut (sSeq (sIf (pTB (pIs "str" (pVar 0)))
  (sSeq (sRet (pC (.int 0)))
  sNil)
  sNil)
  (sSeq (sRet (pBin (gAdd false) (pC (.int 1)) (pCall gMax2 (pCons (pCall (F__law_b_depth n) (pCons (pBin gIx (pVar 0) (pC (.int 0))) pNil)) (pCons (pCall (F__law_b_depth n) (pCons (pBin gIx (pVar 0) (pC (.int 1))) pNil)) pNil)))))
  sNil))
/-- slots: 0 tape 1 names 2 more 3 pool 4 turn 5 one 6 other -/
noncomputable def B__law_b_pool (n : Nat) : SX :=
  sSeq (sSet 3 (pCall (gListOf true) (pCons (pVar 1) pNil)))
  (sSeq (sFor (iRange1 (pVar 2)) (gVar 4)
  (sSeq (sSet 5 (pCall (F__law_pick n) (pCons (pVar 0) (pCons (pVar 3) pNil))))
  (sSeq (sSet 6 (pCall (F__law_pick n) (pCons (pVar 0) (pCons (pVar 3) pNil))))
  (sSeq (sIf (PL.tOr (pTB (pBin gGt (pBin (gAdd false) (pCall (F__law_b_size n) (pCons (pVar 5) pNil)) (pCall (F__law_b_size n) (pCons (pVar 6) pNil))) (pC (.int 12)))) (pTB (pBin gGt (pCall gMax2 (pCons (pCall (F__law_b_depth n) (pCons (pVar 5) pNil)) (pCons (pCall (F__law_b_depth n) (pCons (pVar 6) pNil)) pNil))) (pC (.int 5)))))
  (sSeq (sSet 5 (pBin gIx (pVar 1) (pC (.int 0))))
  (sSeq (sSet 6 (pBin gIx (pVar 1) (pBin gSub (pCall gLen (pCons (pVar 1) pNil)) (pC (.int 1)))))
  sNil))
  sNil)
  (sSeq (sDrop (pLm gAppend (pVar 3) (pCons (pTup (pCons (pVar 5) (pCons (pVar 6) pNil))) pNil)))
  sNil)))))
  (sSeq (sRet (pVar 3))
  sNil))
noncomputable def F__law_b_pool : Nat → PF
  | 0 => fun _ _ => .bad
  | n + 1 => pFun 3 7 .cut (B__law_b_pool n)
/-- slots: 0 tape 1 pool 2 left -/
noncomputable def B__law_b_pair (n : Nat) : SX :=
  sSeq (sSet 2 (pCall (F__law_pick n) (pCons (pVar 0) (pCons (pVar 1) pNil))))
  (sSeq (sRet (pTup (pCons (pVar 2) (pCons (pCall (F__law_pick n) (pCons (pVar 0) (pCons (pVar 1) pNil))) pNil))))
  sNil)
noncomputable def F__law_b_pair : Nat → PF
  | 0 => fun _ _ => .bad
  | n + 1 => pFun 2 3 .cut (B__law_b_pair n)
/-- slots: 0 tape 1 pool 2 kind 3 many 4 premises 5 k -/
noncomputable def B__law_b_clause (n : Nat) : SX :=
  sSeq (sSet 2 (pCall (F__law_draw n) (pCons (pVar 0) (pCons (pC (.int 6)) pNil))))
  (sSeq (sSet 3 (pBin gIx (pLst (pCons (pC (.int 0)) (pCons (pC (.int 1)) (pCons (pC (.int 0)) (pCons (pC (.int 2)) (pCons (pC (.int 1)) (pCons (pBin (gAdd false) (pC (.int 1)) (pCall (F__law_draw n) (pCons (pVar 0) (pCons (pC (.int 4)) pNil)))) pNil))))))) (pVar 2)))
  (sSeq (sSet 4 (pCall gTupOf (pCons (pLc false (iRange1 (pVar 3)) (gVar 5) PL.tYes (pCall (F__law_b_pair n) (pCons (pVar 0) (pCons (pVar 1) pNil)))) pNil)))
  (sSeq (sIf (PL.tOr (pTB (pBin gEq (pVar 2) (pC (.int 4)))) (PL.tAnd (pTB (pBin gEq (pVar 2) (pC (.int 5)))) (pTB (pBin gEq (pCall (F__law_draw n) (pCons (pVar 0) (pCons (pC (.int 3)) pNil))) (pC (.int 1))))))
  (sSeq (sRet (pTup (pCons (pVar 4) (pCons (pC .non) pNil))))
  sNil)
  sNil)
  (sSeq (sRet (pTup (pCons (pVar 4) (pCons (pCall (F__law_b_pair n) (pCons (pVar 0) (pCons (pVar 1) pNil))) pNil))))
  sNil))))
noncomputable def F__law_b_clause : Nat → PF
  | 0 => fun _ _ => .bad
  | n + 1 => pFun 2 6 .cut (B__law_b_clause n)
/-- slots: 0 tape -/
noncomputable def B__law_b_worth (n : Nat) : SX :=
  sSeq (sRet (pCall (F__law_pick n) (pCons (pVar 0) (pCons (pLst (pCons (pC (.int 1)) (pCons (pC (.int 2)) (pCons (pC (.int 3)) (pCons (pBin (gAdd false) (pC (.int 1)) (pCall (F__law_draw n) (pCons (pVar 0) (pCons (pC (.int 9)) pNil)))) (pCons (pBin (gAdd false) (pC (.int 1)) (pCall (F__law_draw n) (pCons (pVar 0) (pCons (pC (.int 1000)) pNil)))) (pCons (pC (.int 1000)) pNil))))))) pNil))))
  sNil
noncomputable def F__law_b_worth : Nat → PF
  | 0 => fun _ _ => .bad
  | n + 1 => pFun 1 1 .cut (B__law_b_worth n)
/-- slots: 0 datum 1 letters 2 sign -/
noncomputable def B__law_b_is_name (n : Nat) : SX :=
  sSeq (sSet 1 (pC (.str [97, 98, 99, 100, 101, 102, 103, 104, 105, 106, 107, 108, 109, 110, 111, 112, 113, 114, 115, 116, 117, 118, 119, 120, 121, 122])))
  (sSeq (sIf (PL.tOr (PL.tNot (pTB (pIs "str" (pVar 0)))) (PL.tOr (pTB (pBin gLt (pCall gLen (pCons (pVar 0) pNil)) (pC (.int 1)))) (PL.tOr (pTB (pBin gGt (pCall gLen (pCons (pVar 0) pNil)) (pC (.int 8)))) (pTB (pBin gEq (pVar 0) (pC (.str [102, 97, 108, 115, 101])))))))
  (sSeq (sRet (pC (.bl false)))
  sNil)
  sNil)
  (sSeq (sRet (pAnd (pBin gIn (pBin gIx (pVar 0) (pC (.int 0))) (pVar 1)) (pBin gEq (pLc false (iSeq (pVar 0)) (gVar 2) (pTB (pBin gNotIn (pVar 2) (pBin (gAdd false) (pVar 1) (pC (.str [48, 49, 50, 51, 52, 53, 54, 55, 56, 57]))))) (pVar 2)) (pLst pNil))))
  sNil))
noncomputable def F__law_b_is_name : Nat → PF
  | 0 => fun _ _ => .bad
  | n + 1 => pFun 1 3 .cut (B__law_b_is_name n)
noncomputable def F__law_b_is_term : Nat → PF
  | 0 => fun _ _ => .bad
  | n + 1 => pFun 1 1 .cut (sSeq (sIf (pTB (pIs "tuple" (pVar 0)))
  (sSeq (sRet (pAnd (pBin gEq (pCall gLen (pCons (pVar 0) pNil)) (pC (.int 2))) (pAnd (pCall (F__law_b_is_term n) (pCons (pBin gIx (pVar 0) (pC (.int 0))) pNil)) (pCall (F__law_b_is_term n) (pCons (pBin gIx (pVar 0) (pC (.int 1))) pNil)))))
  sNil)
  sNil)
  (sSeq (sRet (pCall (F__law_b_is_name n) (pCons (pVar 0) pNil)))
  sNil))
/-- slots: 0 datum 1 many -/
noncomputable def B__law_b_is_number (n : Nat) : SX :=
  sSeq (sRet (pAnd (pIs "int" (pVar 0)) (pAnd (pUn gNot (pIs "bool" (pVar 0))) (pAnd (pBin gLe (pC (.int 0)) (pVar 0)) (pBin gLt (pVar 0) (pVar 1))))))
  sNil
noncomputable def F__law_b_is_number : Nat → PF
  | 0 => fun _ _ => .bad
  | n + 1 => pFun 2 2 .cut (B__law_b_is_number n)
/-- slots: 0 clauses 1 derived 2 place 3 steps 4 k -/
noncomputable def B__law_b_fired (n : Nat) : SX :=
  sSeq (sIf (PL.tOr (PL.tNot (pTB (pCall (F__law_b_is_number n) (pCons (pVar 2) (pCons (pCall gLen (pCons (pVar 0) pNil)) pNil))))) (PL.tOr (PL.tNot (pTB (pIs "tuple" (pVar 3)))) (pTB (pBin gNe (pCall gLen (pCons (pVar 3) pNil)) (pCall gLen (pCons (pBin gIx (pBin gIx (pVar 0) (pVar 2)) (pC (.int 0))) pNil))))))
  (sSeq (sRet (pTup pNil))
  sNil)
  sNil)
  (sSeq (sFor (iRange1 (pCall gLen (pCons (pVar 3) pNil))) (gVar 4)
  (sSeq (sIf (PL.tOr (PL.tNot (pTB (pCall (F__law_b_is_number n) (pCons (pBin gIx (pVar 3) (pVar 4)) (pCons (pCall gLen (pCons (pVar 1) pNil)) pNil))))) (pTB (pBin gNe (pBin gIx (pVar 1) (pBin gIx (pVar 3) (pVar 4))) (pBin gIx (pBin gIx (pBin gIx (pVar 0) (pVar 2)) (pC (.int 0))) (pVar 4)))))
  (sSeq (sRet (pTup pNil))
  sNil)
  sNil)
  sNil))
  (sSeq (sRet (pTup (pCons (pBin gIx (pBin gIx (pVar 0) (pVar 2)) (pC (.int 1))) pNil)))
  sNil))
noncomputable def F__law_b_fired : Nat → PF
  | 0 => fun _ _ => .bad
  | n + 1 => pFun 4 5 .cut (B__law_b_fired n)
/-- slots: 0 clauses 1 derived 2 step 3 word 4 refs 5 left 6 right 7 start 8 end 9 ref -/
noncomputable def B__law_b_step (n : Nat) : SX :=
  sSeq (sIf (PL.tOr (PL.tNot (pTB (pIs "tuple" (pVar 2)))) (pTB (pBin gNotIn (pCall gLen (pCons (pVar 2) pNil)) (pLst (pCons (pC (.int 2)) (pCons (pC (.int 3)) pNil))))))
  (sSeq (sRet (pTup pNil))
  sNil)
  sNil)
  (sSeq (sSet 3 (pBin gIx (pVar 2) (pC (.int 0))))
  (sSeq (sSet 4 (pSl (gSl false) (pCall (gListOf false) (pCons (pVar 2) pNil)) (poS (pC (.int 1))) poN))
  (sSeq (sIf (pTB (pBin gEq (pVar 3) (pC (.str [114, 101, 102, 108, 101, 120, 105, 118, 105, 116, 121]))))
  (sSeq (sRet (pIf (PL.tAnd (pTB (pBin gEq (pCall gLen (pCons (pVar 4) pNil)) (pC (.int 1)))) (pTB (pCall (F__law_b_is_term n) (pCons (pBin gIx (pVar 4) (pC (.int 0))) pNil)))) (pTup (pCons (pTup (pCons (pBin gIx (pVar 4) (pC (.int 0))) (pCons (pBin gIx (pVar 4) (pC (.int 0))) pNil))) pNil)) (pTup pNil)))
  sNil)
  sNil)
  (sSeq (sIf (pTB (pBin gEq (pVar 3) (pC (.str [99, 108, 97, 117, 115, 101]))))
  (sSeq (sRet (pIf (pTB (pBin gEq (pCall gLen (pCons (pVar 4) pNil)) (pC (.int 2)))) (pCall (F__law_b_fired n) (pCons (pVar 0) (pCons (pVar 1) (pCons (pBin gIx (pVar 4) (pC (.int 0))) (pCons (pBin gIx (pVar 4) (pC (.int 1))) pNil))))) (pTup pNil)))
  sNil)
  sNil)
  (sSeq (sIf (PL.tOr (pTB (pBin gNotIn (pVar 3) (pLst (pCons (pC (.str [115, 121, 109, 109, 101, 116, 114, 121])) (pCons (pC (.str [116, 114, 97, 110, 115, 105, 116, 105, 118, 105, 116, 121])) (pCons (pC (.str [99, 111, 110, 103, 114, 117, 101, 110, 99, 101])) pNil)))))) (pTB (pBin gNe (pCall gLen (pCons (pVar 4) pNil)) (pIf (pTB (pBin gEq (pVar 3) (pC (.str [115, 121, 109, 109, 101, 116, 114, 121])))) (pC (.int 1)) (pC (.int 2))))))
  (sSeq (sRet (pTup pNil))
  sNil)
  sNil)
  (sSeq (sIf (pTB (pBin gNe (pLc false (iSeq (pVar 4)) (gVar 9) (PL.tOr (PL.tNot (pTB (pCall (F__law_b_is_number n) (pCons (pVar 9) (pCons (pCall gLen (pCons (pVar 1) pNil)) pNil))))) (pTB (pBin gIsN (pBin gIx (pVar 1) (pVar 9)) (pC .non)))) (pVar 9)) (pLst pNil)))
  (sSeq (sRet (pTup pNil))
  sNil)
  sNil)
  (sSeq (sAsg (gUnp (PL.gCons (gVar 5) (PL.gCons (gVar 6) gNils))) (pBin gIx (pVar 1) (pBin gIx (pVar 4) (pC (.int 0)))))
  (sSeq (sIf (pTB (pBin gEq (pVar 3) (pC (.str [115, 121, 109, 109, 101, 116, 114, 121]))))
  (sSeq (sRet (pTup (pCons (pTup (pCons (pVar 6) (pCons (pVar 5) pNil))) pNil)))
  sNil)
  sNil)
  (sSeq (sAsg (gUnp (PL.gCons (gVar 7) (PL.gCons (gVar 8) gNils))) (pBin gIx (pVar 1) (pBin gIx (pVar 4) (pC (.int 1)))))
  (sSeq (sIf (pTB (pBin gEq (pVar 3) (pC (.str [116, 114, 97, 110, 115, 105, 116, 105, 118, 105, 116, 121]))))
  (sSeq (sRet (pIf (pTB (pBin gEq (pVar 6) (pVar 7))) (pTup (pCons (pTup (pCons (pVar 5) (pCons (pVar 8) pNil))) pNil)) (pTup pNil)))
  sNil)
  sNil)
  (sSeq (sIf (pTB (pBin gGt (pCall gMax2 (pCons (pBin (gAdd false) (pCall (F__law_b_size n) (pCons (pVar 5) pNil)) (pCall (F__law_b_size n) (pCons (pVar 7) pNil))) (pCons (pBin (gAdd false) (pCall (F__law_b_size n) (pCons (pVar 6) pNil)) (pCall (F__law_b_size n) (pCons (pVar 8) pNil))) pNil))) (pC (.int 60))))
  (sSeq (sRet (pTup pNil))
  sNil)
  sNil)
  (sSeq (sRet (pTup (pCons (pTup (pCons (pTup (pCons (pVar 5) (pCons (pVar 7) pNil))) (pCons (pTup (pCons (pVar 6) (pCons (pVar 8) pNil))) pNil))) pNil)))
  sNil))))))))))))
noncomputable def F__law_b_step : Nat → PF
  | 0 => fun _ _ => .bad
  | n + 1 => pFun 3 10 .cut (B__law_b_step n)
/-- slots: 0 clauses 1 proof 2 derived 3 step 4 found -/
noncomputable def B__law_b_run (n : Nat) : SX :=
  sSeq (sSet 2 (pLstC pNil))
  (sSeq (sFor (iSeq (pVar 1)) (gVar 3)
  (sSeq (sSet 4 (pCall (F__law_b_step n) (pCons (pVar 0) (pCons (pVar 2) (pCons (pVar 3) pNil)))))
  (sSeq (sIf (pTB (pBin gEq (pVar 4) (pTup pNil)))
  (sSeq (sRet (pC .non))
  sNil)
  sNil)
  (sSeq (sDrop (pLm gAppend (pVar 2) (pCons (pBin gIx (pVar 4) (pC (.int 0))) pNil)))
  sNil))))
  (sSeq (sRet (pVar 2))
  sNil))
noncomputable def F__law_b_run : Nat → PF
  | 0 => fun _ _ => .bad
  | n + 1 => pFun 2 5 .keep (B__law_b_run n)
/-- slots: 0 tape 1 clauses 2 derived 3 pool 4 choice 5 able 6 term 7 one 8 ends 9 other 10 sizes 11 place 12 steps 13 premise 14 found 15 k 16 s -/
noncomputable def B__law_b_next (n : Nat) : SX :=
  sSeq (sSet 4 (pCall (F__law_draw n) (pCons (pVar 0) (pCons (pC (.int 6)) pNil))))
  (sSeq (sSet 5 (pLc false (iRange1 (pCall gLen (pCons (pVar 2) pNil))) (gVar 15) (pTB (pBin gNotN (pBin gIx (pVar 2) (pVar 15)) (pC .non))) (pVar 15)))
  (sSeq (sSet 6 (pCall (F__law_pick n) (pCons (pVar 0) (pCons (pVar 3) pNil))))
  (sSeq (sIf (PL.tOr (pTB (pBin gEq (pVar 5) (pLst pNil))) (pTB (pBin gEq (pVar 4) (pC (.int 0)))))
  (sSeq (sRet (pTup (pCons (pC (.str [114, 101, 102, 108, 101, 120, 105, 118, 105, 116, 121])) (pCons (pVar 6) pNil))))
  sNil)
  sNil)
  (sSeq (sSet 7 (pCall (F__law_pick n) (pCons (pVar 0) (pCons (pVar 5) pNil))))
  (sSeq (sIf (pTB (pBin gEq (pVar 4) (pC (.int 1))))
  (sSeq (sRet (pTup (pCons (pC (.str [115, 121, 109, 109, 101, 116, 114, 121])) (pCons (pVar 7) pNil))))
  sNil)
  sNil)
  (sSeq (sIf (pTB (pBin gEq (pVar 4) (pC (.int 2))))
  (sSeq (sSet 8 (pLc false (iSeq (pVar 5)) (gVar 15) (pTB (pBin gEq (pBin gIx (pBin gIx (pVar 2) (pVar 15)) (pC (.int 0))) (pBin gIx (pBin gIx (pVar 2) (pVar 7)) (pC (.int 1))))) (pVar 15)))
  (sSeq (sRet (pIf (pTB (pBin gNe (pVar 8) (pLst pNil))) (pTup (pCons (pC (.str [116, 114, 97, 110, 115, 105, 116, 105, 118, 105, 116, 121])) (pCons (pVar 7) (pCons (pCall (F__law_pick n) (pCons (pVar 0) (pCons (pVar 8) pNil))) pNil)))) (pTup (pCons (pC (.str [115, 121, 109, 109, 101, 116, 114, 121])) (pCons (pVar 7) pNil)))))
  sNil))
  sNil)
  (sSeq (sIf (pTB (pBin gEq (pVar 4) (pC (.int 3))))
  (sSeq (sSet 9 (pCall (F__law_pick n) (pCons (pVar 0) (pCons (pVar 5) pNil))))
  (sSeq (sSet 10 (pLc false (iSeq (pLst (pCons (pC (.int 0)) (pCons (pC (.int 1)) pNil)))) (gVar 16) PL.tYes (pBin (gAdd false) (pCall (F__law_b_size n) (pCons (pBin gIx (pBin gIx (pVar 2) (pVar 7)) (pVar 16)) pNil)) (pCall (F__law_b_size n) (pCons (pBin gIx (pBin gIx (pVar 2) (pVar 9)) (pVar 16)) pNil)))))
  (sSeq (sRet (pIf (pTB (pBin gLe (pCall gMaxL (pCons (pVar 10) pNil)) (pC (.int 60)))) (pTup (pCons (pC (.str [99, 111, 110, 103, 114, 117, 101, 110, 99, 101])) (pCons (pVar 7) (pCons (pVar 9) pNil)))) (pTup (pCons (pC (.str [115, 121, 109, 109, 101, 116, 114, 121])) (pCons (pVar 7) pNil)))))
  sNil)))
  sNil)
  (sSeq (sSet 11 (pCall (F__law_draw n) (pCons (pVar 0) (pCons (pCall gLen (pCons (pVar 1) pNil)) pNil))))
  (sSeq (sSet 12 (pLstC pNil))
  (sSeq (sFor (iSeq (pBin gIx (pBin gIx (pVar 1) (pVar 11)) (pC (.int 0)))) (gVar 13)
  (sSeq (sSet 14 (pLc false (iSeq (pVar 5)) (gVar 15) (pTB (pBin gEq (pBin gIx (pVar 2) (pVar 15)) (pVar 13))) (pVar 15)))
  (sSeq (sIf (pTB (pBin gEq (pVar 14) (pLst pNil)))
  (sSeq (sRet (pTup (pCons (pC (.str [114, 101, 102, 108, 101, 120, 105, 118, 105, 116, 121])) (pCons (pVar 6) pNil))))
  sNil)
  sNil)
  (sSeq (sDrop (pLm gAppend (pVar 12) (pCons (pCall (F__law_pick n) (pCons (pVar 0) (pCons (pVar 14) pNil))) pNil)))
  sNil))))
  (sSeq (sRet (pTup (pCons (pC (.str [99, 108, 97, 117, 115, 101])) (pCons (pVar 11) (pCons (pCall gTupOf (pCons (pVar 12) pNil)) pNil)))))
  sNil)))))))))))
noncomputable def F__law_b_next : Nat → PF
  | 0 => fun _ _ => .bad
  | n + 1 => pFun 4 17 .cut (B__law_b_next n)
/-- slots: 0 proof 1 weights 2 costs 3 step 4 k -/
noncomputable def B__law_b_costs (n : Nat) : SX :=
  sSeq (sSet 2 (pLstC pNil))
  (sSeq (sFor (iSeq (pVar 0)) (gVar 3)
  (sSeq (sIf (pTB (pBin gEq (pBin gIx (pVar 3) (pC (.int 0))) (pC (.str [114, 101, 102, 108, 101, 120, 105, 118, 105, 116, 121]))))
  (sSeq (sDrop (pLm gAppend (pVar 2) (pCons (pC (.int 0)) pNil)))
  sNil)
  (sSeq (sIf (pTB (pBin gEq (pBin gIx (pVar 3) (pC (.int 0))) (pC (.str [99, 108, 97, 117, 115, 101]))))
  (sSeq (sDrop (pLm gAppend (pVar 2) (pCons (pBin (gAdd false) (pBin gIx (pVar 1) (pBin gIx (pVar 3) (pC (.int 1)))) (pCall gSum (pCons (pLc false (iSeq (pBin gIx (pVar 3) (pC (.int 2)))) (gVar 4) PL.tYes (pBin gIx (pVar 2) (pVar 4))) pNil))) pNil)))
  sNil)
  (sSeq (sDrop (pLm gAppend (pVar 2) (pCons (pCall gSum (pCons (pLc false (iSeq (pSl (gSl false) (pCall (gListOf false) (pCons (pVar 3) pNil)) (poS (pC (.int 1))) poN)) (gVar 4) PL.tYes (pBin gIx (pVar 2) (pVar 4))) pNil)) pNil)))
  sNil))
  sNil))
  sNil))
  (sSeq (sRet (pVar 2))
  sNil))
noncomputable def F__law_b_costs : Nat → PF
  | 0 => fun _ _ => .bad
  | n + 1 => pFun 2 5 .cut (B__law_b_costs n)
/-- slots: 0 tape 1 names 2 pool 3 pair 4 clauses 5 weights 6 steps 7 derived 8 turn 9 step 10 due 11 place 12 other 13 cut 14 proof 15 k 16 clause -/
noncomputable def B__law_b34_held (n : Nat) : SX :=
  sSeq (sSet 1 (pCall (F__law_b_names n) (pCons (pVar 0) (pCons (pBin (gAdd false) (pC (.int 2)) (pCall (F__law_draw n) (pCons (pVar 0) (pCons (pC (.int 4)) pNil)))) pNil))))
  (sSeq (sSet 2 (pCall (F__law_b_pool n) (pCons (pVar 0) (pCons (pVar 1) (pCons (pCall (F__law_draw n) (pCons (pVar 0) (pCons (pC (.int 5)) pNil))) pNil)))))
  (sSeq (sSet 3 (pTup (pCons (pBin gIx (pVar 2) (pC (.int 0))) (pCons (pBin gIx (pVar 2) (pBin gSub (pCall gLen (pCons (pVar 2) pNil)) (pC (.int 1)))) pNil))))
  (sSeq (sSet 4 (pLst (pCons (pTup (pCons (pTup pNil) (pCons (pVar 3) pNil))) (pCons (pTup (pCons (pTup (pCons (pVar 3) (pCons (pVar 3) pNil))) (pCons (pCall (F__law_b_pair n) (pCons (pVar 0) (pCons (pVar 2) pNil))) pNil))) pNil))))
  (sSeq (sSet 4 (pBin (gAdd false) (pVar 4) (pLc false (iRange1 (pCall (F__law_draw n) (pCons (pVar 0) (pCons (pC (.int 5)) pNil)))) (gVar 15) PL.tYes (pCall (F__law_b_clause n) (pCons (pVar 0) (pCons (pVar 2) pNil))))))
  (sSeq (sSet 5 (pLc false (iSeq (pVar 4)) (gVar 16) PL.tYes (pCall (F__law_b_worth n) (pCons (pVar 0) pNil))))
  (sSeq (sSet 6 (pLstC (pCons (pTup (pCons (pC (.str [99, 108, 97, 117, 115, 101])) (pCons (pC (.int 0)) (pCons (pTup pNil) pNil)))) (pCons (pTup (pCons (pC (.str [115, 121, 109, 109, 101, 116, 114, 121])) (pCons (pC (.int 0)) pNil))) (pCons (pTup (pCons (pC (.str [116, 114, 97, 110, 115, 105, 116, 105, 118, 105, 116, 121])) (pCons (pC (.int 0)) (pCons (pC (.int 1)) pNil)))) (pCons (pTup (pCons (pC (.str [99, 111, 110, 103, 114, 117, 101, 110, 99, 101])) (pCons (pC (.int 0)) (pCons (pC (.int 0)) pNil)))) (pCons (pTup (pCons (pC (.str [99, 108, 97, 117, 115, 101])) (pCons (pC (.int 1)) (pCons (pTup (pCons (pC (.int 0)) (pCons (pC (.int 0)) pNil))) pNil)))) pNil)))))))
  (sSeq (sSet 7 (pCall (F__law_b_run n) (pCons (pVar 4) (pCons (pVar 6) pNil))))
  (sSeq (sFor (iRange1 (pCall (F__law_draw n) (pCons (pVar 0) (pCons (pC (.int 26)) pNil)))) (gVar 8)
  (sSeq (sSet 9 (pCall (F__law_b_next n) (pCons (pVar 0) (pCons (pVar 4) (pCons (pVar 7) (pCons (pVar 2) pNil))))))
  (sSeq (sDrop (pLm gAppend (pVar 7) (pCons (pBin gIx (pCall (F__law_b_step n) (pCons (pVar 4) (pCons (pVar 7) (pCons (pVar 9) pNil)))) (pC (.int 0))) pNil)))
  (sSeq (sDrop (pLm gAppend (pVar 6) (pCons (pVar 9) pNil)))
  sNil))))
  (sSeq (sSet 10 (pCall gTupOf (pCons (pCall (F__law_b_costs n) (pCons (pVar 6) (pCons (pVar 5) pNil))) pNil)))
  (sSeq (sIf (PL.tNot (pTB (pCall (F__law_same n) (pCons (pCall (F_steps_cost n) (pCons (pCall gTupOf (pCons (pVar 6) pNil)) (pCons (pCall gTupOf (pCons (pVar 5) pNil)) pNil))) (pCons (pVar 10) pNil)))))
  (sSeq (sRet (pC (.bl false)))
  sNil)
  sNil)
  (sSeq (sSet 11 (pCall (F__law_draw n) (pCons (pVar 0) (pCons (pCall gLen (pCons (pVar 5) pNil)) pNil))))
  (sSeq (sSet 12 (pCall (gListOf true) (pCons (pVar 5) pNil)))
  (sSeq (sSub gSetIx (pVar 12) (pVar 11) (pBin (gAdd false) (pC (.int 1)) (pBin gMod (pCall gInt (pCons (pBin gIx (pVar 5) (pVar 11)) pNil)) (pC (.int 1000)))))
  (sSeq (sSet 13 (pCall (F__law_draw n) (pCons (pVar 0) (pCons (pBin (gAdd false) (pCall gLen (pCons (pVar 6) pNil)) (pC (.int 1))) pNil))))
  (sSeq (sFor (iSeq (pLst (pCons (pVar 6) (pCons (pSl (gSl false) (pVar 6) poN (poS (pVar 13))) (pCons (pLst pNil) pNil))))) (gVar 14)
  (sSeq (sIf (PL.tNot (pTB (pCall (F__law_same n) (pCons (pCall (F_steps_cost n) (pCons (pCall gTupOf (pCons (pVar 14) pNil)) (pCons (pCall gTupOf (pCons (pVar 12) pNil)) pNil))) (pCons (pCall gTupOf (pCons (pCall (F__law_b_costs n) (pCons (pVar 14) (pCons (pVar 12) pNil))) pNil)) pNil)))))
  (sSeq (sRet (pC (.bl false)))
  sNil)
  sNil)
  sNil))
  (sSeq (sRet (pCall (F__law_same n) (pCons (pCall (F_steps_cost n) (pCons (pCall gTupOf (pCons (pVar 6) pNil)) (pCons (pCall gTupOf (pCons (pVar 5) pNil)) pNil))) (pCons (pVar 10) pNil))))
  sNil))))))))))))))))
noncomputable def F__law_b34_held : Nat → PF
  | 0 => fun _ _ => .bad
  | n + 1 => pFun 1 17 .cut (B__law_b34_held n)
/-- slots: 0 script -/
noncomputable def B_law (n : Nat) : SX :=
  sSeq (sSeq (sRet (pCall (F__law_b34_held n) (pCons (pCall (F__law_tape n) (pCons (pVar 0) pNil)) pNil)))
  sNil)
  sNil
noncomputable def F_law : Nat → PF
  | 0 => fun _ _ => .bad
  | n + 1 => pFun 1 1 .cut (B_law n)
end T

namespace T
open PySem PL L2

theorem draw_spec {n : Nat} (hn : 1 ≤ n) {t : Cell} {ψ : PHeap} {m : Int} {Q : PV → PHeap → Prop} (ht : TapeOK t) (hm : m < 1073741824)
    (h : ∀ r t', TapeOK t' → 0 ≤ r → r < max m 1 → Q (.int r) (t' :: ψ)) : wR (F__law_draw n [.loc 0, .int m] (t :: ψ)) Q := by
  obtain ⟨n, rfl⟩ : ∃ k, n = k + 1 := ⟨n - 1, by omega⟩
  obtain ⟨ns, p, q, r, rfl, hp, hq⟩ := ht
  have h1 : (0 : Int) < (if (1 : Int) > m then 1 else m) := by split <;> omega
  have hr : ∀ x : Int, 0 ≤ x % (if (1 : Int) > m then 1 else m) ∧ x % (if (1 : Int) > m then 1 else m) < max m 1 := fun x => by
    have h2 := Int.emod_nonneg x (Int.ne_of_gt h1)
    have h3 := Int.emod_lt_of_pos x h1
    refine ⟨h2, Int.lt_of_lt_of_le h3 ?_⟩
    split <;> omega
  have hd : ∀ i, CDiv i (if (2 : Int) > m then 2 else m) := fun i => by unfold CDiv; split <;> omega
  have hd0 : (0 : Int) ≤ (if (2 : Int) > m then 2 else m) := by split <;> omega
  have end1 : ∀ (x y p' r' : Int), 0 ≤ p' → 0 ≤ y → wR (finM .cut (Cell.lst [.lst (ns.map .int), .int p, .int q, .int r] :: ψ) (.int (x % (if (1 : Int) > m then 1 else m))) (Cell.lst [.lst (ns.map .int), .int p', .int y, .int r'] :: ψ)) Q := fun x y p' r' hp' hy => by
    have hT : TapeOK (Cell.lst [.lst (ns.map .int), .int p', .int y, .int r']) := ⟨ns, p', y, r', rfl, hp', hy⟩
    exact w_finT0 (.inl rfl) hT rfl (h _ _ hT (hr x).1 (hr x).2)
  refine w_fun' rfl ?_
  unfold B__law_draw
  repeat (first | refine Wp.imp ?_ | (with_reducible refine w_modI (by decide) ?_) | (with_reducible refine w_mulI (cmulR (by decide) (by decide)) ?_) | (with_reducible refine w_mulI (cmulL (by decide) (by decide)) ?_) | (with_reducible refine w_powI (cpowL (by decide) (by decide) (by decide)) ?_) | (with_reducible refine ⟨fun h => absurd h (by decide), fun _ => ?_⟩) | (with_reducible refine ⟨fun _ => ?_, fun h => absurd h (by decide)⟩))
  refine ⟨fun hc => ?_, fun hc => ?_⟩
  · repeat (first | refine Wp.imp ?_ | (with_reducible refine w_modI (by decide) ?_) | (with_reducible refine w_mulI (cmulR (by decide) (by decide)) ?_) | (with_reducible refine w_mulI (cmulL (by decide) (by decide)) ?_) | (with_reducible refine w_powI (cpowL (by decide) (by decide) (by decide)) ?_) | (with_reducible refine ⟨fun h => absurd h (by decide), fun _ => ?_⟩) | (with_reducible refine ⟨fun _ => ?_, fun h => absurd h (by decide)⟩))
    have hq0 : q = 0 := of_decide_eq_true hc
    subst hq0
    refine ⟨fun hl => ?_, fun hl => ?_⟩
    · have hl := of_decide_eq_true hl
      obtain ⟨z, hz, hm⟩ := pyIx_lt hp hl
      obtain ⟨c, _, rfl⟩ := List.mem_map.mp hm
      repeat (first | refine Wp.imp ?_ | (with_reducible refine w_modI (by decide) ?_) | (with_reducible refine w_mulI (cmulR (by decide) (by decide)) ?_) | (with_reducible refine w_mulI (cmulL (by decide) (by decide)) ?_) | (with_reducible refine w_powI (cpowL (by decide) (by decide) (by decide)) ?_) | (with_reducible refine ⟨fun h => absurd h (by decide), fun _ => ?_⟩) | (with_reducible refine ⟨fun _ => ?_, fun h => absurd h (by decide)⟩))
      refine w_ixL hz ?_
      repeat (first | refine Wp.imp ?_ | (with_reducible refine w_modI (by decide) ?_) | (with_reducible refine w_mulI (cmulR (by decide) (by decide)) ?_) | (with_reducible refine w_mulI (cmulL (by decide) (by decide)) ?_) | (with_reducible refine w_powI (cpowL (by decide) (by decide) (by decide)) ?_) | (with_reducible refine ⟨fun h => absurd h (by decide), fun _ => ?_⟩) | (with_reducible refine ⟨fun _ => ?_, fun h => absurd h (by decide)⟩))
      refine ⟨fun _ => ?_, fun hb => ?_⟩
      · repeat (first | refine Wp.imp ?_ | (with_reducible refine w_modI (by decide) ?_) | (with_reducible refine w_mulI (cmulR (by decide) (by decide)) ?_) | (with_reducible refine w_mulI (cmulL (by decide) (by decide)) ?_) | (with_reducible refine w_powI (cpowL (by decide) (by decide) (by decide)) ?_) | (with_reducible refine ⟨fun h => absurd h (by decide), fun _ => ?_⟩) | (with_reducible refine ⟨fun _ => ?_, fun h => absurd h (by decide)⟩))
        refine w_modI h1 ?_
        repeat (first | refine Wp.imp ?_ | (with_reducible refine w_modI (by decide) ?_) | (with_reducible refine w_mulI (cmulR (by decide) (by decide)) ?_) | (with_reducible refine w_mulI (cmulL (by decide) (by decide)) ?_) | (with_reducible refine w_powI (cpowL (by decide) (by decide) (by decide)) ?_) | (with_reducible refine ⟨fun h => absurd h (by decide), fun _ => ?_⟩) | (with_reducible refine ⟨fun _ => ?_, fun h => absurd h (by decide)⟩))
        exact end1 _ _ _ _ (by omega) (by omega)
      · repeat (first | refine Wp.imp ?_ | (with_reducible refine w_modI (by decide) ?_) | (with_reducible refine w_mulI (cmulR (by decide) (by decide)) ?_) | (with_reducible refine w_mulI (cmulL (by decide) (by decide)) ?_) | (with_reducible refine w_powI (cpowL (by decide) (by decide) (by decide)) ?_) | (with_reducible refine ⟨fun h => absurd h (by decide), fun _ => ?_⟩) | (with_reducible refine ⟨fun _ => ?_, fun h => absurd h (by decide)⟩))
        refine w_fdivI (hd _) ?_
        repeat (first | refine Wp.imp ?_ | (with_reducible refine w_modI (by decide) ?_) | (with_reducible refine w_mulI (cmulR (by decide) (by decide)) ?_) | (with_reducible refine w_mulI (cmulL (by decide) (by decide)) ?_) | (with_reducible refine w_powI (cpowL (by decide) (by decide) (by decide)) ?_) | (with_reducible refine ⟨fun h => absurd h (by decide), fun _ => ?_⟩) | (with_reducible refine ⟨fun _ => ?_, fun h => absurd h (by decide)⟩))
        refine w_modI h1 ?_
        repeat (first | refine Wp.imp ?_ | (with_reducible refine w_modI (by decide) ?_) | (with_reducible refine w_mulI (cmulR (by decide) (by decide)) ?_) | (with_reducible refine w_mulI (cmulL (by decide) (by decide)) ?_) | (with_reducible refine w_powI (cpowL (by decide) (by decide) (by decide)) ?_) | (with_reducible refine ⟨fun h => absurd h (by decide), fun _ => ?_⟩) | (with_reducible refine ⟨fun _ => ?_, fun h => absurd h (by decide)⟩))
        exact end1 _ _ _ _ (by omega) (Int.ediv_nonneg (by split <;> omega) hd0)
    · repeat (first | refine Wp.imp ?_ | (with_reducible refine w_modI (by decide) ?_) | (with_reducible refine w_mulI (cmulR (by decide) (by decide)) ?_) | (with_reducible refine w_mulI (cmulL (by decide) (by decide)) ?_) | (with_reducible refine w_powI (cpowL (by decide) (by decide) (by decide)) ?_) | (with_reducible refine ⟨fun h => absurd h (by decide), fun _ => ?_⟩) | (with_reducible refine ⟨fun _ => ?_, fun h => absurd h (by decide)⟩))
      refine ⟨fun _ => ?_, fun hb => ?_⟩
      · repeat (first | refine Wp.imp ?_ | (with_reducible refine w_modI (by decide) ?_) | (with_reducible refine w_mulI (cmulR (by decide) (by decide)) ?_) | (with_reducible refine w_mulI (cmulL (by decide) (by decide)) ?_) | (with_reducible refine w_powI (cpowL (by decide) (by decide) (by decide)) ?_) | (with_reducible refine ⟨fun h => absurd h (by decide), fun _ => ?_⟩) | (with_reducible refine ⟨fun _ => ?_, fun h => absurd h (by decide)⟩))
        refine w_modI h1 ?_
        repeat (first | refine Wp.imp ?_ | (with_reducible refine w_modI (by decide) ?_) | (with_reducible refine w_mulI (cmulR (by decide) (by decide)) ?_) | (with_reducible refine w_mulI (cmulL (by decide) (by decide)) ?_) | (with_reducible refine w_powI (cpowL (by decide) (by decide) (by decide)) ?_) | (with_reducible refine ⟨fun h => absurd h (by decide), fun _ => ?_⟩) | (with_reducible refine ⟨fun _ => ?_, fun h => absurd h (by decide)⟩))
        exact end1 _ _ _ _ (by omega) (by omega)
      · repeat (first | refine Wp.imp ?_ | (with_reducible refine w_modI (by decide) ?_) | (with_reducible refine w_mulI (cmulR (by decide) (by decide)) ?_) | (with_reducible refine w_mulI (cmulL (by decide) (by decide)) ?_) | (with_reducible refine w_powI (cpowL (by decide) (by decide) (by decide)) ?_) | (with_reducible refine ⟨fun h => absurd h (by decide), fun _ => ?_⟩) | (with_reducible refine ⟨fun _ => ?_, fun h => absurd h (by decide)⟩))
        refine w_fdivI (hd _) ?_
        repeat (first | refine Wp.imp ?_ | (with_reducible refine w_modI (by decide) ?_) | (with_reducible refine w_mulI (cmulR (by decide) (by decide)) ?_) | (with_reducible refine w_mulI (cmulL (by decide) (by decide)) ?_) | (with_reducible refine w_powI (cpowL (by decide) (by decide) (by decide)) ?_) | (with_reducible refine ⟨fun h => absurd h (by decide), fun _ => ?_⟩) | (with_reducible refine ⟨fun _ => ?_, fun h => absurd h (by decide)⟩))
        refine w_modI h1 ?_
        repeat (first | refine Wp.imp ?_ | (with_reducible refine w_modI (by decide) ?_) | (with_reducible refine w_mulI (cmulR (by decide) (by decide)) ?_) | (with_reducible refine w_mulI (cmulL (by decide) (by decide)) ?_) | (with_reducible refine w_powI (cpowL (by decide) (by decide) (by decide)) ?_) | (with_reducible refine ⟨fun h => absurd h (by decide), fun _ => ?_⟩) | (with_reducible refine ⟨fun _ => ?_, fun h => absurd h (by decide)⟩))
        exact end1 _ _ _ _ (by omega) (Int.ediv_nonneg (Int.emod_nonneg _ (by decide)) hd0)
  · repeat (first | refine Wp.imp ?_ | (with_reducible refine w_modI (by decide) ?_) | (with_reducible refine w_mulI (cmulR (by decide) (by decide)) ?_) | (with_reducible refine w_mulI (cmulL (by decide) (by decide)) ?_) | (with_reducible refine w_powI (cpowL (by decide) (by decide) (by decide)) ?_) | (with_reducible refine ⟨fun h => absurd h (by decide), fun _ => ?_⟩) | (with_reducible refine ⟨fun _ => ?_, fun h => absurd h (by decide)⟩))
    refine w_fdivI (hd _) ?_
    repeat (first | refine Wp.imp ?_ | (with_reducible refine w_modI (by decide) ?_) | (with_reducible refine w_mulI (cmulR (by decide) (by decide)) ?_) | (with_reducible refine w_mulI (cmulL (by decide) (by decide)) ?_) | (with_reducible refine w_powI (cpowL (by decide) (by decide) (by decide)) ?_) | (with_reducible refine ⟨fun h => absurd h (by decide), fun _ => ?_⟩) | (with_reducible refine ⟨fun _ => ?_, fun h => absurd h (by decide)⟩))
    refine w_modI h1 ?_
    repeat (first | refine Wp.imp ?_ | (with_reducible refine w_modI (by decide) ?_) | (with_reducible refine w_mulI (cmulR (by decide) (by decide)) ?_) | (with_reducible refine w_mulI (cmulL (by decide) (by decide)) ?_) | (with_reducible refine w_powI (cpowL (by decide) (by decide) (by decide)) ?_) | (with_reducible refine ⟨fun h => absurd h (by decide), fun _ => ?_⟩) | (with_reducible refine ⟨fun _ => ?_, fun h => absurd h (by decide)⟩))
    exact end1 _ _ _ _ hp (Int.ediv_nonneg hq hd0)
theorem tape_spec {n : Nat} (hn : 1 ≤ n) {ns : List Int} {Q : PV → PHeap → Prop} 
    (h : ∀ t, TapeOK t → Q (.loc 0) [t]) : wR (F__law_tape n [.scr ns] []) Q := by
  obtain ⟨n, rfl⟩ : ∃ k, n = k + 1 := ⟨n - 1, by omega⟩
  refine w_fun' rfl ?_
  unfold B__law_tape
  repeat (first | refine Wp.imp ?_ | (with_reducible refine w_modI (by decide) ?_) | (with_reducible refine w_mulI (cmulR (by decide) (by decide)) ?_) | (with_reducible refine w_mulI (cmulL (by decide) (by decide)) ?_) | (with_reducible refine w_powI (cpowL (by decide) (by decide) (by decide)) ?_) | (with_reducible refine ⟨fun h => absurd h (by decide), fun _ => ?_⟩) | (with_reducible refine ⟨fun _ => ?_, fun h => absurd h (by decide)⟩))
  refine w_for (fun _ ρ φ => φ = [] ∧ ∃ (x : Int) (y : Option PV), ρ = [some (.scr ns), some (.int x), y]) ?_
  refine w_iseq ?_
  repeat (first | refine Wp.imp ?_ | (with_reducible refine w_modI (by decide) ?_) | (with_reducible refine w_mulI (cmulR (by decide) (by decide)) ?_) | (with_reducible refine w_mulI (cmulL (by decide) (by decide)) ?_) | (with_reducible refine w_powI (cpowL (by decide) (by decide) (by decide)) ?_) | (with_reducible refine ⟨fun h => absurd h (by decide), fun _ => ?_⟩) | (with_reducible refine ⟨fun _ => ?_, fun h => absurd h (by decide)⟩))
  refine ⟨stillP_none, ⟨rfl, _, _, rfl⟩, ?_, ?_⟩
  · rintro k x ρ φ hx ⟨rfl, a, b, rfl⟩
    simp only [List.getElem?_map, Option.map_eq_some_iff] at hx
    obtain ⟨i, hi, rfl⟩ := hx
    repeat (first | refine Wp.imp ?_ | (with_reducible refine w_modI (by decide) ?_) | (with_reducible refine w_mulI (cmulR (by decide) (by decide)) ?_) | (with_reducible refine w_mulI (cmulL (by decide) (by decide)) ?_) | (with_reducible refine w_powI (cpowL (by decide) (by decide) (by decide)) ?_) | (with_reducible refine ⟨fun h => absurd h (by decide), fun _ => ?_⟩) | (with_reducible refine ⟨fun _ => ?_, fun h => absurd h (by decide)⟩))
    exact ⟨stillP_none, rfl, _, _, rfl⟩
  · rintro ρ φ ⟨rfl, a, b, rfl⟩
    repeat (first | refine Wp.imp ?_ | (with_reducible refine w_modI (by decide) ?_) | (with_reducible refine w_mulI (cmulR (by decide) (by decide)) ?_) | (with_reducible refine w_mulI (cmulL (by decide) (by decide)) ?_) | (with_reducible refine w_powI (cpowL (by decide) (by decide) (by decide)) ?_) | (with_reducible refine ⟨fun h => absurd h (by decide), fun _ => ?_⟩) | (with_reducible refine ⟨fun _ => ?_, fun h => absurd h (by decide)⟩))
    have hT : TapeOK (Cell.lst [.lst (ns.map .int), .int 0, .int 0, .int a]) := ⟨ns, 0, 0, a, rfl, by omega, by omega⟩
    refine w_keepL (ψ := [Cell.lst [.lst (ns.map .int), .int 0, .int 0, .int a]]) (φ := []) (Nat.le_refl _) rfl ?_ (h _ hT)
    exact hT.below 0
theorem pick_spec {n : Nat} (hn : 2 ≤ n) {t : Cell} {ψ : PHeap} {u : PV} {xs : List PV} {Q : PV → PHeap → Prop} (ht : TapeOK t) (hu : ∀ t', seqOf (t' :: ψ) u = some xs) (hm : xs.length < 1073741824) (h0 : 0 < xs.length) (hc : belows (ψ.length + 1) xs = true)
    (h : ∀ x t', TapeOK t' → x ∈ xs → Q x (t' :: ψ)) : wR (F__law_pick n [.loc 0, u] (t :: ψ)) Q := by
  obtain ⟨n, rfl⟩ : ∃ k, n = k + 1 := ⟨n - 1, by omega⟩
  refine w_fun' rfl ?_
  unfold B__law_pick
  repeat (first | refine Wp.imp ?_ | (with_reducible refine w_modI (by decide) ?_) | (with_reducible refine w_mulI (cmulR (by decide) (by decide)) ?_) | (with_reducible refine w_mulI (cmulL (by decide) (by decide)) ?_) | (with_reducible refine w_powI (cpowL (by decide) (by decide) (by decide)) ?_) | (with_reducible refine ⟨fun h => absurd h (by decide), fun _ => ?_⟩) | (with_reducible refine ⟨fun _ => ?_, fun h => absurd h (by decide)⟩))
  have e1 : gLen [u] (t :: ψ) = .ok (.int xs.length) (t :: ψ) := by
    unfold gLen
    have := hu t
    cases u <;> first | (simp [seqOf] at this; done) | (simp only [this])
  refine wR_eq e1 ?_
  repeat (first | refine Wp.imp ?_ | (with_reducible refine w_modI (by decide) ?_) | (with_reducible refine w_mulI (cmulR (by decide) (by decide)) ?_) | (with_reducible refine w_mulI (cmulL (by decide) (by decide)) ?_) | (with_reducible refine w_powI (cpowL (by decide) (by decide) (by decide)) ?_) | (with_reducible refine ⟨fun h => absurd h (by decide), fun _ => ?_⟩) | (with_reducible refine ⟨fun _ => ?_, fun h => absurd h (by decide)⟩))
  refine draw_spec (by omega) ht (by omega) fun r t' ht' h0' hr => ?_
  obtain ⟨x, hx, hm⟩ := pyIx_lt (xs := xs) (i := r) h0' (by omega)
  have e2 : gIx u (.int r) (t' :: ψ) = .ok x (t' :: ψ) := by
    unfold gIx
    have := hu t'
    cases u <;> first | (simp [seqOf] at this; done) | (simp only [this, hx])
  refine wR_eq e2 ?_
  refine w_finT0 (.inl rfl) ht' ?_ (h _ _ ht' hm)
  exact belows_mem hc hm
end T

namespace T
open PySem PL L2
theorem size_spec : ∀ (t : Tm) (n : Nat) {φ : PHeap} {Q : PV → PHeap → Prop}, t.depth < n → Q (.int t.size) φ → wR (F__law_b_size n [t.pv] φ) Q
  | .nm s, n + 1, φ, Q, hn, h => by
    refine w_fun' rfl ?_
    simp only [Tm.pv]
    repeat (first | refine Wp.imp ?_ | (with_reducible refine w_modI (by decide) ?_) | (with_reducible refine w_mulI (cmulR (by decide) (by decide)) ?_) | (with_reducible refine w_mulI (cmulL (by decide) (by decide)) ?_) | (with_reducible refine w_powI (cpowL (by decide) (by decide) (by decide)) ?_) | (with_reducible refine ⟨fun h => absurd h (by decide), fun _ => ?_⟩) | (with_reducible refine ⟨fun _ => ?_, fun h => absurd h (by decide)⟩))
    exact w_fin00 (.inl rfl) rfl h
  | .pr a b, n + 1, φ, Q, hn, h => by
    simp only [Tm.depth] at hn
    refine w_fun' rfl ?_
    simp only [Tm.pv]
    repeat (first | refine Wp.imp ?_ | (with_reducible refine w_modI (by decide) ?_) | (with_reducible refine w_mulI (cmulR (by decide) (by decide)) ?_) | (with_reducible refine w_mulI (cmulL (by decide) (by decide)) ?_) | (with_reducible refine w_powI (cpowL (by decide) (by decide) (by decide)) ?_) | (with_reducible refine ⟨fun h => absurd h (by decide), fun _ => ?_⟩) | (with_reducible refine ⟨fun _ => ?_, fun h => absurd h (by decide)⟩))
    refine size_spec a n (by omega) ?_
    repeat (first | refine Wp.imp ?_ | (with_reducible refine w_modI (by decide) ?_) | (with_reducible refine w_mulI (cmulR (by decide) (by decide)) ?_) | (with_reducible refine w_mulI (cmulL (by decide) (by decide)) ?_) | (with_reducible refine w_powI (cpowL (by decide) (by decide) (by decide)) ?_) | (with_reducible refine ⟨fun h => absurd h (by decide), fun _ => ?_⟩) | (with_reducible refine ⟨fun _ => ?_, fun h => absurd h (by decide)⟩))
    refine size_spec b n (by omega) ?_
    repeat (first | refine Wp.imp ?_ | (with_reducible refine w_modI (by decide) ?_) | (with_reducible refine w_mulI (cmulR (by decide) (by decide)) ?_) | (with_reducible refine w_mulI (cmulL (by decide) (by decide)) ?_) | (with_reducible refine w_powI (cpowL (by decide) (by decide) (by decide)) ?_) | (with_reducible refine ⟨fun h => absurd h (by decide), fun _ => ?_⟩) | (with_reducible refine ⟨fun _ => ?_, fun h => absurd h (by decide)⟩))
    refine w_fin00 (.inl rfl) rfl ?_
    have : ((a.size : Int) + (b.size : Int)) = ((Tm.pr a b).size : Nat) := by simp [Tm.size]
    rw [this]; exact h
theorem depth_spec : ∀ (t : Tm) (n : Nat) {φ : PHeap} {Q : PV → PHeap → Prop}, t.depth < n → Q (.int t.depth) φ → wR (F__law_b_depth n [t.pv] φ) Q
  | .nm s, n + 1, φ, Q, hn, h => by
    refine w_fun' rfl ?_
    simp only [Tm.pv]
    repeat (first | refine Wp.imp ?_ | (with_reducible refine w_modI (by decide) ?_) | (with_reducible refine w_mulI (cmulR (by decide) (by decide)) ?_) | (with_reducible refine w_mulI (cmulL (by decide) (by decide)) ?_) | (with_reducible refine w_powI (cpowL (by decide) (by decide) (by decide)) ?_) | (with_reducible refine ⟨fun h => absurd h (by decide), fun _ => ?_⟩) | (with_reducible refine ⟨fun _ => ?_, fun h => absurd h (by decide)⟩))
    exact w_fin00 (.inl rfl) rfl h
  | .pr a b, n + 1, φ, Q, hn, h => by
    simp only [Tm.depth] at hn
    refine w_fun' rfl ?_
    simp only [Tm.pv]
    repeat (first | refine Wp.imp ?_ | (with_reducible refine w_modI (by decide) ?_) | (with_reducible refine w_mulI (cmulR (by decide) (by decide)) ?_) | (with_reducible refine w_mulI (cmulL (by decide) (by decide)) ?_) | (with_reducible refine w_powI (cpowL (by decide) (by decide) (by decide)) ?_) | (with_reducible refine ⟨fun h => absurd h (by decide), fun _ => ?_⟩) | (with_reducible refine ⟨fun _ => ?_, fun h => absurd h (by decide)⟩))
    refine depth_spec a n (by omega) ?_
    repeat (first | refine Wp.imp ?_ | (with_reducible refine w_modI (by decide) ?_) | (with_reducible refine w_mulI (cmulR (by decide) (by decide)) ?_) | (with_reducible refine w_mulI (cmulL (by decide) (by decide)) ?_) | (with_reducible refine w_powI (cpowL (by decide) (by decide) (by decide)) ?_) | (with_reducible refine ⟨fun h => absurd h (by decide), fun _ => ?_⟩) | (with_reducible refine ⟨fun _ => ?_, fun h => absurd h (by decide)⟩))
    refine depth_spec b n (by omega) ?_
    repeat (first | refine Wp.imp ?_ | (with_reducible refine w_modI (by decide) ?_) | (with_reducible refine w_mulI (cmulR (by decide) (by decide)) ?_) | (with_reducible refine w_mulI (cmulL (by decide) (by decide)) ?_) | (with_reducible refine w_powI (cpowL (by decide) (by decide) (by decide)) ?_) | (with_reducible refine ⟨fun h => absurd h (by decide), fun _ => ?_⟩) | (with_reducible refine ⟨fun _ => ?_, fun h => absurd h (by decide)⟩))
    refine w_fin00 (.inl rfl) rfl ?_
    have : (1 + if (b.depth : Int) > (a.depth : Int) then (b.depth : Int) else (a.depth : Int)) = ((Tm.pr a b).depth : Nat) := by
      simp only [Tm.depth]; split <;> omega
    rw [this]; exact h
theorem names_spec {n : Nat} (hn : 2 ≤ n) {t : Cell} {ψ : PHeap} {m : Int} {Q : PV → PHeap → Prop} (ht : TapeOK t) (h2 : 0 ≤ m) (hm : m ≤ 8)
    (h : ∀ (ss : List (List Nat)) t', TapeOK t' → ss.length = m.toNat → (∀ s ∈ ss, nameB s = true) → Q (.lst (ss.map .str)) (t' :: ψ)) : wR (F__law_b_names n [.loc 0, .int m] (t :: ψ)) Q := by
  obtain ⟨n, rfl, hf⟩ := fuel hn
  refine w_fun' rfl ?_
  unfold B__law_b_names
  repeat (first | refine Wp.imp ?_ | (with_reducible refine w_modI (by decide) ?_) | (with_reducible refine w_mulI (cmulR (by decide) (by decide)) ?_) | (with_reducible refine w_mulI (cmulL (by decide) (by decide)) ?_) | (with_reducible refine w_powI (cpowL (by decide) (by decide) (by decide)) ?_) | (with_reducible refine ⟨fun h => absurd h (by decide), fun _ => ?_⟩) | (with_reducible refine ⟨fun _ => ?_, fun h => absurd h (by decide)⟩))
  refine w_addS (by decide) ?_
  repeat (first | refine Wp.imp ?_ | (with_reducible refine w_modI (by decide) ?_) | (with_reducible refine w_mulI (cmulR (by decide) (by decide)) ?_) | (with_reducible refine w_mulI (cmulL (by decide) (by decide)) ?_) | (with_reducible refine w_powI (cpowL (by decide) (by decide) (by decide)) ?_) | (with_reducible refine ⟨fun h => absurd h (by decide), fun _ => ?_⟩) | (with_reducible refine ⟨fun _ => ?_, fun h => absurd h (by decide)⟩))
  refine draw_spec hf ht (by decide) fun st t1 ht1 a1 b1 => ?_
  repeat (first | refine Wp.imp ?_ | (with_reducible refine w_modI (by decide) ?_) | (with_reducible refine w_mulI (cmulR (by decide) (by decide)) ?_) | (with_reducible refine w_mulI (cmulL (by decide) (by decide)) ?_) | (with_reducible refine w_powI (cpowL (by decide) (by decide) (by decide)) ?_) | (with_reducible refine ⟨fun h => absurd h (by decide), fun _ => ?_⟩) | (with_reducible refine ⟨fun _ => ?_, fun h => absurd h (by decide)⟩))
  refine draw_spec hf ht1 (by decide) fun st2 t2 ht2 a2 b2 => ?_
  repeat (first | refine Wp.imp ?_ | (with_reducible refine w_modI (by decide) ?_) | (with_reducible refine w_mulI (cmulR (by decide) (by decide)) ?_) | (with_reducible refine w_mulI (cmulL (by decide) (by decide)) ?_) | (with_reducible refine w_powI (cpowL (by decide) (by decide) (by decide)) ?_) | (with_reducible refine ⟨fun h => absurd h (by decide), fun _ => ?_⟩) | (with_reducible refine ⟨fun _ => ?_, fun h => absurd h (by decide)⟩))
  refine w_for (fun k ρ φ => ∃ (ss : List (List Nat)) (y : Option PV), ρ = [some (.loc 0), some (.int m), some (.str letters), some (.str signs), some (.int st), some (.int st2), some (.loc (ψ.length + 1)), y] ∧ φ = t2 :: (ψ ++ [.lst (ss.map .str)]) ∧ ss.length = k ∧ ∀ s ∈ ss, nameB s = true) ?_
  repeat (first | refine Wp.imp ?_ | (with_reducible refine w_modI (by decide) ?_) | (with_reducible refine w_mulI (cmulR (by decide) (by decide)) ?_) | (with_reducible refine w_mulI (cmulL (by decide) (by decide)) ?_) | (with_reducible refine w_powI (cpowL (by decide) (by decide) (by decide)) ?_) | (with_reducible refine ⟨fun h => absurd h (by decide), fun _ => ?_⟩) | (with_reducible refine ⟨fun _ => ?_, fun h => absurd h (by decide)⟩))
  refine ⟨by unfold smallI; omega, stillP_none, ⟨[], _, rfl, rfl, rfl, by simp⟩, ?_, ?_⟩
  · rintro k x ρ φ hx ⟨ss, y, rfl, rfl, hl, hs⟩
    obtain ⟨rfl, hk⟩ := intsFrom_get hx
    have sz : ss.length < sizeLine := by rw [hl]; have : sizeLine = 16777216 := rfl; omega
    have push : ∀ z : List Nat, nameB z = true → (ss.map PV.str).length < sizeLine ∧ (∃ (ss' : List (List Nat)) (y : Option PV), [some (.loc 0), some (.int m), some (.str letters), some (.str signs), some (.int st), some (.int st2), some (.loc (ψ.length + 1)), some (.int (0 + k))] = [some (.loc 0), some (.int m), some (.str letters), some (.str signs), some (.int st), some (.int st2), some (.loc (ψ.length + 1)), y] ∧ t2 :: (ψ ++ [.lst (ss.map .str ++ [.str z])]) = t2 :: (ψ ++ [.lst (ss'.map .str)]) ∧ ss'.length = k + 1 ∧ ∀ s ∈ ss', nameB s = true) := fun z hz =>
      ⟨by simpa using sz, ss ++ [z], _, rfl, by simp, by simp [hl], fun s h => by
        rcases List.mem_append.mp h with h | h
        · exact hs s h
        · rw [List.mem_singleton.mp h]; exact hz⟩
    have let26 : ∀ i : Int, ∃ c, pyIx letters (i % 26) = some c ∧ c ∈ letters := fun i => pyIx_lt (Int.emod_nonneg _ (by decide)) (Int.emod_lt_of_pos _ (by decide))
    have sig36 : ∀ i : Int, ∃ c, pyIx signs (i % 36) = some c ∧ c ∈ signs := fun i => pyIx_lt (Int.emod_nonneg _ (by decide)) (Int.emod_lt_of_pos _ (by decide))
    repeat (first | refine Wp.imp ?_ | (with_reducible refine w_modI (by decide) ?_) | (with_reducible refine w_mulI (cmulR (by decide) (by decide)) ?_) | (with_reducible refine w_mulI (cmulL (by decide) (by decide)) ?_) | (with_reducible refine w_powI (cpowL (by decide) (by decide) (by decide)) ?_) | (with_reducible refine ⟨fun h => absurd h (by decide), fun _ => ?_⟩) | (with_reducible refine ⟨fun _ => ?_, fun h => absurd h (by decide)⟩))
    refine ⟨fun _ => ?_, fun _ => ?_⟩
    · repeat (first | refine Wp.imp ?_ | (with_reducible refine w_modI (by decide) ?_) | (with_reducible refine w_mulI (cmulR (by decide) (by decide)) ?_) | (with_reducible refine w_mulI (cmulL (by decide) (by decide)) ?_) | (with_reducible refine w_powI (cpowL (by decide) (by decide) (by decide)) ?_) | (with_reducible refine ⟨fun h => absurd h (by decide), fun _ => ?_⟩) | (with_reducible refine ⟨fun _ => ?_, fun h => absurd h (by decide)⟩))
      obtain ⟨c, hc, hm⟩ := let26 (st2 + 7 * (0 + k))
      refine w_ixS (by decide) hc ?_
      repeat (first | refine Wp.imp ?_ | (with_reducible refine w_modI (by decide) ?_) | (with_reducible refine w_mulI (cmulR (by decide) (by decide)) ?_) | (with_reducible refine w_mulI (cmulL (by decide) (by decide)) ?_) | (with_reducible refine w_powI (cpowL (by decide) (by decide) (by decide)) ?_) | (with_reducible refine ⟨fun h => absurd h (by decide), fun _ => ?_⟩) | (with_reducible refine ⟨fun _ => ?_, fun h => absurd h (by decide)⟩))
      obtain ⟨p1, p2⟩ := push [c] (by revert hm; clear hc; revert c; decide)
      exact ⟨p1, stillP_none, p2⟩
    repeat (first | refine Wp.imp ?_ | (with_reducible refine w_modI (by decide) ?_) | (with_reducible refine w_mulI (cmulR (by decide) (by decide)) ?_) | (with_reducible refine w_mulI (cmulL (by decide) (by decide)) ?_) | (with_reducible refine w_powI (cpowL (by decide) (by decide) (by decide)) ?_) | (with_reducible refine ⟨fun h => absurd h (by decide), fun _ => ?_⟩) | (with_reducible refine ⟨fun _ => ?_, fun h => absurd h (by decide)⟩))
    refine ⟨fun _ => ?_, fun _ => ?_⟩
    · repeat (first | refine Wp.imp ?_ | (with_reducible refine w_modI (by decide) ?_) | (with_reducible refine w_mulI (cmulR (by decide) (by decide)) ?_) | (with_reducible refine w_mulI (cmulL (by decide) (by decide)) ?_) | (with_reducible refine w_powI (cpowL (by decide) (by decide) (by decide)) ?_) | (with_reducible refine ⟨fun h => absurd h (by decide), fun _ => ?_⟩) | (with_reducible refine ⟨fun _ => ?_, fun h => absurd h (by decide)⟩))
      obtain ⟨c, hc, hm⟩ := sig36 (st2 + 5 * (0 + k))
      refine w_ixS (by decide) hc ?_
      refine w_addS (by simp [sizeLine]) ?_
      repeat (first | refine Wp.imp ?_ | (with_reducible refine w_modI (by decide) ?_) | (with_reducible refine w_mulI (cmulR (by decide) (by decide)) ?_) | (with_reducible refine w_mulI (cmulL (by decide) (by decide)) ?_) | (with_reducible refine w_powI (cpowL (by decide) (by decide) (by decide)) ?_) | (with_reducible refine ⟨fun h => absurd h (by decide), fun _ => ?_⟩) | (with_reducible refine ⟨fun _ => ?_, fun h => absurd h (by decide)⟩))
      obtain ⟨p1, p2⟩ := push ([101, 109, 112, 108, 111, 121, 101] ++ [c]) (by revert hm; clear hc; revert c; decide)
      exact ⟨p1, stillP_none, p2⟩
    repeat (first | refine Wp.imp ?_ | (with_reducible refine w_modI (by decide) ?_) | (with_reducible refine w_mulI (cmulR (by decide) (by decide)) ?_) | (with_reducible refine w_mulI (cmulL (by decide) (by decide)) ?_) | (with_reducible refine w_powI (cpowL (by decide) (by decide) (by decide)) ?_) | (with_reducible refine ⟨fun h => absurd h (by decide), fun _ => ?_⟩) | (with_reducible refine ⟨fun _ => ?_, fun h => absurd h (by decide)⟩))
    refine ⟨fun _ => ?_, fun _ => ?_⟩
    · repeat (first | refine Wp.imp ?_ | (with_reducible refine w_modI (by decide) ?_) | (with_reducible refine w_mulI (cmulR (by decide) (by decide)) ?_) | (with_reducible refine w_mulI (cmulL (by decide) (by decide)) ?_) | (with_reducible refine w_powI (cpowL (by decide) (by decide) (by decide)) ?_) | (with_reducible refine ⟨fun h => absurd h (by decide), fun _ => ?_⟩) | (with_reducible refine ⟨fun _ => ?_, fun h => absurd h (by decide)⟩))
      have e1 := Int.emod_nonneg (st2 + 5 * (0 + k)) (show (36 : Int) ≠ 0 by decide)
      have e2 := Int.emod_lt_of_pos (st2 + 5 * (0 + k)) (show (0 : Int) < 36 by decide)
      obtain ⟨d, hd⟩ : ∃ d : Nat, (st2 + 5 * (0 + k)) % 36 = (d : Int) := ⟨_, (Int.toNat_of_nonneg e1).symm⟩
      rw [hd] at e2 ⊢
      have hd36 : d < 36 := by omega
      refine w_strI ⟨by omega, ?_⟩ ?_
      · have : ∀ d : Nat, d < 36 → (Int.natAbs (d : Int)).log2 < 1920 := by decide
        exact this d hd36
      refine w_addS ?_ ?_
      · have : ∀ d : Nat, d < 36 → [112].length + (TL.numL (Int.natAbs (d : Int))).length ≤ sizeLine := by decide
        exact this d hd36
      repeat (first | refine Wp.imp ?_ | (with_reducible refine w_modI (by decide) ?_) | (with_reducible refine w_mulI (cmulR (by decide) (by decide)) ?_) | (with_reducible refine w_mulI (cmulL (by decide) (by decide)) ?_) | (with_reducible refine w_powI (cpowL (by decide) (by decide) (by decide)) ?_) | (with_reducible refine ⟨fun h => absurd h (by decide), fun _ => ?_⟩) | (with_reducible refine ⟨fun _ => ?_, fun h => absurd h (by decide)⟩))
      obtain ⟨p1, p2⟩ := push ([112] ++ TL.numL (Int.natAbs (d : Int))) (by
        have : ∀ d : Nat, d < 36 → nameB ([112] ++ TL.numL (Int.natAbs (d : Int))) = true := by decide
        exact this d hd36)
      exact ⟨p1, stillP_none, p2⟩
    repeat (first | refine Wp.imp ?_ | (with_reducible refine w_modI (by decide) ?_) | (with_reducible refine w_mulI (cmulR (by decide) (by decide)) ?_) | (with_reducible refine w_mulI (cmulL (by decide) (by decide)) ?_) | (with_reducible refine w_powI (cpowL (by decide) (by decide) (by decide)) ?_) | (with_reducible refine ⟨fun h => absurd h (by decide), fun _ => ?_⟩) | (with_reducible refine ⟨fun _ => ?_, fun h => absurd h (by decide)⟩))
    refine ⟨fun _ => ?_, fun _ => ?_⟩
    · repeat (first | refine Wp.imp ?_ | (with_reducible refine w_modI (by decide) ?_) | (with_reducible refine w_mulI (cmulR (by decide) (by decide)) ?_) | (with_reducible refine w_mulI (cmulL (by decide) (by decide)) ?_) | (with_reducible refine w_powI (cpowL (by decide) (by decide) (by decide)) ?_) | (with_reducible refine ⟨fun h => absurd h (by decide), fun _ => ?_⟩) | (with_reducible refine ⟨fun _ => ?_, fun h => absurd h (by decide)⟩))
      obtain ⟨c, hc, hm⟩ := sig36 (st2 + 5 * (0 + k))
      refine w_ixS (by decide) hc ?_
      refine w_addS (by simp [sizeLine]) ?_
      repeat (first | refine Wp.imp ?_ | (with_reducible refine w_modI (by decide) ?_) | (with_reducible refine w_mulI (cmulR (by decide) (by decide)) ?_) | (with_reducible refine w_mulI (cmulL (by decide) (by decide)) ?_) | (with_reducible refine w_powI (cpowL (by decide) (by decide) (by decide)) ?_) | (with_reducible refine ⟨fun h => absurd h (by decide), fun _ => ?_⟩) | (with_reducible refine ⟨fun _ => ?_, fun h => absurd h (by decide)⟩))
      obtain ⟨p1, p2⟩ := push ([102, 97, 108, 115, 101] ++ [c]) (by revert hm; clear hc; revert c; decide)
      exact ⟨p1, stillP_none, p2⟩
    repeat (first | refine Wp.imp ?_ | (with_reducible refine w_modI (by decide) ?_) | (with_reducible refine w_mulI (cmulR (by decide) (by decide)) ?_) | (with_reducible refine w_mulI (cmulL (by decide) (by decide)) ?_) | (with_reducible refine w_powI (cpowL (by decide) (by decide) (by decide)) ?_) | (with_reducible refine ⟨fun h => absurd h (by decide), fun _ => ?_⟩) | (with_reducible refine ⟨fun _ => ?_, fun h => absurd h (by decide)⟩))
    refine ⟨fun _ => ?_, fun hk8 => absurd hk8 ?_⟩
    · repeat (first | refine Wp.imp ?_ | (with_reducible refine w_modI (by decide) ?_) | (with_reducible refine w_mulI (cmulR (by decide) (by decide)) ?_) | (with_reducible refine w_mulI (cmulL (by decide) (by decide)) ?_) | (with_reducible refine w_powI (cpowL (by decide) (by decide) (by decide)) ?_) | (with_reducible refine ⟨fun h => absurd h (by decide), fun _ => ?_⟩) | (with_reducible refine ⟨fun _ => ?_, fun h => absurd h (by decide)⟩))
      obtain ⟨c, hc, hm⟩ := let26 st2
      refine w_ixS (by decide) hc ?_
      repeat (first | refine Wp.imp ?_ | (with_reducible refine w_modI (by decide) ?_) | (with_reducible refine w_mulI (cmulR (by decide) (by decide)) ?_) | (with_reducible refine w_mulI (cmulL (by decide) (by decide)) ?_) | (with_reducible refine w_powI (cpowL (by decide) (by decide) (by decide)) ?_) | (with_reducible refine ⟨fun h => absurd h (by decide), fun _ => ?_⟩) | (with_reducible refine ⟨fun _ => ?_, fun h => absurd h (by decide)⟩))
      refine w_addS (by simp [sizeLine]) ?_
      repeat (first | refine Wp.imp ?_ | (with_reducible refine w_modI (by decide) ?_) | (with_reducible refine w_mulI (cmulR (by decide) (by decide)) ?_) | (with_reducible refine w_mulI (cmulL (by decide) (by decide)) ?_) | (with_reducible refine w_powI (cpowL (by decide) (by decide) (by decide)) ?_) | (with_reducible refine ⟨fun h => absurd h (by decide), fun _ => ?_⟩) | (with_reducible refine ⟨fun _ => ?_, fun h => absurd h (by decide)⟩))
      refine w_slS (by simp [sizeLine]) ?_
      repeat (first | refine Wp.imp ?_ | (with_reducible refine w_modI (by decide) ?_) | (with_reducible refine w_mulI (cmulR (by decide) (by decide)) ?_) | (with_reducible refine w_mulI (cmulL (by decide) (by decide)) ?_) | (with_reducible refine w_powI (cpowL (by decide) (by decide) (by decide)) ?_) | (with_reducible refine ⟨fun h => absurd h (by decide), fun _ => ?_⟩) | (with_reducible refine ⟨fun _ => ?_, fun h => absurd h (by decide)⟩))
      obtain ⟨p1, p2⟩ := push (cutL ([c] ++ [97, 49, 98, 50, 99, 51, 100]) none (some (0 + k + 1))) (by
        have hk : k < 8 := by omega
        clear hc push hx sz hl
        revert hm; revert c
        have : ∀ c ∈ letters, ∀ k : Nat, k < 8 → nameB (cutL ([c] ++ [97, 49, 98, 50, 99, 51, 100]) none (some (0 + (k : Int) + 1))) = true := by decide
        exact fun c hc => this c hc k hk)
      exact ⟨p1, stillP_none, p2⟩
    · simp; omega
  · rintro ρ φ ⟨ss, y, rfl, rfl, hl, hs⟩
    repeat (first | refine Wp.imp ?_ | (with_reducible refine w_modI (by decide) ?_) | (with_reducible refine w_mulI (cmulR (by decide) (by decide)) ?_) | (with_reducible refine w_mulI (cmulL (by decide) (by decide)) ?_) | (with_reducible refine w_powI (cpowL (by decide) (by decide) (by decide)) ?_) | (with_reducible refine ⟨fun h => absurd h (by decide), fun _ => ?_⟩) | (with_reducible refine ⟨fun _ => ?_, fun h => absurd h (by decide)⟩))
    refine w_finTL ht2 (Nat.le_refl _) (by simp) (belows_map _ (fun _ => rfl) _) (h _ _ ht2 (by simpa [intsFrom_length] using hl) hs)
end T

namespace T
open PySem PL L2
/-- a pool: small terms of good names -/
def PoolOK (p : List Tm) : Prop := p ≠ [] ∧ p.length ≤ 100 ∧ ∀ t ∈ p, t.size ≤ 12 ∧ t.okN = true
theorem pool_spec {n : Nat} (hn : 20 ≤ n) {t : Cell} {ψ : PHeap} {ss : List (List Nat)} {m : Int} {Q : PV → PHeap → Prop} (ht : TapeOK t) (hm0 : 0 ≤ m) (hm : m ≤ 50) (hl : ss.length ≤ 50) (h0 : ss ≠ []) (hs : ∀ s ∈ ss, nameB s = true)
    (h : ∀ (p : List Tm) t', TapeOK t' → PoolOK p → Q (.lst (p.map Tm.pv)) (t' :: ψ)) : wR (F__law_b_pool n [.loc 0, .lst (ss.map .str), .int m] (t :: ψ)) Q := by
  obtain ⟨n, rfl, hf⟩ := fuel hn
  refine w_fun' rfl ?_
  unfold B__law_b_pool
  repeat (first | refine Wp.imp ?_ | (with_reducible refine w_modI (by decide) ?_) | (with_reducible refine w_mulI (cmulR (by decide) (by decide)) ?_) | (with_reducible refine w_mulI (cmulL (by decide) (by decide)) ?_) | (with_reducible refine w_powI (cpowL (by decide) (by decide) (by decide)) ?_) | (with_reducible refine ⟨fun h => absurd h (by decide), fun _ => ?_⟩) | (with_reducible refine ⟨fun _ => ?_, fun h => absurd h (by decide)⟩))
  refine w_for (fun k ρ φ => ∃ (p : List Tm) (y1 y2 y3 : Option PV) (t' : Cell), TapeOK t' ∧ ρ = [some (.loc 0), some (.lst (ss.map .str)), some (.int m), some (.loc (ψ.length + 1)), y1, y2, y3] ∧ φ = t' :: (ψ ++ [.lst (p.map Tm.pv)]) ∧ p ≠ [] ∧ p.length ≤ 50 + k ∧ ∀ t ∈ p, t.size ≤ 12 ∧ t.okN = true) ?_
  repeat (first | refine Wp.imp ?_ | (with_reducible refine w_modI (by decide) ?_) | (with_reducible refine w_mulI (cmulR (by decide) (by decide)) ?_) | (with_reducible refine w_mulI (cmulL (by decide) (by decide)) ?_) | (with_reducible refine w_powI (cpowL (by decide) (by decide) (by decide)) ?_) | (with_reducible refine ⟨fun h => absurd h (by decide), fun _ => ?_⟩) | (with_reducible refine ⟨fun _ => ?_, fun h => absurd h (by decide)⟩))
  refine ⟨by unfold smallI; omega, stillP_none, ⟨ss.map Tm.nm, _, _, _, t, ht, rfl, ?_, by simpa using h0, by simpa using hl, ?_⟩, ?_, ?_⟩
  · simp only [List.map_map]; rfl
  · intro t ht
    obtain ⟨s, h1, rfl⟩ := List.mem_map.mp ht
    exact ⟨by simp [Tm.size], hs s h1⟩
  · rintro k x ρ φ hx ⟨p, y1, y2, y3, t', ht', rfl, rfl, hp, hl', hq⟩
    obtain ⟨rfl, hk⟩ := intsFrom_get hx
    have hpl : 0 < p.length := List.length_pos_iff.mpr hp
    repeat (first | refine Wp.imp ?_ | (with_reducible refine w_modI (by decide) ?_) | (with_reducible refine w_mulI (cmulR (by decide) (by decide)) ?_) | (with_reducible refine w_mulI (cmulL (by decide) (by decide)) ?_) | (with_reducible refine w_powI (cpowL (by decide) (by decide) (by decide)) ?_) | (with_reducible refine ⟨fun h => absurd h (by decide), fun _ => ?_⟩) | (with_reducible refine ⟨fun _ => ?_, fun h => absurd h (by decide)⟩))
    refine pick_spec (by omega) ht' (fun t' => SeqE.eq) (by simp; omega) (by simpa using hpl) (belows_map _ (below_tm _) p) fun x1 t1 ht1 hx1 => ?_
    obtain ⟨a, ha, rfl⟩ := List.mem_map.mp hx1
    repeat (first | refine Wp.imp ?_ | (with_reducible refine w_modI (by decide) ?_) | (with_reducible refine w_mulI (cmulR (by decide) (by decide)) ?_) | (with_reducible refine w_mulI (cmulL (by decide) (by decide)) ?_) | (with_reducible refine w_powI (cpowL (by decide) (by decide) (by decide)) ?_) | (with_reducible refine ⟨fun h => absurd h (by decide), fun _ => ?_⟩) | (with_reducible refine ⟨fun _ => ?_, fun h => absurd h (by decide)⟩))
    refine pick_spec (by omega) ht1 (fun t' => SeqE.eq) (by simp; omega) (by simpa using hpl) (belows_map _ (below_tm _) p) fun x2 t2 ht2 hx2 => ?_
    obtain ⟨b, hb, rfl⟩ := List.mem_map.mp hx2
    have hda := Tm.depth_lt a
    have hdb := Tm.depth_lt b
    have := (hq a ha).1
    have := (hq b hb).1
    repeat (first | refine Wp.imp ?_ | (with_reducible refine w_modI (by decide) ?_) | (with_reducible refine w_mulI (cmulR (by decide) (by decide)) ?_) | (with_reducible refine w_mulI (cmulL (by decide) (by decide)) ?_) | (with_reducible refine w_powI (cpowL (by decide) (by decide) (by decide)) ?_) | (with_reducible refine ⟨fun h => absurd h (by decide), fun _ => ?_⟩) | (with_reducible refine ⟨fun _ => ?_, fun h => absurd h (by decide)⟩))
    refine size_spec a n (by omega) ?_
    repeat (first | refine Wp.imp ?_ | (with_reducible refine w_modI (by decide) ?_) | (with_reducible refine w_mulI (cmulR (by decide) (by decide)) ?_) | (with_reducible refine w_mulI (cmulL (by decide) (by decide)) ?_) | (with_reducible refine w_powI (cpowL (by decide) (by decide) (by decide)) ?_) | (with_reducible refine ⟨fun h => absurd h (by decide), fun _ => ?_⟩) | (with_reducible refine ⟨fun _ => ?_, fun h => absurd h (by decide)⟩))
    refine size_spec b n (by omega) ?_
    repeat (first | refine Wp.imp ?_ | (with_reducible refine w_modI (by decide) ?_) | (with_reducible refine w_mulI (cmulR (by decide) (by decide)) ?_) | (with_reducible refine w_mulI (cmulL (by decide) (by decide)) ?_) | (with_reducible refine w_powI (cpowL (by decide) (by decide) (by decide)) ?_) | (with_reducible refine ⟨fun h => absurd h (by decide), fun _ => ?_⟩) | (with_reducible refine ⟨fun _ => ?_, fun h => absurd h (by decide)⟩))
    have key : ∀ (a' b' : Tm), a'.size + b'.size ≤ 12 → a'.okN = true → b'.okN = true → (p.map Tm.pv).length < sizeLine ∧ stillP none (intsFrom 0 m.toNat) (t2 :: (ψ ++ [.lst (p.map Tm.pv ++ [.tup [a'.pv, b'.pv]])])) ∧ ∃ (p' : List Tm) (y1 y2 y3 : Option PV) (t' : Cell), TapeOK t' ∧ [some (.loc 0), some (.lst (ss.map .str)), some (.int m), some (.loc (ψ.length + 1)), some (.int (0 + k)), some a'.pv, some b'.pv] = [some (.loc 0), some (.lst (ss.map .str)), some (.int m), some (.loc (ψ.length + 1)), y1, y2, y3] ∧ t2 :: (ψ ++ [.lst (p.map Tm.pv ++ [.tup [a'.pv, b'.pv]])]) = t' :: (ψ ++ [.lst (p'.map Tm.pv)]) ∧ p' ≠ [] ∧ p'.length ≤ 50 + (k + 1) ∧ ∀ t ∈ p', t.size ≤ 12 ∧ t.okN = true := fun a' b' h1 h2 h3 =>
      ⟨by have : sizeLine = 16777216 := rfl; simp; omega, stillP_none, p ++ [.pr a' b'], _, _, _, t2, ht2, rfl, by simp [Tm.pv], by simp, by simp; omega, fun t ht => by
        rcases List.mem_append.mp ht with ht | ht
        · exact hq t ht
        · rw [List.mem_singleton.mp ht]; exact ⟨h1, by simp [Tm.okN, h2, h3]⟩⟩
    obtain ⟨s0, r0, rfl⟩ : ∃ s r, ss = s :: r := by cases ss with
      | nil => exact (h0 rfl).elim
      | cons s r => exact ⟨s, r, rfl⟩
    have two : ∀ N T B C, N [some (.loc 0), some (.lst ((s0 :: r0).map .str)), some (.int m), some (.loc (ψ.length + 1)), some (.int (0 + k)), some (.str s0), some (.str ((s0 :: r0).getLast (by simp)))] (t2 :: (ψ ++ [.lst (p.map Tm.pv)])) → wS (sSeq (sSet 5 (pBin gIx (pVar 1) (pC (.int 0)))) (sSeq (sSet 6 (pBin gIx (pVar 1) (pBin gSub (pCall gLen (pCons (pVar 1) pNil)) (pC (.int 1))))) sNil) [some (.loc 0), some (.lst ((s0 :: r0).map .str)), some (.int m), some (.loc (ψ.length + 1)), some (.int (0 + k)), some a.pv, some b.pv] (t2 :: (ψ ++ [.lst (p.map Tm.pv)]))) N T B C := fun N T B C hN => by
      simp only [List.map_cons]
      repeat (first | refine Wp.imp ?_ | (with_reducible refine w_modI (by decide) ?_) | (with_reducible refine w_mulI (cmulR (by decide) (by decide)) ?_) | (with_reducible refine w_mulI (cmulL (by decide) (by decide)) ?_) | (with_reducible refine w_powI (cpowL (by decide) (by decide) (by decide)) ?_) | (with_reducible refine ⟨fun h => absurd h (by decide), fun _ => ?_⟩) | (with_reducible refine ⟨fun _ => ?_, fun h => absurd h (by decide)⟩))
      refine w_ixL (x := .str ((s0 :: r0).getLast (by simp))) ?_ ?_
      · refine pyIx_nat (by simp) ?_
        have e : (((PV.str s0 :: r0.map PV.str).length : Int) - 1).toNat = ((s0 :: r0).map PV.str).length - 1 := by simp
        rw [e, ← List.map_cons, ← List.getLast?_eq_getElem?, List.getLast?_map, List.getLast?_eq_getLast (by simp)]; rfl
      · repeat (first | refine Wp.imp ?_ | (with_reducible refine w_modI (by decide) ?_) | (with_reducible refine w_mulI (cmulR (by decide) (by decide)) ?_) | (with_reducible refine w_mulI (cmulL (by decide) (by decide)) ?_) | (with_reducible refine w_powI (cpowL (by decide) (by decide) (by decide)) ?_) | (with_reducible refine ⟨fun h => absurd h (by decide), fun _ => ?_⟩) | (with_reducible refine ⟨fun _ => ?_, fun h => absurd h (by decide)⟩))
        exact hN
    have h2s : nameB s0 = true := hs s0 (by simp)
    have h2l : nameB ((s0 :: r0).getLast (by simp)) = true := hs _ (List.getLast_mem _)
    refine ⟨fun _ => ?_, fun hc => ?_⟩
    · repeat (first | refine Wp.imp ?_ | (with_reducible refine w_modI (by decide) ?_) | (with_reducible refine w_mulI (cmulR (by decide) (by decide)) ?_) | (with_reducible refine w_mulI (cmulL (by decide) (by decide)) ?_) | (with_reducible refine w_powI (cpowL (by decide) (by decide) (by decide)) ?_) | (with_reducible refine ⟨fun h => absurd h (by decide), fun _ => ?_⟩) | (with_reducible refine ⟨fun _ => ?_, fun h => absurd h (by decide)⟩))
      refine two _ _ _ _ ?_
      repeat (first | refine Wp.imp ?_ | (with_reducible refine w_modI (by decide) ?_) | (with_reducible refine w_mulI (cmulR (by decide) (by decide)) ?_) | (with_reducible refine w_mulI (cmulL (by decide) (by decide)) ?_) | (with_reducible refine w_powI (cpowL (by decide) (by decide) (by decide)) ?_) | (with_reducible refine ⟨fun h => absurd h (by decide), fun _ => ?_⟩) | (with_reducible refine ⟨fun _ => ?_, fun h => absurd h (by decide)⟩))
      exact key (.nm s0) (.nm _) (by simp [Tm.size]) h2s h2l
    · have hsz : a.size + b.size ≤ 12 := by simp at hc; omega
      repeat (first | refine Wp.imp ?_ | (with_reducible refine w_modI (by decide) ?_) | (with_reducible refine w_mulI (cmulR (by decide) (by decide)) ?_) | (with_reducible refine w_mulI (cmulL (by decide) (by decide)) ?_) | (with_reducible refine w_powI (cpowL (by decide) (by decide) (by decide)) ?_) | (with_reducible refine ⟨fun h => absurd h (by decide), fun _ => ?_⟩) | (with_reducible refine ⟨fun _ => ?_, fun h => absurd h (by decide)⟩))
      refine depth_spec a n (by omega) ?_
      repeat (first | refine Wp.imp ?_ | (with_reducible refine w_modI (by decide) ?_) | (with_reducible refine w_mulI (cmulR (by decide) (by decide)) ?_) | (with_reducible refine w_mulI (cmulL (by decide) (by decide)) ?_) | (with_reducible refine w_powI (cpowL (by decide) (by decide) (by decide)) ?_) | (with_reducible refine ⟨fun h => absurd h (by decide), fun _ => ?_⟩) | (with_reducible refine ⟨fun _ => ?_, fun h => absurd h (by decide)⟩))
      refine depth_spec b n (by omega) ?_
      repeat (first | refine Wp.imp ?_ | (with_reducible refine w_modI (by decide) ?_) | (with_reducible refine w_mulI (cmulR (by decide) (by decide)) ?_) | (with_reducible refine w_mulI (cmulL (by decide) (by decide)) ?_) | (with_reducible refine w_powI (cpowL (by decide) (by decide) (by decide)) ?_) | (with_reducible refine ⟨fun h => absurd h (by decide), fun _ => ?_⟩) | (with_reducible refine ⟨fun _ => ?_, fun h => absurd h (by decide)⟩))
      refine ⟨fun _ => ?_, fun _ => ?_⟩
      · refine two _ _ _ _ ?_
        repeat (first | refine Wp.imp ?_ | (with_reducible refine w_modI (by decide) ?_) | (with_reducible refine w_mulI (cmulR (by decide) (by decide)) ?_) | (with_reducible refine w_mulI (cmulL (by decide) (by decide)) ?_) | (with_reducible refine w_powI (cpowL (by decide) (by decide) (by decide)) ?_) | (with_reducible refine ⟨fun h => absurd h (by decide), fun _ => ?_⟩) | (with_reducible refine ⟨fun _ => ?_, fun h => absurd h (by decide)⟩))
        exact key (.nm s0) (.nm _) (by simp [Tm.size]) h2s h2l
      · repeat (first | refine Wp.imp ?_ | (with_reducible refine w_modI (by decide) ?_) | (with_reducible refine w_mulI (cmulR (by decide) (by decide)) ?_) | (with_reducible refine w_mulI (cmulL (by decide) (by decide)) ?_) | (with_reducible refine w_powI (cpowL (by decide) (by decide) (by decide)) ?_) | (with_reducible refine ⟨fun h => absurd h (by decide), fun _ => ?_⟩) | (with_reducible refine ⟨fun _ => ?_, fun h => absurd h (by decide)⟩))
        exact key a b hsz (hq a ha).2 (hq b hb).2
  · rintro ρ φ ⟨p, y1, y2, y3, t', ht', rfl, rfl, hp, hl', hq⟩
    repeat (first | refine Wp.imp ?_ | (with_reducible refine w_modI (by decide) ?_) | (with_reducible refine w_mulI (cmulR (by decide) (by decide)) ?_) | (with_reducible refine w_mulI (cmulL (by decide) (by decide)) ?_) | (with_reducible refine w_powI (cpowL (by decide) (by decide) (by decide)) ?_) | (with_reducible refine ⟨fun h => absurd h (by decide), fun _ => ?_⟩) | (with_reducible refine ⟨fun _ => ?_, fun h => absurd h (by decide)⟩))
    refine w_finTL ht' (Nat.le_refl _) (by simp) (belows_map _ (below_tm _) _) (h p _ ht' ⟨hp, by simp [intsFrom_length] at hl'; omega, hq⟩)
end T

namespace T
open PySem PL L2
theorem PoolOK.pos {p : List Tm} (h : PoolOK p) : 0 < p.length := List.length_pos_iff.mpr h.1
theorem pick_pool {n : Nat} (hn : 2 ≤ n) {t : Cell} {ψ : PHeap} {p : List Tm} {Q : PV → PHeap → Prop} (ht : TapeOK t) (hp : PoolOK p)
    (h : ∀ (a : Tm) t', TapeOK t' → a.size ≤ 12 → a.okN = true → Q a.pv (t' :: ψ)) : wR (F__law_pick n [.loc 0, .lst (p.map Tm.pv)] (t :: ψ)) Q :=
  pick_spec hn ht (fun _ => rfl) (by have := hp.2.1; simp; omega) (by simpa using hp.pos) (belows_map _ (below_tm _) p) fun x t1 ht1 hx => by
    obtain ⟨a, ha, rfl⟩ := List.mem_map.mp hx
    exact h a t1 ht1 (hp.2.2 a ha).1 (hp.2.2 a ha).2
theorem pair_spec {n : Nat} (hn : 3 ≤ n) {t : Cell} {ψ : PHeap} {p : List Tm} {Q : PV → PHeap → Prop} (ht : TapeOK t) (hp : PoolOK p)
    (h : ∀ (e : Eqn) t', TapeOK t' → szOK 12 e → Q (eqv e) (t' :: ψ)) : wR (F__law_b_pair n [.loc 0, .lst (p.map Tm.pv)] (t :: ψ)) Q := by
  obtain ⟨n, rfl, hf⟩ := fuel hn
  refine w_fun' rfl ?_
  unfold B__law_b_pair
  repeat (first | refine Wp.imp ?_ | (with_reducible refine w_modI (by decide) ?_) | (with_reducible refine w_mulI (cmulR (by decide) (by decide)) ?_) | (with_reducible refine w_mulI (cmulL (by decide) (by decide)) ?_) | (with_reducible refine w_powI (cpowL (by decide) (by decide) (by decide)) ?_) | (with_reducible refine ⟨fun h => absurd h (by decide), fun _ => ?_⟩) | (with_reducible refine ⟨fun _ => ?_, fun h => absurd h (by decide)⟩))
  refine pick_pool hf ht hp fun a t1 ht1 ha _ => ?_
  repeat (first | refine Wp.imp ?_ | (with_reducible refine w_modI (by decide) ?_) | (with_reducible refine w_mulI (cmulR (by decide) (by decide)) ?_) | (with_reducible refine w_mulI (cmulL (by decide) (by decide)) ?_) | (with_reducible refine w_powI (cpowL (by decide) (by decide) (by decide)) ?_) | (with_reducible refine ⟨fun h => absurd h (by decide), fun _ => ?_⟩) | (with_reducible refine ⟨fun _ => ?_, fun h => absurd h (by decide)⟩))
  refine pick_pool hf ht1 hp fun b t2 ht2 hb _ => ?_
  repeat (first | refine Wp.imp ?_ | (with_reducible refine w_modI (by decide) ?_) | (with_reducible refine w_mulI (cmulR (by decide) (by decide)) ?_) | (with_reducible refine w_mulI (cmulL (by decide) (by decide)) ?_) | (with_reducible refine w_powI (cpowL (by decide) (by decide) (by decide)) ?_) | (with_reducible refine ⟨fun h => absurd h (by decide), fun _ => ?_⟩) | (with_reducible refine ⟨fun _ => ?_, fun h => absurd h (by decide)⟩))
  exact w_finT0 (.inl rfl) ht2 (below_eqv _ (a, b)) (h (a, b) t2 ht2 ⟨ha, hb⟩)
def ClOK (c : List Eqn × Option Eqn) : Prop := c.1.length ≤ 10 ∧ (∀ e ∈ c.1, szOK 12 e) ∧ oszOK 12 c.2
theorem clause_spec {n : Nat} (hn : 4 ≤ n) {t : Cell} {ψ : PHeap} {p : List Tm} {Q : PV → PHeap → Prop} (ht : TapeOK t) (hp : PoolOK p)
    (h : ∀ (c : List Eqn × Option Eqn) t', TapeOK t' → ClOK c → Q (clv c) (t' :: ψ)) : wR (F__law_b_clause n [.loc 0, .lst (p.map Tm.pv)] (t :: ψ)) Q := by
  obtain ⟨n, rfl, hf⟩ := fuel hn
  refine w_fun' rfl ?_
  unfold B__law_b_clause
  repeat (first | refine Wp.imp ?_ | (with_reducible refine w_modI (by decide) ?_) | (with_reducible refine w_mulI (cmulR (by decide) (by decide)) ?_) | (with_reducible refine w_mulI (cmulL (by decide) (by decide)) ?_) | (with_reducible refine w_powI (cpowL (by decide) (by decide) (by decide)) ?_) | (with_reducible refine ⟨fun h => absurd h (by decide), fun _ => ?_⟩) | (with_reducible refine ⟨fun _ => ?_, fun h => absurd h (by decide)⟩))
  refine draw_spec (by omega) ht (by decide) fun kind t1 ht1 h1 h2 => ?_
  repeat (first | refine Wp.imp ?_ | (with_reducible refine w_modI (by decide) ?_) | (with_reducible refine w_mulI (cmulR (by decide) (by decide)) ?_) | (with_reducible refine w_mulI (cmulL (by decide) (by decide)) ?_) | (with_reducible refine w_powI (cpowL (by decide) (by decide) (by decide)) ?_) | (with_reducible refine ⟨fun h => absurd h (by decide), fun _ => ?_⟩) | (with_reducible refine ⟨fun _ => ?_, fun h => absurd h (by decide)⟩))
  refine draw_spec (by omega) ht1 (by decide) fun r t2 ht2 h3 h4 => ?_
  repeat (first | refine Wp.imp ?_ | (with_reducible refine w_modI (by decide) ?_) | (with_reducible refine w_mulI (cmulR (by decide) (by decide)) ?_) | (with_reducible refine w_mulI (cmulL (by decide) (by decide)) ?_) | (with_reducible refine w_powI (cpowL (by decide) (by decide) (by decide)) ?_) | (with_reducible refine ⟨fun h => absurd h (by decide), fun _ => ?_⟩) | (with_reducible refine ⟨fun _ => ?_, fun h => absurd h (by decide)⟩))
  obtain ⟨many, hm, hmm⟩ : ∃ many : Int, pyIx [PV.int 0, PV.int 1, PV.int 0, PV.int 2, PV.int 1, PV.int (1 + r)] kind = some (.int many) ∧ 0 ≤ many ∧ many ≤ 4 := by
    obtain ⟨x, hx, hm⟩ := pyIx_lt (xs := [PV.int 0, PV.int 1, PV.int 0, PV.int 2, PV.int 1, PV.int (1 + r)]) h1 (by simp; omega)
    simp only [List.mem_cons, List.not_mem_nil, or_false] at hm
    rcases hm with rfl | rfl | rfl | rfl | rfl | rfl <;> exact ⟨_, hx, by omega, by omega⟩
  refine w_ixL hm ?_
  repeat (first | refine Wp.imp ?_ | (with_reducible refine w_modI (by decide) ?_) | (with_reducible refine w_mulI (cmulR (by decide) (by decide)) ?_) | (with_reducible refine w_mulI (cmulL (by decide) (by decide)) ?_) | (with_reducible refine w_powI (cpowL (by decide) (by decide) (by decide)) ?_) | (with_reducible refine ⟨fun h => absurd h (by decide), fun _ => ?_⟩) | (with_reducible refine ⟨fun _ => ?_, fun h => absurd h (by decide)⟩))
  refine w_lc (fun k acc φ => ∃ (es : List Eqn) (t' : Cell), TapeOK t' ∧ φ = t' :: ψ ∧ acc = es.map eqv ∧ es.length ≤ k ∧ ∀ e ∈ es, szOK 12 e) ?_
  repeat (first | refine Wp.imp ?_ | (with_reducible refine w_modI (by decide) ?_) | (with_reducible refine w_mulI (cmulR (by decide) (by decide)) ?_) | (with_reducible refine w_mulI (cmulL (by decide) (by decide)) ?_) | (with_reducible refine w_powI (cpowL (by decide) (by decide) (by decide)) ?_) | (with_reducible refine ⟨fun h => absurd h (by decide), fun _ => ?_⟩) | (with_reducible refine ⟨fun _ => ?_, fun h => absurd h (by decide)⟩))
  refine ⟨by unfold smallI; omega, stillP_none, ?_, ⟨[], t2, ht2, rfl, rfl, by simp, by simp⟩, ?_, ?_⟩
  · rw [intsFrom_length]; have : sizeLine = 16777216 := rfl; omega
  · rintro k x acc φ hx ⟨es, t', ht', rfl, rfl, hl, hes⟩ _
    repeat (first | refine Wp.imp ?_ | (with_reducible refine w_modI (by decide) ?_) | (with_reducible refine w_mulI (cmulR (by decide) (by decide)) ?_) | (with_reducible refine w_mulI (cmulL (by decide) (by decide)) ?_) | (with_reducible refine w_powI (cpowL (by decide) (by decide) (by decide)) ?_) | (with_reducible refine ⟨fun h => absurd h (by decide), fun _ => ?_⟩) | (with_reducible refine ⟨fun _ => ?_, fun h => absurd h (by decide)⟩))
    refine pair_spec (by omega) ht' hp fun e t3 ht3 he => ?_
    exact ⟨stillP_none, es ++ [e], t3, ht3, rfl, by simp, by simp; omega, fun x hx => (List.mem_append.mp hx).elim (hes x) fun hx => by rw [List.mem_singleton.mp hx]; exact he⟩
  · rintro acc φ ⟨es, t', ht', rfl, rfl, hl, hes⟩ _
    rw [intsFrom_length] at hl
    have fin1 : ∀ (o : Option Eqn) t', TapeOK t' → oszOK 12 o → wR (finM .cut (t :: ψ) (.tup [.tup (es.map eqv), oeq o]) (t' :: ψ)) Q := fun o t' ht' ho =>
      w_finT0 (.inl rfl) ht' (below_clv _ (es, o)) (h (es, o) t' ht' ⟨by show es.length ≤ 10; omega, hes, ho⟩)
    have last : ∀ t', TapeOK t' → wR (F__law_b_pair n [.loc 0, .lst (p.map Tm.pv)] (t' :: ψ)) fun v φ1 => wR (finM .cut (t :: ψ) (.tup [.tup (es.map eqv), v]) φ1) Q := fun t' ht' =>
      pair_spec (by omega) ht' hp fun e t3 ht3 he => fin1 (some e) t3 ht3 fun x hx => by cases hx; exact he
    repeat (first | refine Wp.imp ?_ | (with_reducible refine w_modI (by decide) ?_) | (with_reducible refine w_mulI (cmulR (by decide) (by decide)) ?_) | (with_reducible refine w_mulI (cmulL (by decide) (by decide)) ?_) | (with_reducible refine w_powI (cpowL (by decide) (by decide) (by decide)) ?_) | (with_reducible refine ⟨fun h => absurd h (by decide), fun _ => ?_⟩) | (with_reducible refine ⟨fun _ => ?_, fun h => absurd h (by decide)⟩))
    refine ⟨fun _ => ?_, fun _ => ?_⟩
    · repeat (first | refine Wp.imp ?_ | (with_reducible refine w_modI (by decide) ?_) | (with_reducible refine w_mulI (cmulR (by decide) (by decide)) ?_) | (with_reducible refine w_mulI (cmulL (by decide) (by decide)) ?_) | (with_reducible refine w_powI (cpowL (by decide) (by decide) (by decide)) ?_) | (with_reducible refine ⟨fun h => absurd h (by decide), fun _ => ?_⟩) | (with_reducible refine ⟨fun _ => ?_, fun h => absurd h (by decide)⟩))
      exact fin1 none t' ht' fun x hx => by cases hx
    repeat (first | refine Wp.imp ?_ | (with_reducible refine w_modI (by decide) ?_) | (with_reducible refine w_mulI (cmulR (by decide) (by decide)) ?_) | (with_reducible refine w_mulI (cmulL (by decide) (by decide)) ?_) | (with_reducible refine w_powI (cpowL (by decide) (by decide) (by decide)) ?_) | (with_reducible refine ⟨fun h => absurd h (by decide), fun _ => ?_⟩) | (with_reducible refine ⟨fun _ => ?_, fun h => absurd h (by decide)⟩))
    refine ⟨fun _ => ?_, fun _ => ?_⟩
    · repeat (first | refine Wp.imp ?_ | (with_reducible refine w_modI (by decide) ?_) | (with_reducible refine w_mulI (cmulR (by decide) (by decide)) ?_) | (with_reducible refine w_mulI (cmulL (by decide) (by decide)) ?_) | (with_reducible refine w_powI (cpowL (by decide) (by decide) (by decide)) ?_) | (with_reducible refine ⟨fun h => absurd h (by decide), fun _ => ?_⟩) | (with_reducible refine ⟨fun _ => ?_, fun h => absurd h (by decide)⟩))
      refine draw_spec (by omega) ht' (by decide) fun r3 t3 ht3 _ _ => ?_
      repeat (first | refine Wp.imp ?_ | (with_reducible refine w_modI (by decide) ?_) | (with_reducible refine w_mulI (cmulR (by decide) (by decide)) ?_) | (with_reducible refine w_mulI (cmulL (by decide) (by decide)) ?_) | (with_reducible refine w_powI (cpowL (by decide) (by decide) (by decide)) ?_) | (with_reducible refine ⟨fun h => absurd h (by decide), fun _ => ?_⟩) | (with_reducible refine ⟨fun _ => ?_, fun h => absurd h (by decide)⟩))
      refine ⟨fun _ => ?_, fun _ => ?_⟩
      · repeat (first | refine Wp.imp ?_ | (with_reducible refine w_modI (by decide) ?_) | (with_reducible refine w_mulI (cmulR (by decide) (by decide)) ?_) | (with_reducible refine w_mulI (cmulL (by decide) (by decide)) ?_) | (with_reducible refine w_powI (cpowL (by decide) (by decide) (by decide)) ?_) | (with_reducible refine ⟨fun h => absurd h (by decide), fun _ => ?_⟩) | (with_reducible refine ⟨fun _ => ?_, fun h => absurd h (by decide)⟩))
        exact fin1 none t3 ht3 fun x hx => by cases hx
      · repeat (first | refine Wp.imp ?_ | (with_reducible refine w_modI (by decide) ?_) | (with_reducible refine w_mulI (cmulR (by decide) (by decide)) ?_) | (with_reducible refine w_mulI (cmulL (by decide) (by decide)) ?_) | (with_reducible refine w_powI (cpowL (by decide) (by decide) (by decide)) ?_) | (with_reducible refine ⟨fun h => absurd h (by decide), fun _ => ?_⟩) | (with_reducible refine ⟨fun _ => ?_, fun h => absurd h (by decide)⟩))
        exact last t3 ht3
    · repeat (first | refine Wp.imp ?_ | (with_reducible refine w_modI (by decide) ?_) | (with_reducible refine w_mulI (cmulR (by decide) (by decide)) ?_) | (with_reducible refine w_mulI (cmulL (by decide) (by decide)) ?_) | (with_reducible refine w_powI (cpowL (by decide) (by decide) (by decide)) ?_) | (with_reducible refine ⟨fun h => absurd h (by decide), fun _ => ?_⟩) | (with_reducible refine ⟨fun _ => ?_, fun h => absurd h (by decide)⟩))
      exact last t' ht'
theorem worth_spec {n : Nat} (hn : 3 ≤ n) {t : Cell} {ψ : PHeap} {Q : PV → PHeap → Prop} (ht : TapeOK t)
    (h : ∀ (w : Int) t', TapeOK t' → Q (.int w) (t' :: ψ)) : wR (F__law_b_worth n [.loc 0] (t :: ψ)) Q := by
  obtain ⟨n, rfl, hf⟩ := fuel hn
  refine w_fun' rfl ?_
  unfold B__law_b_worth
  repeat (first | refine Wp.imp ?_ | (with_reducible refine w_modI (by decide) ?_) | (with_reducible refine w_mulI (cmulR (by decide) (by decide)) ?_) | (with_reducible refine w_mulI (cmulL (by decide) (by decide)) ?_) | (with_reducible refine w_powI (cpowL (by decide) (by decide) (by decide)) ?_) | (with_reducible refine ⟨fun h => absurd h (by decide), fun _ => ?_⟩) | (with_reducible refine ⟨fun _ => ?_, fun h => absurd h (by decide)⟩))
  refine draw_spec (by omega) ht (by decide) fun a t1 ht1 _ _ => ?_
  repeat (first | refine Wp.imp ?_ | (with_reducible refine w_modI (by decide) ?_) | (with_reducible refine w_mulI (cmulR (by decide) (by decide)) ?_) | (with_reducible refine w_mulI (cmulL (by decide) (by decide)) ?_) | (with_reducible refine w_powI (cpowL (by decide) (by decide) (by decide)) ?_) | (with_reducible refine ⟨fun h => absurd h (by decide), fun _ => ?_⟩) | (with_reducible refine ⟨fun _ => ?_, fun h => absurd h (by decide)⟩))
  refine draw_spec (by omega) ht1 (by decide) fun b t2 ht2 _ _ => ?_
  repeat (first | refine Wp.imp ?_ | (with_reducible refine w_modI (by decide) ?_) | (with_reducible refine w_mulI (cmulR (by decide) (by decide)) ?_) | (with_reducible refine w_mulI (cmulL (by decide) (by decide)) ?_) | (with_reducible refine w_powI (cpowL (by decide) (by decide) (by decide)) ?_) | (with_reducible refine ⟨fun h => absurd h (by decide), fun _ => ?_⟩) | (with_reducible refine ⟨fun _ => ?_, fun h => absurd h (by decide)⟩))
  refine pick_spec hf ht2 (fun _ => rfl) (by simp) (by simp) (by simp [belows, below]) fun x t3 ht3 hx => ?_
  simp only [List.mem_cons, List.not_mem_nil, or_false] at hx
  rcases hx with rfl | rfl | rfl | rfl | rfl | rfl <;> exact w_finT0 (.inl rfl) ht3 rfl (h _ _ ht3)
theorem is_name_spec {s : List Nat} {n : Nat} (hn : 1 ≤ n) {φ : PHeap} {Q : PV → PHeap → Prop} (hs : nameB s = true) (h : Q (.bl true) φ) : wR (F__law_b_is_name n [.str s] φ) Q := by
  obtain ⟨n, rfl, hf⟩ := fuel hn
  obtain ⟨c, r, rfl⟩ : ∃ c r, s = c :: r := by
    cases s with
    | nil => exact absurd hs (by decide)
    | cons c r => exact ⟨c, r, rfl⟩
  simp only [nameB, Bool.and_eq_true, decide_eq_true_eq, Bool.not_eq_true', List.all_eq_true] at hs
  obtain ⟨⟨⟨⟨h1, h2⟩, h3⟩, h4⟩, h5⟩ := hs
  have hsz : (c :: r).length ≤ sizeLine := by have : sizeLine = 16777216 := rfl; omega
  refine w_fun' rfl ?_
  unfold B__law_b_is_name
  repeat (first | refine Wp.imp ?_ | (with_reducible refine w_modI (by decide) ?_) | (with_reducible refine w_mulI (cmulR (by decide) (by decide)) ?_) | (with_reducible refine w_mulI (cmulL (by decide) (by decide)) ?_) | (with_reducible refine w_powI (cpowL (by decide) (by decide) (by decide)) ?_) | (with_reducible refine ⟨fun h => absurd h (by decide), fun _ => ?_⟩) | (with_reducible refine ⟨fun _ => ?_, fun h => absurd h (by decide)⟩))
  refine w_lenS hsz ?_
  repeat (first | refine Wp.imp ?_ | (with_reducible refine w_modI (by decide) ?_) | (with_reducible refine w_mulI (cmulR (by decide) (by decide)) ?_) | (with_reducible refine w_mulI (cmulL (by decide) (by decide)) ?_) | (with_reducible refine w_powI (cpowL (by decide) (by decide) (by decide)) ?_) | (with_reducible refine ⟨fun h => absurd h (by decide), fun _ => ?_⟩) | (with_reducible refine ⟨fun _ => ?_, fun h => absurd h (by decide)⟩))
  refine ⟨fun hc => absurd hc (by simp; omega), fun _ => ?_⟩
  repeat (first | refine Wp.imp ?_ | (with_reducible refine w_modI (by decide) ?_) | (with_reducible refine w_mulI (cmulR (by decide) (by decide)) ?_) | (with_reducible refine w_mulI (cmulL (by decide) (by decide)) ?_) | (with_reducible refine w_powI (cpowL (by decide) (by decide) (by decide)) ?_) | (with_reducible refine ⟨fun h => absurd h (by decide), fun _ => ?_⟩) | (with_reducible refine ⟨fun _ => ?_, fun h => absurd h (by decide)⟩))
  refine w_lenS hsz ?_
  repeat (first | refine Wp.imp ?_ | (with_reducible refine w_modI (by decide) ?_) | (with_reducible refine w_mulI (cmulR (by decide) (by decide)) ?_) | (with_reducible refine w_mulI (cmulL (by decide) (by decide)) ?_) | (with_reducible refine w_powI (cpowL (by decide) (by decide) (by decide)) ?_) | (with_reducible refine ⟨fun h => absurd h (by decide), fun _ => ?_⟩) | (with_reducible refine ⟨fun _ => ?_, fun h => absurd h (by decide)⟩))
  refine ⟨fun hc => absurd hc (by simp at h2 ⊢; omega), fun _ => ?_⟩
  repeat (first | refine Wp.imp ?_ | (with_reducible refine w_modI (by decide) ?_) | (with_reducible refine w_mulI (cmulR (by decide) (by decide)) ?_) | (with_reducible refine w_mulI (cmulL (by decide) (by decide)) ?_) | (with_reducible refine w_powI (cpowL (by decide) (by decide) (by decide)) ?_) | (with_reducible refine ⟨fun h => absurd h (by decide), fun _ => ?_⟩) | (with_reducible refine ⟨fun _ => ?_, fun h => absurd h (by decide)⟩))
  rw [h3]
  repeat (first | refine Wp.imp ?_ | (with_reducible refine w_modI (by decide) ?_) | (with_reducible refine w_mulI (cmulR (by decide) (by decide)) ?_) | (with_reducible refine w_mulI (cmulL (by decide) (by decide)) ?_) | (with_reducible refine w_powI (cpowL (by decide) (by decide) (by decide)) ?_) | (with_reducible refine ⟨fun h => absurd h (by decide), fun _ => ?_⟩) | (with_reducible refine ⟨fun _ => ?_, fun h => absurd h (by decide)⟩))
  refine w_ixS (i := 0) (c := c) hsz (pyIx_nat (by decide) rfl) ?_
  repeat (first | refine Wp.imp ?_ | (with_reducible refine w_modI (by decide) ?_) | (with_reducible refine w_mulI (cmulR (by decide) (by decide)) ?_) | (with_reducible refine w_mulI (cmulL (by decide) (by decide)) ?_) | (with_reducible refine w_powI (cpowL (by decide) (by decide) (by decide)) ?_) | (with_reducible refine ⟨fun h => absurd h (by decide), fun _ => ?_⟩) | (with_reducible refine ⟨fun _ => ?_, fun h => absurd h (by decide)⟩))
  refine w_in (b := true) (by show some (decide (c ∈ letters)) = some true; rw [decide_eq_true h4]) ?_
  repeat (first | refine Wp.imp ?_ | (with_reducible refine w_modI (by decide) ?_) | (with_reducible refine w_mulI (cmulR (by decide) (by decide)) ?_) | (with_reducible refine w_mulI (cmulL (by decide) (by decide)) ?_) | (with_reducible refine w_powI (cpowL (by decide) (by decide) (by decide)) ?_) | (with_reducible refine ⟨fun h => absurd h (by decide), fun _ => ?_⟩) | (with_reducible refine ⟨fun _ => ?_, fun h => absurd h (by decide)⟩))
  refine w_lcF (fun _ => false) (fun v => v) ?_
  repeat (first | refine Wp.imp ?_ | (with_reducible refine w_modI (by decide) ?_) | (with_reducible refine w_mulI (cmulR (by decide) (by decide)) ?_) | (with_reducible refine w_mulI (cmulL (by decide) (by decide)) ?_) | (with_reducible refine w_powI (cpowL (by decide) (by decide) (by decide)) ?_) | (with_reducible refine ⟨fun h => absurd h (by decide), fun _ => ?_⟩) | (with_reducible refine ⟨fun _ => ?_, fun h => absurd h (by decide)⟩))
  refine ⟨stillP_none, by simpa using hsz, ?_, ?_, ?_⟩
  · intro x hx
    obtain ⟨d, hd, rfl⟩ := List.mem_map.mp hx
    repeat (first | refine Wp.imp ?_ | (with_reducible refine w_modI (by decide) ?_) | (with_reducible refine w_mulI (cmulR (by decide) (by decide)) ?_) | (with_reducible refine w_mulI (cmulL (by decide) (by decide)) ?_) | (with_reducible refine w_powI (cpowL (by decide) (by decide) (by decide)) ?_) | (with_reducible refine ⟨fun h => absurd h (by decide), fun _ => ?_⟩) | (with_reducible refine ⟨fun _ => ?_, fun h => absurd h (by decide)⟩))
    refine w_addS (by decide) ?_
    refine w_notIn (b := true) (by show some (decide (d ∈ signs)) = some true; rw [decide_eq_true (h5 d hd)]) ?_
    repeat (first | refine Wp.imp ?_ | (with_reducible refine w_modI (by decide) ?_) | (with_reducible refine w_mulI (cmulR (by decide) (by decide)) ?_) | (with_reducible refine w_mulI (cmulL (by decide) (by decide)) ?_) | (with_reducible refine w_powI (cpowL (by decide) (by decide) (by decide)) ?_) | (with_reducible refine ⟨fun h => absurd h (by decide), fun _ => ?_⟩) | (with_reducible refine ⟨fun _ => ?_, fun h => absurd h (by decide)⟩))
    exact ⟨rfl, rfl⟩
  · intro x hx hp; cases hp
  · repeat (first | refine Wp.imp ?_ | (with_reducible refine w_modI (by decide) ?_) | (with_reducible refine w_mulI (cmulR (by decide) (by decide)) ?_) | (with_reducible refine w_mulI (cmulL (by decide) (by decide)) ?_) | (with_reducible refine w_powI (cpowL (by decide) (by decide) (by decide)) ?_) | (with_reducible refine ⟨fun h => absurd h (by decide), fun _ => ?_⟩) | (with_reducible refine ⟨fun _ => ?_, fun h => absurd h (by decide)⟩))
    rw [List.filter_eq_nil_iff.mpr (by simp)]
    refine w_eqLn (by simp [okds]) ?_
    exact w_fin00 (.inl rfl) rfl h
theorem is_term_spec : ∀ (t : Tm) (n : Nat) {φ : PHeap} {Q : PV → PHeap → Prop}, t.depth + 1 < n → t.okN = true → Q (.bl true) φ → wR (F__law_b_is_term n [t.pv] φ) Q
  | .nm s, n + 1, φ, Q, hn, hk, h => by
    refine w_fun' rfl ?_
    simp only [Tm.pv]
    repeat (first | refine Wp.imp ?_ | (with_reducible refine w_modI (by decide) ?_) | (with_reducible refine w_mulI (cmulR (by decide) (by decide)) ?_) | (with_reducible refine w_mulI (cmulL (by decide) (by decide)) ?_) | (with_reducible refine w_powI (cpowL (by decide) (by decide) (by decide)) ?_) | (with_reducible refine ⟨fun h => absurd h (by decide), fun _ => ?_⟩) | (with_reducible refine ⟨fun _ => ?_, fun h => absurd h (by decide)⟩))
    refine is_name_spec (by omega) hk ?_
    exact w_fin00 (.inl rfl) rfl h
  | .pr a b, n + 1, φ, Q, hn, hk, h => by
    simp only [Tm.depth] at hn
    simp only [Tm.okN, Bool.and_eq_true] at hk
    refine w_fun' rfl ?_
    simp only [Tm.pv]
    repeat (first | refine Wp.imp ?_ | (with_reducible refine w_modI (by decide) ?_) | (with_reducible refine w_mulI (cmulR (by decide) (by decide)) ?_) | (with_reducible refine w_mulI (cmulL (by decide) (by decide)) ?_) | (with_reducible refine w_powI (cpowL (by decide) (by decide) (by decide)) ?_) | (with_reducible refine ⟨fun h => absurd h (by decide), fun _ => ?_⟩) | (with_reducible refine ⟨fun _ => ?_, fun h => absurd h (by decide)⟩))
    refine is_term_spec a n (by omega) hk.1 ?_
    repeat (first | refine Wp.imp ?_ | (with_reducible refine w_modI (by decide) ?_) | (with_reducible refine w_mulI (cmulR (by decide) (by decide)) ?_) | (with_reducible refine w_mulI (cmulL (by decide) (by decide)) ?_) | (with_reducible refine w_powI (cpowL (by decide) (by decide) (by decide)) ?_) | (with_reducible refine ⟨fun h => absurd h (by decide), fun _ => ?_⟩) | (with_reducible refine ⟨fun _ => ?_, fun h => absurd h (by decide)⟩))
    refine is_term_spec b n (by omega) hk.2 ?_
    repeat (first | refine Wp.imp ?_ | (with_reducible refine w_modI (by decide) ?_) | (with_reducible refine w_mulI (cmulR (by decide) (by decide)) ?_) | (with_reducible refine w_mulI (cmulL (by decide) (by decide)) ?_) | (with_reducible refine w_powI (cpowL (by decide) (by decide) (by decide)) ?_) | (with_reducible refine ⟨fun h => absurd h (by decide), fun _ => ?_⟩) | (with_reducible refine ⟨fun _ => ?_, fun h => absurd h (by decide)⟩))
    exact w_fin00 (.inl rfl) rfl h
theorem is_number_spec {i m : Int} {n : Nat} (hn : 1 ≤ n) {φ : PHeap} {Q : PV → PHeap → Prop} (h0 : 0 ≤ i) (h1 : i < m) (h : Q (.bl true) φ) : wR (F__law_b_is_number n [.int i, .int m] φ) Q := by
  obtain ⟨n, rfl, hf⟩ := fuel hn
  refine w_fun' rfl ?_
  unfold B__law_b_is_number
  repeat (first | refine Wp.imp ?_ | (with_reducible refine w_modI (by decide) ?_) | (with_reducible refine w_mulI (cmulR (by decide) (by decide)) ?_) | (with_reducible refine w_mulI (cmulL (by decide) (by decide)) ?_) | (with_reducible refine w_powI (cpowL (by decide) (by decide) (by decide)) ?_) | (with_reducible refine ⟨fun h => absurd h (by decide), fun _ => ?_⟩) | (with_reducible refine ⟨fun _ => ?_, fun h => absurd h (by decide)⟩))
  rw [decide_eq_true h0]
  repeat (first | refine Wp.imp ?_ | (with_reducible refine w_modI (by decide) ?_) | (with_reducible refine w_mulI (cmulR (by decide) (by decide)) ?_) | (with_reducible refine w_mulI (cmulL (by decide) (by decide)) ?_) | (with_reducible refine w_powI (cpowL (by decide) (by decide) (by decide)) ?_) | (with_reducible refine ⟨fun h => absurd h (by decide), fun _ => ?_⟩) | (with_reducible refine ⟨fun _ => ?_, fun h => absurd h (by decide)⟩))
  rw [decide_eq_true h1]
  exact w_fin00 (.inl rfl) rfl h
end T

namespace T
open PySem PL L2
abbrev Cl := List Eqn × Option Eqn
inductive St where
  | refl (t : Tm) | sym (i : Nat) | trans (i j : Nat) | cong (i j : Nat) | cl (p : Nat) (is : List Nat)
def wRefl : PV := .str [114, 101, 102, 108, 101, 120, 105, 118, 105, 116, 121]
def wCl : PV := .str [99, 108, 97, 117, 115, 101]
def wSym : PV := .str [115, 121, 109, 109, 101, 116, 114, 121]
def wTr : PV := .str [116, 114, 97, 110, 115, 105, 116, 105, 118, 105, 116, 121]
def wCong : PV := .str [99, 111, 110, 103, 114, 117, 101, 110, 99, 101]
def nat (i : Nat) : PV := .int i
def St.pv : St → PV
  | .refl t => .tup [wRefl, t.pv]
  | .sym i => .tup [wSym, nat i]
  | .trans i j => .tup [wTr, nat i, nat j]
  | .cong i j => .tup [wCong, nat i, nat j]
  | .cl p is => .tup [wCl, nat p, .tup (is.map nat)]
abbrev Ds := List (Option Eqn)
/-- a step that follows from what stands, and what it gives -/
inductive Ok (cls : List Cl) (ds : Ds) : St → Option Eqn → Prop
  | refl {t : Tm} : t.okN = true → t.size ≤ 12 → Ok cls ds (.refl t) (some (t, t))
  | sym {i : Nat} {a b : Tm} : ds[i]? = some (some (a, b)) → Ok cls ds (.sym i) (some (b, a))
  | trans {i j : Nat} {a b c : Tm} : ds[i]? = some (some (a, b)) → ds[j]? = some (some (b, c)) → Ok cls ds (.trans i j) (some (a, c))
  | cong {i j : Nat} {a b c d : Tm} : ds[i]? = some (some (a, b)) → ds[j]? = some (some (c, d)) → a.size + c.size ≤ 60 → b.size + d.size ≤ 60 → Ok cls ds (.cong i j) (some (.pr a c, .pr b d))
  | cl {p : Nat} {is : List Nat} {c : Cl} : cls[p]? = some c → is.length = c.1.length → (∀ (k : Nat) i e, is[k]? = some i → c.1[k]? = some e → ds[i]? = some (some e)) → Ok cls ds (.cl p is) c.2
def DsOK (ds : Ds) : Prop := ds.length ≤ 100 ∧ ∀ d ∈ ds, oszOK 60 d
def ClsOK (cls : List Cl) : Prop := cls.length ≤ 100 ∧ ∀ c ∈ cls, ClOK c
theorem osz_mono {n m : Nat} (h : n ≤ m) {e : Option Eqn} (q : oszOK n e) : oszOK m e := fun x hx => ⟨Nat.le_trans (q x hx).1 h, Nat.le_trans (q x hx).2 h⟩
theorem Ok.sz {cls : List Cl} {ds : Ds} {s : St} {r : Option Eqn} (hc : ClsOK cls) (hd : DsOK ds) (h : Ok cls ds s r) : oszOK 60 r := by
  have dd : ∀ {i : Nat} {e : Eqn}, ds[i]? = some (some e) → szOK 60 e := fun {i e} h => hd.2 _ (List.mem_of_getElem? h) e rfl
  cases h with
  | refl h1 h2 => intro x hx; cases hx; exact ⟨Nat.le_trans h2 (by decide), Nat.le_trans h2 (by decide)⟩
  | sym h1 => intro x hx; cases hx; exact ⟨(dd h1).2, (dd h1).1⟩
  | trans h1 h2 => intro x hx; cases hx; exact ⟨(dd h1).1, (dd h2).2⟩
  | cong h1 h2 h3 h4 => intro x hx; cases hx; exact ⟨h3, h4⟩
  | cl h1 h2 h3 => exact osz_mono (by omega) (hc.2 _ (List.mem_of_getElem? h1)).2.2
section
variable {cls : List Cl} {ds : Ds} {φ : PHeap} {Q : PV → PHeap → Prop} {d : Nat}
theorem get_ds {i : Nat} {e : Option Eqn} (h : ds[i]? = some e) : pyIx (ds.map oeq) (i : Int) = some (oeq e) := pyIx_nat (by omega) (by simp [h])
theorem lt_ds {i : Nat} {e : Option Eqn} (h : ds[i]? = some e) : (i : Int) < (ds.map oeq).length := by
  have := (List.getElem?_eq_some_iff.mp h).1
  simp; omega
theorem fired_spec {n p : Nat} (hn : 2 ≤ n) {is : List Nat} {c : Cl} (hc : ClsOK cls) (hd : DsOK ds) (ha : φ[d]? = some (.lst (ds.map oeq))) (h1 : cls[p]? = some c) (h2 : is.length = c.1.length) (h3 : ∀ (k : Nat) i e, is[k]? = some i → c.1[k]? = some e → ds[i]? = some (some e))
    (h : Q (.tup [oeq c.2]) φ) : wR (F__law_b_fired n [.lst (cls.map clv), .loc d, nat p, .tup (is.map nat)] φ) Q := by
  obtain ⟨n, rfl, hf⟩ := fuel hn
  have hA : At φ d (.lst (ds.map oeq)) := ⟨ha⟩
  have hpl := (List.getElem?_eq_some_iff.mp h1).1
  have gp : pyIx (cls.map clv) (p : Int) = some (.tup [.tup (c.1.map eqv), oeq c.2]) := pyIx_nat (by omega) (by simp [h1]; rfl)
  have hcl := hc.2 c (List.mem_of_getElem? h1)
  have hlen : (!decide (((is.map nat).length : Int) = ((c.1.map eqv).length : Int))) = false := by
    rw [List.length_map, List.length_map, h2, decide_eq_true rfl]; rfl
  refine w_fun' rfl ?_
  unfold B__law_b_fired
  simp only [nat]
  repeat (first | refine Wp.imp ?_ | (with_reducible refine w_modI (by decide) ?_) | (with_reducible refine w_mulI (cmulR (by decide) (by decide)) ?_) | (with_reducible refine w_mulI (cmulL (by decide) (by decide)) ?_) | (with_reducible refine w_powI (cpowL (by decide) (by decide) (by decide)) ?_) | (with_reducible refine ⟨fun h => absurd h (by decide), fun _ => ?_⟩) | (with_reducible refine ⟨fun _ => ?_, fun h => absurd h (by decide)⟩))
  refine is_number_spec (by omega) (by omega) (by simp; omega) ?_
  repeat (first | refine Wp.imp ?_ | (with_reducible refine w_modI (by decide) ?_) | (with_reducible refine w_mulI (cmulR (by decide) (by decide)) ?_) | (with_reducible refine w_mulI (cmulL (by decide) (by decide)) ?_) | (with_reducible refine w_powI (cpowL (by decide) (by decide) (by decide)) ?_) | (with_reducible refine ⟨fun h => absurd h (by decide), fun _ => ?_⟩) | (with_reducible refine ⟨fun _ => ?_, fun h => absurd h (by decide)⟩))
  refine w_ixL gp ?_
  repeat (first | refine Wp.imp ?_ | (with_reducible refine w_modI (by decide) ?_) | (with_reducible refine w_mulI (cmulR (by decide) (by decide)) ?_) | (with_reducible refine w_mulI (cmulL (by decide) (by decide)) ?_) | (with_reducible refine w_powI (cpowL (by decide) (by decide) (by decide)) ?_) | (with_reducible refine ⟨fun h => absurd h (by decide), fun _ => ?_⟩) | (with_reducible refine ⟨fun _ => ?_, fun h => absurd h (by decide)⟩))
  refine ⟨fun hq => absurd (hlen.symm.trans hq) (by decide), fun _ => ?_⟩
  repeat (first | refine Wp.imp ?_ | (with_reducible refine w_modI (by decide) ?_) | (with_reducible refine w_mulI (cmulR (by decide) (by decide)) ?_) | (with_reducible refine w_mulI (cmulL (by decide) (by decide)) ?_) | (with_reducible refine w_powI (cpowL (by decide) (by decide) (by decide)) ?_) | (with_reducible refine ⟨fun h => absurd h (by decide), fun _ => ?_⟩) | (with_reducible refine ⟨fun _ => ?_, fun h => absurd h (by decide)⟩))
  refine w_for (fun _ ρ φ' => φ' = φ ∧ ∃ y, ρ = [some (.lst (cls.map clv)), some (.loc d), some (.int p), some (.tup (is.map nat)), y]) ?_
  repeat (first | refine Wp.imp ?_ | (with_reducible refine w_modI (by decide) ?_) | (with_reducible refine w_mulI (cmulR (by decide) (by decide)) ?_) | (with_reducible refine w_mulI (cmulL (by decide) (by decide)) ?_) | (with_reducible refine w_powI (cpowL (by decide) (by decide) (by decide)) ?_) | (with_reducible refine ⟨fun h => absurd h (by decide), fun _ => ?_⟩) | (with_reducible refine ⟨fun _ => ?_, fun h => absurd h (by decide)⟩))
  have hsl : sizeLine = 16777216 := rfl
  refine ⟨by unfold smallI; simp [h2]; have := hcl.1; omega, stillP_none, ⟨rfl, _, rfl⟩, ?_, ?_⟩
  · rintro k x ρ φ' hx ⟨rfl, y, rfl⟩
    obtain ⟨rfl, hk⟩ := intsFrom_get hx
    have hk' : k < is.length := by simpa using hk
    obtain ⟨i, hi⟩ : ∃ i, is[k]? = some i := ⟨_, List.getElem?_eq_getElem hk'⟩
    obtain ⟨e, he⟩ : ∃ e, c.1[k]? = some e := ⟨_, List.getElem?_eq_getElem (by omega)⟩
    have hde := h3 k i e hi he
    have g1 : pyIx (is.map nat) (0 + (k : Int)) = some (.int i) := pyIx_nat (by omega) (by simp [hi, nat])
    have g2 : pyIx (c.1.map eqv) (0 + (k : Int)) = some (eqv e) := pyIx_nat (by omega) (by simp [he])
    repeat (first | refine Wp.imp ?_ | (with_reducible refine w_modI (by decide) ?_) | (with_reducible refine w_mulI (cmulR (by decide) (by decide)) ?_) | (with_reducible refine w_mulI (cmulL (by decide) (by decide)) ?_) | (with_reducible refine w_powI (cpowL (by decide) (by decide) (by decide)) ?_) | (with_reducible refine ⟨fun h => absurd h (by decide), fun _ => ?_⟩) | (with_reducible refine ⟨fun _ => ?_, fun h => absurd h (by decide)⟩))
    refine w_ixT g1 ?_
    repeat (first | refine Wp.imp ?_ | (with_reducible refine w_modI (by decide) ?_) | (with_reducible refine w_mulI (cmulR (by decide) (by decide)) ?_) | (with_reducible refine w_mulI (cmulL (by decide) (by decide)) ?_) | (with_reducible refine w_powI (cpowL (by decide) (by decide) (by decide)) ?_) | (with_reducible refine ⟨fun h => absurd h (by decide), fun _ => ?_⟩) | (with_reducible refine ⟨fun _ => ?_, fun h => absurd h (by decide)⟩))
    refine is_number_spec (by omega) (by omega) (lt_ds hde) ?_
    repeat (first | refine Wp.imp ?_ | (with_reducible refine w_modI (by decide) ?_) | (with_reducible refine w_mulI (cmulR (by decide) (by decide)) ?_) | (with_reducible refine w_mulI (cmulL (by decide) (by decide)) ?_) | (with_reducible refine w_powI (cpowL (by decide) (by decide) (by decide)) ?_) | (with_reducible refine ⟨fun h => absurd h (by decide), fun _ => ?_⟩) | (with_reducible refine ⟨fun _ => ?_, fun h => absurd h (by decide)⟩))
    refine w_ixT g1 ?_
    refine w_ixC ha (get_ds hde) ?_
    repeat (first | refine Wp.imp ?_ | (with_reducible refine w_modI (by decide) ?_) | (with_reducible refine w_mulI (cmulR (by decide) (by decide)) ?_) | (with_reducible refine w_mulI (cmulL (by decide) (by decide)) ?_) | (with_reducible refine w_powI (cpowL (by decide) (by decide) (by decide)) ?_) | (with_reducible refine ⟨fun h => absurd h (by decide), fun _ => ?_⟩) | (with_reducible refine ⟨fun _ => ?_, fun h => absurd h (by decide)⟩))
    refine w_ixL gp ?_
    repeat (first | refine Wp.imp ?_ | (with_reducible refine w_modI (by decide) ?_) | (with_reducible refine w_mulI (cmulR (by decide) (by decide)) ?_) | (with_reducible refine w_mulI (cmulL (by decide) (by decide)) ?_) | (with_reducible refine w_powI (cpowL (by decide) (by decide) (by decide)) ?_) | (with_reducible refine ⟨fun h => absurd h (by decide), fun _ => ?_⟩) | (with_reducible refine ⟨fun _ => ?_, fun h => absurd h (by decide)⟩))
    refine w_ixT g2 ?_
    refine w_neD ?_ ?_ ?_
    · exact okd_mono _ (by decide) (okd_sz (hd.2 _ (List.mem_of_getElem? hde) e rfl))
    · exact okd_mono _ (by decide) (okd_sz (hcl.2.1 e (List.mem_of_getElem? he)))
    · repeat (first | refine Wp.imp ?_ | (with_reducible refine w_modI (by decide) ?_) | (with_reducible refine w_mulI (cmulR (by decide) (by decide)) ?_) | (with_reducible refine w_mulI (cmulL (by decide) (by decide)) ?_) | (with_reducible refine w_powI (cpowL (by decide) (by decide) (by decide)) ?_) | (with_reducible refine ⟨fun h => absurd h (by decide), fun _ => ?_⟩) | (with_reducible refine ⟨fun _ => ?_, fun h => absurd h (by decide)⟩))
      refine ⟨fun hx => absurd hx ?_, fun _ => ?_⟩
      · show ¬ (!pvEq (eqv e) (eqv e)) = true
        rw [pvEq_eqv]; simp
      · repeat (first | refine Wp.imp ?_ | (with_reducible refine w_modI (by decide) ?_) | (with_reducible refine w_mulI (cmulR (by decide) (by decide)) ?_) | (with_reducible refine w_mulI (cmulL (by decide) (by decide)) ?_) | (with_reducible refine w_powI (cpowL (by decide) (by decide) (by decide)) ?_) | (with_reducible refine ⟨fun h => absurd h (by decide), fun _ => ?_⟩) | (with_reducible refine ⟨fun _ => ?_, fun h => absurd h (by decide)⟩))
        exact ⟨stillP_none, rfl, _, rfl⟩
  · rintro ρ φ' ⟨rfl, y, rfl⟩
    repeat (first | refine Wp.imp ?_ | (with_reducible refine w_modI (by decide) ?_) | (with_reducible refine w_mulI (cmulR (by decide) (by decide)) ?_) | (with_reducible refine w_mulI (cmulL (by decide) (by decide)) ?_) | (with_reducible refine w_powI (cpowL (by decide) (by decide) (by decide)) ?_) | (with_reducible refine ⟨fun h => absurd h (by decide), fun _ => ?_⟩) | (with_reducible refine ⟨fun _ => ?_, fun h => absurd h (by decide)⟩))
    refine w_ixL gp ?_
    repeat (first | refine Wp.imp ?_ | (with_reducible refine w_modI (by decide) ?_) | (with_reducible refine w_mulI (cmulR (by decide) (by decide)) ?_) | (with_reducible refine w_mulI (cmulL (by decide) (by decide)) ?_) | (with_reducible refine w_powI (cpowL (by decide) (by decide) (by decide)) ?_) | (with_reducible refine ⟨fun h => absurd h (by decide), fun _ => ?_⟩) | (with_reducible refine ⟨fun _ => ?_, fun h => absurd h (by decide)⟩))
    exact w_fin00 (.inl rfl) (by simp only [below, belows, below_oeq, Bool.and_self]) h
theorem step_spec {n : Nat} (hn : 70 ≤ n) {s : St} {r : Option Eqn} (hc : ClsOK cls) (hd : DsOK ds) (ha : φ[d]? = some (.lst (ds.map oeq))) (ho : Ok cls ds s r)
    (h : Q (.tup [oeq r]) φ) : wR (F__law_b_step n [.lst (cls.map clv), .loc d, s.pv] φ) Q := by
  obtain ⟨n, rfl, hf⟩ := fuel hn
  have hA : At φ d (.lst (ds.map oeq)) := ⟨ha⟩
  have hl2 : ∀ ψ : PHeap, inB ψ (.int (2 : Nat)) (.lst [.int 2, .int 3]) = some true := fun ψ => by simp only [inB, PL.listOf]; rfl
  have hl3 : ∀ ψ : PHeap, inB ψ (.int (3 : Nat)) (.lst [.int 2, .int 3]) = some true := fun ψ => by simp only [inB, PL.listOf]; rfl
  have dd : ∀ {i : Nat} {e : Eqn}, ds[i]? = some (some e) → szOK 60 e := fun {i e} h => hd.2 _ (List.mem_of_getElem? h) e rfl
  have chk : ∀ {m : Nat} {ρ' : PL.Env} {i : Nat} {e : Eqn}, 1 ≤ m → ds[i]? = some (some e) → Look ρ' 1 (.loc d) → Look ρ' 9 (.int i) →
      wR ((PL.tOr (PL.tNot (pTB (pCall (F__law_b_is_number m) (pCons (pVar 9) (pCons (pCall gLen (pCons (pVar 1) pNil)) pNil))))) (pTB (pBin gIsN (pBin gIx (pVar 1) (pVar 9)) (pC .non)))) ρ' φ) fun c φ2 => c = false ∧ φ2 = φ := fun {m ρ' i e} hm hi h1 h2 => by
    repeat (first | refine Wp.imp ?_ | (with_reducible refine w_modI (by decide) ?_) | (with_reducible refine w_mulI (cmulR (by decide) (by decide)) ?_) | (with_reducible refine w_mulI (cmulL (by decide) (by decide)) ?_) | (with_reducible refine w_powI (cpowL (by decide) (by decide) (by decide)) ?_) | (with_reducible refine ⟨fun h => absurd h (by decide), fun _ => ?_⟩) | (with_reducible refine ⟨fun _ => ?_, fun h => absurd h (by decide)⟩))
    refine is_number_spec hm (by omega) (lt_ds hi) ?_
    repeat (first | refine Wp.imp ?_ | (with_reducible refine w_modI (by decide) ?_) | (with_reducible refine w_mulI (cmulR (by decide) (by decide)) ?_) | (with_reducible refine w_mulI (cmulL (by decide) (by decide)) ?_) | (with_reducible refine w_powI (cpowL (by decide) (by decide) (by decide)) ?_) | (with_reducible refine ⟨fun h => absurd h (by decide), fun _ => ?_⟩) | (with_reducible refine ⟨fun _ => ?_, fun h => absurd h (by decide)⟩))
    refine w_ixC ha (get_ds hi) ?_
    repeat (first | refine Wp.imp ?_ | (with_reducible refine w_modI (by decide) ?_) | (with_reducible refine w_mulI (cmulR (by decide) (by decide)) ?_) | (with_reducible refine w_mulI (cmulL (by decide) (by decide)) ?_) | (with_reducible refine w_powI (cpowL (by decide) (by decide) (by decide)) ?_) | (with_reducible refine ⟨fun h => absurd h (by decide), fun _ => ?_⟩) | (with_reducible refine ⟨fun _ => ?_, fun h => absurd h (by decide)⟩))
    exact ⟨rfl, rfl⟩
  refine w_fun' rfl ?_
  unfold B__law_b_step
  cases ho with
  | @refl t h1 h2 =>
    simp only [St.pv, wRefl]
    repeat (first | refine Wp.imp ?_ | (with_reducible refine w_modI (by decide) ?_) | (with_reducible refine w_mulI (cmulR (by decide) (by decide)) ?_) | (with_reducible refine w_mulI (cmulL (by decide) (by decide)) ?_) | (with_reducible refine w_powI (cpowL (by decide) (by decide) (by decide)) ?_) | (with_reducible refine ⟨fun h => absurd h (by decide), fun _ => ?_⟩) | (with_reducible refine ⟨fun _ => ?_, fun h => absurd h (by decide)⟩))
    refine w_notIn (hl2 _) ?_
    repeat (first | refine Wp.imp ?_ | (with_reducible refine w_modI (by decide) ?_) | (with_reducible refine w_mulI (cmulR (by decide) (by decide)) ?_) | (with_reducible refine w_mulI (cmulL (by decide) (by decide)) ?_) | (with_reducible refine w_powI (cpowL (by decide) (by decide) (by decide)) ?_) | (with_reducible refine ⟨fun h => absurd h (by decide), fun _ => ?_⟩) | (with_reducible refine ⟨fun _ => ?_, fun h => absurd h (by decide)⟩))
    refine is_term_spec t n (by have := Tm.depth_lt t; omega) h1 ?_
    repeat (first | refine Wp.imp ?_ | (with_reducible refine w_modI (by decide) ?_) | (with_reducible refine w_mulI (cmulR (by decide) (by decide)) ?_) | (with_reducible refine w_mulI (cmulL (by decide) (by decide)) ?_) | (with_reducible refine w_powI (cpowL (by decide) (by decide) (by decide)) ?_) | (with_reducible refine ⟨fun h => absurd h (by decide), fun _ => ?_⟩) | (with_reducible refine ⟨fun _ => ?_, fun h => absurd h (by decide)⟩))
    exact w_fin00 (.inl rfl) (by simp only [below, belows, below_tm, Bool.and_self]) h
  | @sym i a b h1 =>
    simp only [St.pv, wSym, nat]
    repeat (first | refine Wp.imp ?_ | (with_reducible refine w_modI (by decide) ?_) | (with_reducible refine w_mulI (cmulR (by decide) (by decide)) ?_) | (with_reducible refine w_mulI (cmulL (by decide) (by decide)) ?_) | (with_reducible refine w_powI (cpowL (by decide) (by decide) (by decide)) ?_) | (with_reducible refine ⟨fun h => absurd h (by decide), fun _ => ?_⟩) | (with_reducible refine ⟨fun _ => ?_, fun h => absurd h (by decide)⟩))
    refine w_notIn (hl2 _) ?_
    repeat (first | refine Wp.imp ?_ | (with_reducible refine w_modI (by decide) ?_) | (with_reducible refine w_mulI (cmulR (by decide) (by decide)) ?_) | (with_reducible refine w_mulI (cmulL (by decide) (by decide)) ?_) | (with_reducible refine w_powI (cpowL (by decide) (by decide) (by decide)) ?_) | (with_reducible refine ⟨fun h => absurd h (by decide), fun _ => ?_⟩) | (with_reducible refine ⟨fun _ => ?_, fun h => absurd h (by decide)⟩))
    refine w_notIn (b := true) rfl ?_
    repeat (first | refine Wp.imp ?_ | (with_reducible refine w_modI (by decide) ?_) | (with_reducible refine w_mulI (cmulR (by decide) (by decide)) ?_) | (with_reducible refine w_mulI (cmulL (by decide) (by decide)) ?_) | (with_reducible refine w_powI (cpowL (by decide) (by decide) (by decide)) ?_) | (with_reducible refine ⟨fun h => absurd h (by decide), fun _ => ?_⟩) | (with_reducible refine ⟨fun _ => ?_, fun h => absurd h (by decide)⟩))
    refine w_lcF (fun _ => false) (fun v => v) ?_
    repeat (first | refine Wp.imp ?_ | (with_reducible refine w_modI (by decide) ?_) | (with_reducible refine w_mulI (cmulR (by decide) (by decide)) ?_) | (with_reducible refine w_mulI (cmulL (by decide) (by decide)) ?_) | (with_reducible refine w_powI (cpowL (by decide) (by decide) (by decide)) ?_) | (with_reducible refine ⟨fun h => absurd h (by decide), fun _ => ?_⟩) | (with_reducible refine ⟨fun _ => ?_, fun h => absurd h (by decide)⟩))
    refine ⟨stillP_none, by simp [sizeLine], ?_, fun x hx hp => (by cases hp), ?_⟩
    · intro x hx
      simp only [List.mem_cons, List.not_mem_nil, or_false] at hx
      subst hx
      exact chk (m := n) (by omega) h1 inferInstance inferInstance
    · rw [List.filter_eq_nil_iff.mpr (by simp)]
      repeat (first | refine Wp.imp ?_ | (with_reducible refine w_modI (by decide) ?_) | (with_reducible refine w_mulI (cmulR (by decide) (by decide)) ?_) | (with_reducible refine w_mulI (cmulL (by decide) (by decide)) ?_) | (with_reducible refine w_powI (cpowL (by decide) (by decide) (by decide)) ?_) | (with_reducible refine ⟨fun h => absurd h (by decide), fun _ => ?_⟩) | (with_reducible refine ⟨fun _ => ?_, fun h => absurd h (by decide)⟩))
      refine w_neLn (by simp [okds]) ?_
      repeat (first | refine Wp.imp ?_ | (with_reducible refine w_modI (by decide) ?_) | (with_reducible refine w_mulI (cmulR (by decide) (by decide)) ?_) | (with_reducible refine w_mulI (cmulL (by decide) (by decide)) ?_) | (with_reducible refine w_powI (cpowL (by decide) (by decide) (by decide)) ?_) | (with_reducible refine ⟨fun h => absurd h (by decide), fun _ => ?_⟩) | (with_reducible refine ⟨fun _ => ?_, fun h => absurd h (by decide)⟩))
      refine w_ixC ha (get_ds h1) ?_
      simp only [oeq, eqv]
      repeat (first | refine Wp.imp ?_ | (with_reducible refine w_modI (by decide) ?_) | (with_reducible refine w_mulI (cmulR (by decide) (by decide)) ?_) | (with_reducible refine w_mulI (cmulL (by decide) (by decide)) ?_) | (with_reducible refine w_powI (cpowL (by decide) (by decide) (by decide)) ?_) | (with_reducible refine ⟨fun h => absurd h (by decide), fun _ => ?_⟩) | (with_reducible refine ⟨fun _ => ?_, fun h => absurd h (by decide)⟩))
      exact w_fin00 (.inl rfl) (by simp only [below, belows, below_tm, Bool.and_self]) h
  | @trans i j a b c h1 h2 =>
    simp only [St.pv, wTr, nat]
    repeat (first | refine Wp.imp ?_ | (with_reducible refine w_modI (by decide) ?_) | (with_reducible refine w_mulI (cmulR (by decide) (by decide)) ?_) | (with_reducible refine w_mulI (cmulL (by decide) (by decide)) ?_) | (with_reducible refine w_powI (cpowL (by decide) (by decide) (by decide)) ?_) | (with_reducible refine ⟨fun h => absurd h (by decide), fun _ => ?_⟩) | (with_reducible refine ⟨fun _ => ?_, fun h => absurd h (by decide)⟩))
    refine w_notIn (hl3 _) ?_
    repeat (first | refine Wp.imp ?_ | (with_reducible refine w_modI (by decide) ?_) | (with_reducible refine w_mulI (cmulR (by decide) (by decide)) ?_) | (with_reducible refine w_mulI (cmulL (by decide) (by decide)) ?_) | (with_reducible refine w_powI (cpowL (by decide) (by decide) (by decide)) ?_) | (with_reducible refine ⟨fun h => absurd h (by decide), fun _ => ?_⟩) | (with_reducible refine ⟨fun _ => ?_, fun h => absurd h (by decide)⟩))
    refine w_notIn (b := true) rfl ?_
    repeat (first | refine Wp.imp ?_ | (with_reducible refine w_modI (by decide) ?_) | (with_reducible refine w_mulI (cmulR (by decide) (by decide)) ?_) | (with_reducible refine w_mulI (cmulL (by decide) (by decide)) ?_) | (with_reducible refine w_powI (cpowL (by decide) (by decide) (by decide)) ?_) | (with_reducible refine ⟨fun h => absurd h (by decide), fun _ => ?_⟩) | (with_reducible refine ⟨fun _ => ?_, fun h => absurd h (by decide)⟩))
    refine w_lcF (fun _ => false) (fun v => v) ?_
    repeat (first | refine Wp.imp ?_ | (with_reducible refine w_modI (by decide) ?_) | (with_reducible refine w_mulI (cmulR (by decide) (by decide)) ?_) | (with_reducible refine w_mulI (cmulL (by decide) (by decide)) ?_) | (with_reducible refine w_powI (cpowL (by decide) (by decide) (by decide)) ?_) | (with_reducible refine ⟨fun h => absurd h (by decide), fun _ => ?_⟩) | (with_reducible refine ⟨fun _ => ?_, fun h => absurd h (by decide)⟩))
    refine ⟨stillP_none, by simp [sizeLine], ?_, fun x hx hp => (by cases hp), ?_⟩
    · intro x hx
      simp only [List.mem_cons, List.not_mem_nil, or_false] at hx
      rcases hx with rfl | rfl
      · exact chk (m := n) (by omega) h1 inferInstance inferInstance
      · exact chk (m := n) (by omega) h2 inferInstance inferInstance
    · rw [List.filter_eq_nil_iff.mpr (by simp)]
      repeat (first | refine Wp.imp ?_ | (with_reducible refine w_modI (by decide) ?_) | (with_reducible refine w_mulI (cmulR (by decide) (by decide)) ?_) | (with_reducible refine w_mulI (cmulL (by decide) (by decide)) ?_) | (with_reducible refine w_powI (cpowL (by decide) (by decide) (by decide)) ?_) | (with_reducible refine ⟨fun h => absurd h (by decide), fun _ => ?_⟩) | (with_reducible refine ⟨fun _ => ?_, fun h => absurd h (by decide)⟩))
      refine w_neLn (by simp [okds]) ?_
      repeat (first | refine Wp.imp ?_ | (with_reducible refine w_modI (by decide) ?_) | (with_reducible refine w_mulI (cmulR (by decide) (by decide)) ?_) | (with_reducible refine w_mulI (cmulL (by decide) (by decide)) ?_) | (with_reducible refine w_powI (cpowL (by decide) (by decide) (by decide)) ?_) | (with_reducible refine ⟨fun h => absurd h (by decide), fun _ => ?_⟩) | (with_reducible refine ⟨fun _ => ?_, fun h => absurd h (by decide)⟩))
      refine w_ixC ha (get_ds h1) ?_
      simp only [oeq, eqv]
      repeat (first | refine Wp.imp ?_ | (with_reducible refine w_modI (by decide) ?_) | (with_reducible refine w_mulI (cmulR (by decide) (by decide)) ?_) | (with_reducible refine w_mulI (cmulL (by decide) (by decide)) ?_) | (with_reducible refine w_powI (cpowL (by decide) (by decide) (by decide)) ?_) | (with_reducible refine ⟨fun h => absurd h (by decide), fun _ => ?_⟩) | (with_reducible refine ⟨fun _ => ?_, fun h => absurd h (by decide)⟩))
      refine w_ixC ha (get_ds h2) ?_
      simp only [oeq, eqv]
      repeat (first | refine Wp.imp ?_ | (with_reducible refine w_modI (by decide) ?_) | (with_reducible refine w_mulI (cmulR (by decide) (by decide)) ?_) | (with_reducible refine w_mulI (cmulL (by decide) (by decide)) ?_) | (with_reducible refine w_powI (cpowL (by decide) (by decide) (by decide)) ?_) | (with_reducible refine ⟨fun h => absurd h (by decide), fun _ => ?_⟩) | (with_reducible refine ⟨fun _ => ?_, fun h => absurd h (by decide)⟩))
      have db := Tm.depth_lt b
      have := (dd h1).2
      refine w_eqD (by rw [norm_tm]; exact okd_tm b _ (by simp at this; omega)) (by rw [norm_tm]; exact okd_tm b _ (by simp at this; omega)) ?_
      rw [norm_tm, pvEq_tm, decide_eq_true rfl]
      repeat (first | refine Wp.imp ?_ | (with_reducible refine w_modI (by decide) ?_) | (with_reducible refine w_mulI (cmulR (by decide) (by decide)) ?_) | (with_reducible refine w_mulI (cmulL (by decide) (by decide)) ?_) | (with_reducible refine w_powI (cpowL (by decide) (by decide) (by decide)) ?_) | (with_reducible refine ⟨fun h => absurd h (by decide), fun _ => ?_⟩) | (with_reducible refine ⟨fun _ => ?_, fun h => absurd h (by decide)⟩))
      exact w_fin00 (.inl rfl) (by simp only [below, belows, below_tm, Bool.and_self]) h
  | @cong i j a b c e h1 h2 h3 h4 =>
    simp only [St.pv, wCong, nat]
    repeat (first | refine Wp.imp ?_ | (with_reducible refine w_modI (by decide) ?_) | (with_reducible refine w_mulI (cmulR (by decide) (by decide)) ?_) | (with_reducible refine w_mulI (cmulL (by decide) (by decide)) ?_) | (with_reducible refine w_powI (cpowL (by decide) (by decide) (by decide)) ?_) | (with_reducible refine ⟨fun h => absurd h (by decide), fun _ => ?_⟩) | (with_reducible refine ⟨fun _ => ?_, fun h => absurd h (by decide)⟩))
    refine w_notIn (hl3 _) ?_
    repeat (first | refine Wp.imp ?_ | (with_reducible refine w_modI (by decide) ?_) | (with_reducible refine w_mulI (cmulR (by decide) (by decide)) ?_) | (with_reducible refine w_mulI (cmulL (by decide) (by decide)) ?_) | (with_reducible refine w_powI (cpowL (by decide) (by decide) (by decide)) ?_) | (with_reducible refine ⟨fun h => absurd h (by decide), fun _ => ?_⟩) | (with_reducible refine ⟨fun _ => ?_, fun h => absurd h (by decide)⟩))
    refine w_notIn (b := true) rfl ?_
    repeat (first | refine Wp.imp ?_ | (with_reducible refine w_modI (by decide) ?_) | (with_reducible refine w_mulI (cmulR (by decide) (by decide)) ?_) | (with_reducible refine w_mulI (cmulL (by decide) (by decide)) ?_) | (with_reducible refine w_powI (cpowL (by decide) (by decide) (by decide)) ?_) | (with_reducible refine ⟨fun h => absurd h (by decide), fun _ => ?_⟩) | (with_reducible refine ⟨fun _ => ?_, fun h => absurd h (by decide)⟩))
    refine w_lcF (fun _ => false) (fun v => v) ?_
    repeat (first | refine Wp.imp ?_ | (with_reducible refine w_modI (by decide) ?_) | (with_reducible refine w_mulI (cmulR (by decide) (by decide)) ?_) | (with_reducible refine w_mulI (cmulL (by decide) (by decide)) ?_) | (with_reducible refine w_powI (cpowL (by decide) (by decide) (by decide)) ?_) | (with_reducible refine ⟨fun h => absurd h (by decide), fun _ => ?_⟩) | (with_reducible refine ⟨fun _ => ?_, fun h => absurd h (by decide)⟩))
    refine ⟨stillP_none, by simp [sizeLine], ?_, fun x hx hp => (by cases hp), ?_⟩
    · intro x hx
      simp only [List.mem_cons, List.not_mem_nil, or_false] at hx
      rcases hx with rfl | rfl
      · exact chk (m := n) (by omega) h1 inferInstance inferInstance
      · exact chk (m := n) (by omega) h2 inferInstance inferInstance
    · rw [List.filter_eq_nil_iff.mpr (by simp)]
      have d1 := Tm.depth_lt a
      have d2 := Tm.depth_lt b
      have d3 := Tm.depth_lt c
      have d4 := Tm.depth_lt e
      repeat (first | refine Wp.imp ?_ | (with_reducible refine w_modI (by decide) ?_) | (with_reducible refine w_mulI (cmulR (by decide) (by decide)) ?_) | (with_reducible refine w_mulI (cmulL (by decide) (by decide)) ?_) | (with_reducible refine w_powI (cpowL (by decide) (by decide) (by decide)) ?_) | (with_reducible refine ⟨fun h => absurd h (by decide), fun _ => ?_⟩) | (with_reducible refine ⟨fun _ => ?_, fun h => absurd h (by decide)⟩))
      refine w_neLn (by simp [okds]) ?_
      repeat (first | refine Wp.imp ?_ | (with_reducible refine w_modI (by decide) ?_) | (with_reducible refine w_mulI (cmulR (by decide) (by decide)) ?_) | (with_reducible refine w_mulI (cmulL (by decide) (by decide)) ?_) | (with_reducible refine w_powI (cpowL (by decide) (by decide) (by decide)) ?_) | (with_reducible refine ⟨fun h => absurd h (by decide), fun _ => ?_⟩) | (with_reducible refine ⟨fun _ => ?_, fun h => absurd h (by decide)⟩))
      refine w_ixC ha (get_ds h1) ?_
      simp only [oeq, eqv]
      repeat (first | refine Wp.imp ?_ | (with_reducible refine w_modI (by decide) ?_) | (with_reducible refine w_mulI (cmulR (by decide) (by decide)) ?_) | (with_reducible refine w_mulI (cmulL (by decide) (by decide)) ?_) | (with_reducible refine w_powI (cpowL (by decide) (by decide) (by decide)) ?_) | (with_reducible refine ⟨fun h => absurd h (by decide), fun _ => ?_⟩) | (with_reducible refine ⟨fun _ => ?_, fun h => absurd h (by decide)⟩))
      refine w_ixC ha (get_ds h2) ?_
      simp only [oeq, eqv]
      repeat (first | refine Wp.imp ?_ | (with_reducible refine w_modI (by decide) ?_) | (with_reducible refine w_mulI (cmulR (by decide) (by decide)) ?_) | (with_reducible refine w_mulI (cmulL (by decide) (by decide)) ?_) | (with_reducible refine w_powI (cpowL (by decide) (by decide) (by decide)) ?_) | (with_reducible refine ⟨fun h => absurd h (by decide), fun _ => ?_⟩) | (with_reducible refine ⟨fun _ => ?_, fun h => absurd h (by decide)⟩))
      refine size_spec a n (by omega) ?_
      repeat (first | refine Wp.imp ?_ | (with_reducible refine w_modI (by decide) ?_) | (with_reducible refine w_mulI (cmulR (by decide) (by decide)) ?_) | (with_reducible refine w_mulI (cmulL (by decide) (by decide)) ?_) | (with_reducible refine w_powI (cpowL (by decide) (by decide) (by decide)) ?_) | (with_reducible refine ⟨fun h => absurd h (by decide), fun _ => ?_⟩) | (with_reducible refine ⟨fun _ => ?_, fun h => absurd h (by decide)⟩))
      refine size_spec c n (by omega) ?_
      repeat (first | refine Wp.imp ?_ | (with_reducible refine w_modI (by decide) ?_) | (with_reducible refine w_mulI (cmulR (by decide) (by decide)) ?_) | (with_reducible refine w_mulI (cmulL (by decide) (by decide)) ?_) | (with_reducible refine w_powI (cpowL (by decide) (by decide) (by decide)) ?_) | (with_reducible refine ⟨fun h => absurd h (by decide), fun _ => ?_⟩) | (with_reducible refine ⟨fun _ => ?_, fun h => absurd h (by decide)⟩))
      refine size_spec b n (by omega) ?_
      repeat (first | refine Wp.imp ?_ | (with_reducible refine w_modI (by decide) ?_) | (with_reducible refine w_mulI (cmulR (by decide) (by decide)) ?_) | (with_reducible refine w_mulI (cmulL (by decide) (by decide)) ?_) | (with_reducible refine w_powI (cpowL (by decide) (by decide) (by decide)) ?_) | (with_reducible refine ⟨fun h => absurd h (by decide), fun _ => ?_⟩) | (with_reducible refine ⟨fun _ => ?_, fun h => absurd h (by decide)⟩))
      refine size_spec e n (by omega) ?_
      repeat (first | refine Wp.imp ?_ | (with_reducible refine w_modI (by decide) ?_) | (with_reducible refine w_mulI (cmulR (by decide) (by decide)) ?_) | (with_reducible refine w_mulI (cmulL (by decide) (by decide)) ?_) | (with_reducible refine w_powI (cpowL (by decide) (by decide) (by decide)) ?_) | (with_reducible refine ⟨fun h => absurd h (by decide), fun _ => ?_⟩) | (with_reducible refine ⟨fun _ => ?_, fun h => absurd h (by decide)⟩))
      refine ⟨fun hx => absurd (of_decide_eq_true hx) (by split <;> omega), fun _ => ?_⟩
      repeat (first | refine Wp.imp ?_ | (with_reducible refine w_modI (by decide) ?_) | (with_reducible refine w_mulI (cmulR (by decide) (by decide)) ?_) | (with_reducible refine w_mulI (cmulL (by decide) (by decide)) ?_) | (with_reducible refine w_powI (cpowL (by decide) (by decide) (by decide)) ?_) | (with_reducible refine ⟨fun h => absurd h (by decide), fun _ => ?_⟩) | (with_reducible refine ⟨fun _ => ?_, fun h => absurd h (by decide)⟩))
      exact w_fin00 (.inl rfl) (by simp only [below, belows, below_tm, Bool.and_self]) h
  | @cl p is c h1 h2 h3 =>
    simp only [St.pv, wCl]
    repeat (first | refine Wp.imp ?_ | (with_reducible refine w_modI (by decide) ?_) | (with_reducible refine w_mulI (cmulR (by decide) (by decide)) ?_) | (with_reducible refine w_mulI (cmulL (by decide) (by decide)) ?_) | (with_reducible refine w_powI (cpowL (by decide) (by decide) (by decide)) ?_) | (with_reducible refine ⟨fun h => absurd h (by decide), fun _ => ?_⟩) | (with_reducible refine ⟨fun _ => ?_, fun h => absurd h (by decide)⟩))
    refine w_notIn (hl3 _) ?_
    repeat (first | refine Wp.imp ?_ | (with_reducible refine w_modI (by decide) ?_) | (with_reducible refine w_mulI (cmulR (by decide) (by decide)) ?_) | (with_reducible refine w_mulI (cmulL (by decide) (by decide)) ?_) | (with_reducible refine w_powI (cpowL (by decide) (by decide) (by decide)) ?_) | (with_reducible refine ⟨fun h => absurd h (by decide), fun _ => ?_⟩) | (with_reducible refine ⟨fun _ => ?_, fun h => absurd h (by decide)⟩))
    refine fired_spec (by omega) hc hd ha h1 h2 h3 ?_
    exact w_fin00 (.inl rfl) (by simp only [below, belows, below_oeq, Bool.and_self]) h
end
end T

namespace T
open PySem PL L2
section
variable {cls : List Cl} {ds : Ds} {φ ψ : PHeap} {Q : PV → PHeap → Prop} {d : Nat}
theorem map_take_succ {α β : Type} {f : α → β} {xs : List α} {k : Nat} {x : α} (h : xs[k]? = some x) : (xs.take (k + 1)).map f = (xs.take k).map f ++ [f x] := by
  rw [List.take_succ, h]; simp only [Option.toList, List.map_append, List.map_cons, List.map_nil]
theorem below_st (n : Nat) (s : St) : below n s.pv = true := by
  have hb : ∀ is : List Nat, belows n (is.map nat) = true := fun is => belows_map (f := nat) n (fun _ => rfl) is
  cases s <;> simp [St.pv, wRefl, wSym, wTr, wCong, wCl, nat, below, belows, below_tm, hb]
/-- each step follows from those before it -/
def Run (cls : List Cl) (sts : List St) (ds : Ds) : Prop := sts.length = ds.length ∧ ∀ k s r, sts[k]? = some s → ds[k]? = some r → Ok cls (ds.take k) s r
theorem run_spec {n : Nat} (hn : 71 ≤ n) {sts : List St} (hc : ClsOK cls) (hd : DsOK ds) (hr : Run cls sts ds) (ha : φ[d]? = some (.lst (sts.map St.pv)))
    (h : Q (.loc φ.length) (φ ++ [.lst (ds.map oeq)])) : wR (F__law_b_run n [.lst (cls.map clv), .loc d] φ) Q := by
  obtain ⟨n, rfl, hf⟩ := fuel hn
  have hA : At φ d (.lst (sts.map St.pv)) := ⟨ha⟩
  have hA' : ∀ c, At (φ ++ [c]) d (.lst (sts.map St.pv)) := fun c => ⟨by rw [List.getElem?_append_left (List.getElem?_eq_some_iff.mp ha).1]; exact ha⟩
  refine w_fun' rfl ?_
  unfold B__law_b_run
  repeat (first | refine Wp.imp ?_ | (with_reducible refine w_modI (by decide) ?_) | (with_reducible refine w_mulI (cmulR (by decide) (by decide)) ?_) | (with_reducible refine w_mulI (cmulL (by decide) (by decide)) ?_) | (with_reducible refine w_powI (cpowL (by decide) (by decide) (by decide)) ?_) | (with_reducible refine ⟨fun h => absurd h (by decide), fun _ => ?_⟩) | (with_reducible refine ⟨fun _ => ?_, fun h => absurd h (by decide)⟩))
  refine w_for (fun k ρ φ' => φ' = φ ++ [.lst ((ds.take k).map oeq)] ∧ ∃ y1 y2, ρ = [some (.lst (cls.map clv)), some (.loc d), some (.loc φ.length), y1, y2]) ?_
  repeat (first | refine Wp.imp ?_ | (with_reducible refine w_modI (by decide) ?_) | (with_reducible refine w_mulI (cmulR (by decide) (by decide)) ?_) | (with_reducible refine w_mulI (cmulL (by decide) (by decide)) ?_) | (with_reducible refine w_powI (cpowL (by decide) (by decide) (by decide)) ?_) | (with_reducible refine ⟨fun h => absurd h (by decide), fun _ => ?_⟩) | (with_reducible refine ⟨fun _ => ?_, fun h => absurd h (by decide)⟩))
  have := hA' (.lst [])
  repeat (first | refine Wp.imp ?_ | (with_reducible refine w_modI (by decide) ?_) | (with_reducible refine w_mulI (cmulR (by decide) (by decide)) ?_) | (with_reducible refine w_mulI (cmulL (by decide) (by decide)) ?_) | (with_reducible refine w_powI (cpowL (by decide) (by decide) (by decide)) ?_) | (with_reducible refine ⟨fun h => absurd h (by decide), fun _ => ?_⟩) | (with_reducible refine ⟨fun _ => ?_, fun h => absurd h (by decide)⟩))
  refine ⟨fun k hk => ?_, ⟨by simp, _, _, rfl⟩, ?_, ?_⟩
  · cases hk; exact (hA' _).eq
  · rintro k x ρ φ' hx ⟨rfl, y1, y2, rfl⟩
    simp only [List.getElem?_map, Option.map_eq_some_iff] at hx
    obtain ⟨s, hs, rfl⟩ := hx
    have hk : k < ds.length := by rw [← hr.1]; exact (List.getElem?_eq_some_iff.mp hs).1
    have hk2 : ds[k]? = some ds[k] := List.getElem?_eq_getElem hk
    have hok := hr.2 k s _ hs hk2
    have hd' : DsOK (ds.take k) := ⟨by have := hd.1; simp; omega, fun x hx => hd.2 x (List.mem_of_mem_take hx)⟩
    have hz := hok.sz hc hd'
    repeat (first | refine Wp.imp ?_ | (with_reducible refine w_modI (by decide) ?_) | (with_reducible refine w_mulI (cmulR (by decide) (by decide)) ?_) | (with_reducible refine w_mulI (cmulL (by decide) (by decide)) ?_) | (with_reducible refine w_powI (cpowL (by decide) (by decide) (by decide)) ?_) | (with_reducible refine ⟨fun h => absurd h (by decide), fun _ => ?_⟩) | (with_reducible refine ⟨fun _ => ?_, fun h => absurd h (by decide)⟩))
    refine step_spec (by omega) hc hd' (by simp) hok ?_
    repeat (first | refine Wp.imp ?_ | (with_reducible refine w_modI (by decide) ?_) | (with_reducible refine w_mulI (cmulR (by decide) (by decide)) ?_) | (with_reducible refine w_mulI (cmulL (by decide) (by decide)) ?_) | (with_reducible refine w_powI (cpowL (by decide) (by decide) (by decide)) ?_) | (with_reducible refine ⟨fun h => absurd h (by decide), fun _ => ?_⟩) | (with_reducible refine ⟨fun _ => ?_, fun h => absurd h (by decide)⟩))
    refine w_eqTn ?_ ?_
    · simp [okds, okd_mono _ (show 60 ≤ 63 by decide) (okd_osz hz)]
    · repeat (first | refine Wp.imp ?_ | (with_reducible refine w_modI (by decide) ?_) | (with_reducible refine w_mulI (cmulR (by decide) (by decide)) ?_) | (with_reducible refine w_mulI (cmulL (by decide) (by decide)) ?_) | (with_reducible refine w_powI (cpowL (by decide) (by decide) (by decide)) ?_) | (with_reducible refine ⟨fun h => absurd h (by decide), fun _ => ?_⟩) | (with_reducible refine ⟨fun _ => ?_, fun h => absurd h (by decide)⟩))
      refine ⟨?_, fun j hj => ?_, ?_, _, _, rfl⟩
      · have := hd.1; have : sizeLine = 16777216 := rfl; simp; omega
      · cases hj; exact (hA' _).eq
      · rw [map_take_succ hk2]
  · rintro ρ φ' ⟨rfl, y1, y2, rfl⟩
    repeat (first | refine Wp.imp ?_ | (with_reducible refine w_modI (by decide) ?_) | (with_reducible refine w_mulI (cmulR (by decide) (by decide)) ?_) | (with_reducible refine w_mulI (cmulL (by decide) (by decide)) ?_) | (with_reducible refine w_powI (cpowL (by decide) (by decide) (by decide)) ?_) | (with_reducible refine ⟨fun h => absurd h (by decide), fun _ => ?_⟩) | (with_reducible refine ⟨fun _ => ?_, fun h => absurd h (by decide)⟩))
    have e : ds.take (sts.map St.pv).length = ds := List.take_of_length_le (by simp [hr.1])
    refine w_keepL (xs := ds.map oeq) (Nat.le_refl _) ?_ (belows_map _ (below_oeq _) _) h
    show (φ ++ [Cell.lst ((ds.take (sts.map St.pv).length).map oeq)])[φ.length]? = _
    rw [e]; simp
theorem next_spec {n : Nat} (hn : 70 ≤ n) {t : Cell} {p : List Tm} (ht : TapeOK t) (hp : PoolOK p) (hc : ClsOK cls) (h0 : cls ≠ []) (hd : DsOK ds) (ha : ψ[d]? = some (.lst (ds.map oeq)))
    (h : ∀ s r t', TapeOK t' → Ok cls ds s r → Q s.pv (t' :: ψ)) : wR (F__law_b_next n [.loc 0, .lst (cls.map clv), .loc (d + 1), .lst (p.map Tm.pv)] (t :: ψ)) Q := by
  obtain ⟨n, rfl, hf⟩ := fuel hn
  have hsl : sizeLine = 16777216 := rfl
  have hA : At ψ d (.lst (ds.map oeq)) := ⟨ha⟩
  have hA1 : ∀ c, At (ψ ++ [c]) d (.lst (ds.map oeq)) := fun c => ⟨by rw [List.getElem?_append_left (List.getElem?_eq_some_iff.mp ha).1]; exact ha⟩
  have g0 : ∀ t : Cell, (t :: ψ)[d + 1]? = some (.lst (ds.map oeq)) := fun t => ha
  have g1 : ∀ (t c : Cell), (t :: (ψ ++ [c]))[d + 1]? = some (.lst (ds.map oeq)) := fun t c => (hA1 c).eq
  have hdl := hd.1
  have fin0 : ∀ (s : St) (r : Option Eqn) (t' : Cell), TapeOK t' → Ok cls ds s r → wR (finM .cut (t :: ψ) s.pv (t' :: ψ)) Q := fun s r t' ht' ho => w_finT0 (.inl rfl) ht' (below_st _ _) (h s r t' ht' ho)
  have fin1 : ∀ (s : St) (r : Option Eqn) (t' c : Cell), TapeOK t' → Ok cls ds s r → wR (finM .cut (t :: ψ) s.pv (t' :: (ψ ++ [c]))) Q := fun s r t' c ht' ho => w_finT (.inl rfl) ht' (below_st _ _) (h s r t' ht' ho)
  refine w_fun' rfl ?_
  unfold B__law_b_next
  repeat (first | refine Wp.imp ?_ | (with_reducible refine w_modI (by decide) ?_) | (with_reducible refine w_mulI (cmulR (by decide) (by decide)) ?_) | (with_reducible refine w_mulI (cmulL (by decide) (by decide)) ?_) | (with_reducible refine w_powI (cpowL (by decide) (by decide) (by decide)) ?_) | (with_reducible refine ⟨fun h => absurd h (by decide), fun _ => ?_⟩) | (with_reducible refine ⟨fun _ => ?_, fun h => absurd h (by decide)⟩))
  refine draw_spec (by omega) ht (by decide) fun choice t1 ht1 c0 c1 => ?_
  repeat (first | refine Wp.imp ?_ | (with_reducible refine w_modI (by decide) ?_) | (with_reducible refine w_mulI (cmulR (by decide) (by decide)) ?_) | (with_reducible refine w_mulI (cmulL (by decide) (by decide)) ?_) | (with_reducible refine w_powI (cpowL (by decide) (by decide) (by decide)) ?_) | (with_reducible refine ⟨fun h => absurd h (by decide), fun _ => ?_⟩) | (with_reducible refine ⟨fun _ => ?_, fun h => absurd h (by decide)⟩))
  refine w_lcM (fun x => ∃ (k : Nat) (e : Eqn), x = .int k ∧ ds[k]? = some (some e)) ?_
  repeat (first | refine Wp.imp ?_ | (with_reducible refine w_modI (by decide) ?_) | (with_reducible refine w_mulI (cmulR (by decide) (by decide)) ?_) | (with_reducible refine w_mulI (cmulL (by decide) (by decide)) ?_) | (with_reducible refine w_powI (cpowL (by decide) (by decide) (by decide)) ?_) | (with_reducible refine ⟨fun h => absurd h (by decide), fun _ => ?_⟩) | (with_reducible refine ⟨fun _ => ?_, fun h => absurd h (by decide)⟩))
  refine ⟨by unfold smallI; simp; omega, stillP_none, by rw [intsFrom_length]; simp; omega, ?_, ?_⟩
  · intro x hx
    obtain ⟨k, hk, rfl⟩ := intsFrom_mem hx
    have hk' : k < ds.length := by simpa using hk
    have hk2 : ds[k]? = some ds[k] := List.getElem?_eq_getElem hk'
    repeat (first | refine Wp.imp ?_ | (with_reducible refine w_modI (by decide) ?_) | (with_reducible refine w_mulI (cmulR (by decide) (by decide)) ?_) | (with_reducible refine w_mulI (cmulL (by decide) (by decide)) ?_) | (with_reducible refine w_powI (cpowL (by decide) (by decide) (by decide)) ?_) | (with_reducible refine ⟨fun h => absurd h (by decide), fun _ => ?_⟩) | (with_reducible refine ⟨fun _ => ?_, fun h => absurd h (by decide)⟩))
    rw [Int.zero_add]
    refine w_ixC (g0 _) (get_ds hk2) ?_
    repeat (first | refine Wp.imp ?_ | (with_reducible refine w_modI (by decide) ?_) | (with_reducible refine w_mulI (cmulR (by decide) (by decide)) ?_) | (with_reducible refine w_mulI (cmulL (by decide) (by decide)) ?_) | (with_reducible refine w_powI (cpowL (by decide) (by decide) (by decide)) ?_) | (with_reducible refine ⟨fun h => absurd h (by decide), fun _ => ?_⟩) | (with_reducible refine ⟨fun _ => ?_, fun h => absurd h (by decide)⟩))
    refine ⟨rfl, fun hq => ?_⟩
    repeat (first | refine Wp.imp ?_ | (with_reducible refine w_modI (by decide) ?_) | (with_reducible refine w_mulI (cmulR (by decide) (by decide)) ?_) | (with_reducible refine w_mulI (cmulL (by decide) (by decide)) ?_) | (with_reducible refine w_powI (cpowL (by decide) (by decide) (by decide)) ?_) | (with_reducible refine ⟨fun h => absurd h (by decide), fun _ => ?_⟩) | (with_reducible refine ⟨fun _ => ?_, fun h => absurd h (by decide)⟩))
    refine ⟨rfl, k, ?_⟩
    cases e : ds[k] with
    | none => rw [e] at hq; exact absurd hq (by decide)
    | some z => exact ⟨z, by simp, by rw [hk2, e]⟩
  intro able hal hab
  have hal' : able.length ≤ 100 := by rw [intsFrom_length] at hal; simp at hal; omega
  have oka : ∀ {m : Nat} {xs : List PV}, (∀ x ∈ xs, ∃ (k : Nat) (e : Eqn), x = .int k ∧ ds[k]? = some (some e)) → okds m xs = true := fun {m xs} hx => okds_all fun x hm => by
    obtain ⟨k, e, rfl, _⟩ := hx x hm; simp [okd]
  have bla : ∀ {m : Nat} {xs : List PV}, (∀ x ∈ xs, ∃ (k : Nat) (e : Eqn), x = .int k ∧ ds[k]? = some (some e)) → belows m xs = true := fun {m xs} hx => belows_all fun x hm => by
    obtain ⟨k, e, rfl, _⟩ := hx x hm; rfl
  repeat (first | refine Wp.imp ?_ | (with_reducible refine w_modI (by decide) ?_) | (with_reducible refine w_mulI (cmulR (by decide) (by decide)) ?_) | (with_reducible refine w_mulI (cmulL (by decide) (by decide)) ?_) | (with_reducible refine w_powI (cpowL (by decide) (by decide) (by decide)) ?_) | (with_reducible refine ⟨fun h => absurd h (by decide), fun _ => ?_⟩) | (with_reducible refine ⟨fun _ => ?_, fun h => absurd h (by decide)⟩))
  refine pick_pool (by omega) ht1 hp fun a t2 ht2 ha1 ha2 => ?_
  repeat (first | refine Wp.imp ?_ | (with_reducible refine w_modI (by decide) ?_) | (with_reducible refine w_mulI (cmulR (by decide) (by decide)) ?_) | (with_reducible refine w_mulI (cmulL (by decide) (by decide)) ?_) | (with_reducible refine w_powI (cpowL (by decide) (by decide) (by decide)) ?_) | (with_reducible refine ⟨fun h => absurd h (by decide), fun _ => ?_⟩) | (with_reducible refine ⟨fun _ => ?_, fun h => absurd h (by decide)⟩))
  refine w_eqLn (oka hab) ?_
  repeat (first | refine Wp.imp ?_ | (with_reducible refine w_modI (by decide) ?_) | (with_reducible refine w_mulI (cmulR (by decide) (by decide)) ?_) | (with_reducible refine w_mulI (cmulL (by decide) (by decide)) ?_) | (with_reducible refine w_powI (cpowL (by decide) (by decide) (by decide)) ?_) | (with_reducible refine ⟨fun h => absurd h (by decide), fun _ => ?_⟩) | (with_reducible refine ⟨fun _ => ?_, fun h => absurd h (by decide)⟩))
  refine ⟨fun _ => ?_, fun hne => ?_⟩
  · repeat (first | refine Wp.imp ?_ | (with_reducible refine w_modI (by decide) ?_) | (with_reducible refine w_mulI (cmulR (by decide) (by decide)) ?_) | (with_reducible refine w_mulI (cmulL (by decide) (by decide)) ?_) | (with_reducible refine w_powI (cpowL (by decide) (by decide) (by decide)) ?_) | (with_reducible refine ⟨fun h => absurd h (by decide), fun _ => ?_⟩) | (with_reducible refine ⟨fun _ => ?_, fun h => absurd h (by decide)⟩))
    exact fin0 (.refl a) _ _ ht2 (.refl ha2 ha1)
  have hap : 0 < able.length := by cases able with
    | nil => exact absurd hne (by decide)
    | cons => simp
  repeat (first | refine Wp.imp ?_ | (with_reducible refine w_modI (by decide) ?_) | (with_reducible refine w_mulI (cmulR (by decide) (by decide)) ?_) | (with_reducible refine w_mulI (cmulL (by decide) (by decide)) ?_) | (with_reducible refine w_powI (cpowL (by decide) (by decide) (by decide)) ?_) | (with_reducible refine ⟨fun h => absurd h (by decide), fun _ => ?_⟩) | (with_reducible refine ⟨fun _ => ?_, fun h => absurd h (by decide)⟩))
  refine ⟨fun _ => ?_, fun _ => ?_⟩
  · repeat (first | refine Wp.imp ?_ | (with_reducible refine w_modI (by decide) ?_) | (with_reducible refine w_mulI (cmulR (by decide) (by decide)) ?_) | (with_reducible refine w_mulI (cmulL (by decide) (by decide)) ?_) | (with_reducible refine w_powI (cpowL (by decide) (by decide) (by decide)) ?_) | (with_reducible refine ⟨fun h => absurd h (by decide), fun _ => ?_⟩) | (with_reducible refine ⟨fun _ => ?_, fun h => absurd h (by decide)⟩))
    exact fin0 (.refl a) _ _ ht2 (.refl ha2 ha1)
  repeat (first | refine Wp.imp ?_ | (with_reducible refine w_modI (by decide) ?_) | (with_reducible refine w_mulI (cmulR (by decide) (by decide)) ?_) | (with_reducible refine w_mulI (cmulL (by decide) (by decide)) ?_) | (with_reducible refine w_powI (cpowL (by decide) (by decide) (by decide)) ?_) | (with_reducible refine ⟨fun h => absurd h (by decide), fun _ => ?_⟩) | (with_reducible refine ⟨fun _ => ?_, fun h => absurd h (by decide)⟩))
  refine pick_spec (by omega) ht2 (fun _ => rfl) (by omega) hap (bla hab) fun x t3 ht3 hx => ?_
  obtain ⟨i, ⟨l, r⟩, rfl, hi⟩ := hab x hx
  have hsym : Ok cls ds (.sym i) _ := .sym hi
  have gi := get_ds hi
  simp only [oeq, eqv] at gi
  have dd : ∀ {i : Nat} {e : Eqn}, ds[i]? = some (some e) → szOK 60 e := fun {i e} h => hd.2 _ (List.mem_of_getElem? h) e rfl
  have dl := dd hi
  have el := Tm.depth_lt l
  have er := Tm.depth_lt r
  repeat (first | refine Wp.imp ?_ | (with_reducible refine w_modI (by decide) ?_) | (with_reducible refine w_mulI (cmulR (by decide) (by decide)) ?_) | (with_reducible refine w_mulI (cmulL (by decide) (by decide)) ?_) | (with_reducible refine w_powI (cpowL (by decide) (by decide) (by decide)) ?_) | (with_reducible refine ⟨fun h => absurd h (by decide), fun _ => ?_⟩) | (with_reducible refine ⟨fun _ => ?_, fun h => absurd h (by decide)⟩))
  refine ⟨fun _ => ?_, fun _ => ?_⟩
  · repeat (first | refine Wp.imp ?_ | (with_reducible refine w_modI (by decide) ?_) | (with_reducible refine w_mulI (cmulR (by decide) (by decide)) ?_) | (with_reducible refine w_mulI (cmulL (by decide) (by decide)) ?_) | (with_reducible refine w_powI (cpowL (by decide) (by decide) (by decide)) ?_) | (with_reducible refine ⟨fun h => absurd h (by decide), fun _ => ?_⟩) | (with_reducible refine ⟨fun _ => ?_, fun h => absurd h (by decide)⟩))
    exact fin0 (.sym i) _ _ ht3 hsym
  repeat (first | refine Wp.imp ?_ | (with_reducible refine w_modI (by decide) ?_) | (with_reducible refine w_mulI (cmulR (by decide) (by decide)) ?_) | (with_reducible refine w_mulI (cmulL (by decide) (by decide)) ?_) | (with_reducible refine w_powI (cpowL (by decide) (by decide) (by decide)) ?_) | (with_reducible refine ⟨fun h => absurd h (by decide), fun _ => ?_⟩) | (with_reducible refine ⟨fun _ => ?_, fun h => absurd h (by decide)⟩))
  refine ⟨fun _ => ?_, fun _ => ?_⟩
  · repeat (first | refine Wp.imp ?_ | (with_reducible refine w_modI (by decide) ?_) | (with_reducible refine w_mulI (cmulR (by decide) (by decide)) ?_) | (with_reducible refine w_mulI (cmulL (by decide) (by decide)) ?_) | (with_reducible refine w_powI (cpowL (by decide) (by decide) (by decide)) ?_) | (with_reducible refine ⟨fun h => absurd h (by decide), fun _ => ?_⟩) | (with_reducible refine ⟨fun _ => ?_, fun h => absurd h (by decide)⟩))
    refine w_lcM (fun x => ∃ (k : Nat) (c : Tm), x = .int k ∧ ds[k]? = some (some (r, c))) ?_
    repeat (first | refine Wp.imp ?_ | (with_reducible refine w_modI (by decide) ?_) | (with_reducible refine w_mulI (cmulR (by decide) (by decide)) ?_) | (with_reducible refine w_mulI (cmulL (by decide) (by decide)) ?_) | (with_reducible refine w_powI (cpowL (by decide) (by decide) (by decide)) ?_) | (with_reducible refine ⟨fun h => absurd h (by decide), fun _ => ?_⟩) | (with_reducible refine ⟨fun _ => ?_, fun h => absurd h (by decide)⟩))
    refine ⟨stillP_none, by show able.length ≤ _; omega, ?_, ?_⟩
    · intro x hx
      obtain ⟨k, ⟨l', r'⟩, rfl, hk⟩ := hab x hx
      have gk := get_ds hk
      simp only [oeq, eqv] at gk
      have dk := dd hk
      have ek := Tm.depth_lt l'
      repeat (first | refine Wp.imp ?_ | (with_reducible refine w_modI (by decide) ?_) | (with_reducible refine w_mulI (cmulR (by decide) (by decide)) ?_) | (with_reducible refine w_mulI (cmulL (by decide) (by decide)) ?_) | (with_reducible refine w_powI (cpowL (by decide) (by decide) (by decide)) ?_) | (with_reducible refine ⟨fun h => absurd h (by decide), fun _ => ?_⟩) | (with_reducible refine ⟨fun _ => ?_, fun h => absurd h (by decide)⟩))
      refine w_ixC (g0 _) gk ?_
      repeat (first | refine Wp.imp ?_ | (with_reducible refine w_modI (by decide) ?_) | (with_reducible refine w_mulI (cmulR (by decide) (by decide)) ?_) | (with_reducible refine w_mulI (cmulL (by decide) (by decide)) ?_) | (with_reducible refine w_powI (cpowL (by decide) (by decide) (by decide)) ?_) | (with_reducible refine ⟨fun h => absurd h (by decide), fun _ => ?_⟩) | (with_reducible refine ⟨fun _ => ?_, fun h => absurd h (by decide)⟩))
      refine w_ixC (g0 _) gi ?_
      repeat (first | refine Wp.imp ?_ | (with_reducible refine w_modI (by decide) ?_) | (with_reducible refine w_mulI (cmulR (by decide) (by decide)) ?_) | (with_reducible refine w_mulI (cmulL (by decide) (by decide)) ?_) | (with_reducible refine w_powI (cpowL (by decide) (by decide) (by decide)) ?_) | (with_reducible refine ⟨fun h => absurd h (by decide), fun _ => ?_⟩) | (with_reducible refine ⟨fun _ => ?_, fun h => absurd h (by decide)⟩))
      refine w_eqD ?_ ?_ ?_
      · rw [norm_tm]; exact okd_tm _ _ (by have := dk.1; simp at this; omega)
      · rw [norm_tm]; exact okd_tm _ _ (by have := dl.2; simp at this; omega)
      rw [norm_tm, norm_tm, pvEq_tm]
      repeat (first | refine Wp.imp ?_ | (with_reducible refine w_modI (by decide) ?_) | (with_reducible refine w_mulI (cmulR (by decide) (by decide)) ?_) | (with_reducible refine w_mulI (cmulL (by decide) (by decide)) ?_) | (with_reducible refine w_powI (cpowL (by decide) (by decide) (by decide)) ?_) | (with_reducible refine ⟨fun h => absurd h (by decide), fun _ => ?_⟩) | (with_reducible refine ⟨fun _ => ?_, fun h => absurd h (by decide)⟩))
      refine ⟨rfl, fun hq => ?_⟩
      have hq := of_decide_eq_true hq
      subst hq
      repeat (first | refine Wp.imp ?_ | (with_reducible refine w_modI (by decide) ?_) | (with_reducible refine w_mulI (cmulR (by decide) (by decide)) ?_) | (with_reducible refine w_mulI (cmulL (by decide) (by decide)) ?_) | (with_reducible refine w_powI (cpowL (by decide) (by decide) (by decide)) ?_) | (with_reducible refine ⟨fun h => absurd h (by decide), fun _ => ?_⟩) | (with_reducible refine ⟨fun _ => ?_, fun h => absurd h (by decide)⟩))
      exact ⟨rfl, k, r', rfl, hk⟩
    · intro ends hel hen
      have hen' : ∀ x ∈ ends, ∃ (k : Nat) (e : Eqn), x = .int k ∧ ds[k]? = some (some e) := fun x hx => by
        obtain ⟨k, c, h1, h2⟩ := hen x hx; exact ⟨k, _, h1, h2⟩
      repeat (first | refine Wp.imp ?_ | (with_reducible refine w_modI (by decide) ?_) | (with_reducible refine w_mulI (cmulR (by decide) (by decide)) ?_) | (with_reducible refine w_mulI (cmulL (by decide) (by decide)) ?_) | (with_reducible refine w_powI (cpowL (by decide) (by decide) (by decide)) ?_) | (with_reducible refine ⟨fun h => absurd h (by decide), fun _ => ?_⟩) | (with_reducible refine ⟨fun _ => ?_, fun h => absurd h (by decide)⟩))
      refine w_neLn (oka hen') ?_
      repeat (first | refine Wp.imp ?_ | (with_reducible refine w_modI (by decide) ?_) | (with_reducible refine w_mulI (cmulR (by decide) (by decide)) ?_) | (with_reducible refine w_mulI (cmulL (by decide) (by decide)) ?_) | (with_reducible refine w_powI (cpowL (by decide) (by decide) (by decide)) ?_) | (with_reducible refine ⟨fun h => absurd h (by decide), fun _ => ?_⟩) | (with_reducible refine ⟨fun _ => ?_, fun h => absurd h (by decide)⟩))
      refine ⟨fun hne => ?_, fun _ => ?_⟩
      · have hep : 0 < ends.length := by cases ends with
          | nil => exact absurd hne (by decide)
          | cons => simp
        repeat (first | refine Wp.imp ?_ | (with_reducible refine w_modI (by decide) ?_) | (with_reducible refine w_mulI (cmulR (by decide) (by decide)) ?_) | (with_reducible refine w_mulI (cmulL (by decide) (by decide)) ?_) | (with_reducible refine w_powI (cpowL (by decide) (by decide) (by decide)) ?_) | (with_reducible refine ⟨fun h => absurd h (by decide), fun _ => ?_⟩) | (with_reducible refine ⟨fun _ => ?_, fun h => absurd h (by decide)⟩))
        refine pick_spec (by omega) ht3 (fun _ => rfl) (by change ends.length ≤ able.length at hel; omega) hep (bla hen') fun x t4 ht4 hx => ?_
        obtain ⟨k, c, rfl, hk⟩ := hen x hx
        repeat (first | refine Wp.imp ?_ | (with_reducible refine w_modI (by decide) ?_) | (with_reducible refine w_mulI (cmulR (by decide) (by decide)) ?_) | (with_reducible refine w_mulI (cmulL (by decide) (by decide)) ?_) | (with_reducible refine w_powI (cpowL (by decide) (by decide) (by decide)) ?_) | (with_reducible refine ⟨fun h => absurd h (by decide), fun _ => ?_⟩) | (with_reducible refine ⟨fun _ => ?_, fun h => absurd h (by decide)⟩))
        exact fin0 (.trans i k) _ _ ht4 (.trans hi hk)
      · repeat (first | refine Wp.imp ?_ | (with_reducible refine w_modI (by decide) ?_) | (with_reducible refine w_mulI (cmulR (by decide) (by decide)) ?_) | (with_reducible refine w_mulI (cmulL (by decide) (by decide)) ?_) | (with_reducible refine w_powI (cpowL (by decide) (by decide) (by decide)) ?_) | (with_reducible refine ⟨fun h => absurd h (by decide), fun _ => ?_⟩) | (with_reducible refine ⟨fun _ => ?_, fun h => absurd h (by decide)⟩))
        exact fin0 (.sym i) _ _ ht3 hsym
  repeat (first | refine Wp.imp ?_ | (with_reducible refine w_modI (by decide) ?_) | (with_reducible refine w_mulI (cmulR (by decide) (by decide)) ?_) | (with_reducible refine w_mulI (cmulL (by decide) (by decide)) ?_) | (with_reducible refine w_powI (cpowL (by decide) (by decide) (by decide)) ?_) | (with_reducible refine ⟨fun h => absurd h (by decide), fun _ => ?_⟩) | (with_reducible refine ⟨fun _ => ?_, fun h => absurd h (by decide)⟩))
  refine ⟨fun _ => ?_, fun _ => ?_⟩
  · repeat (first | refine Wp.imp ?_ | (with_reducible refine w_modI (by decide) ?_) | (with_reducible refine w_mulI (cmulR (by decide) (by decide)) ?_) | (with_reducible refine w_mulI (cmulL (by decide) (by decide)) ?_) | (with_reducible refine w_powI (cpowL (by decide) (by decide) (by decide)) ?_) | (with_reducible refine ⟨fun h => absurd h (by decide), fun _ => ?_⟩) | (with_reducible refine ⟨fun _ => ?_, fun h => absurd h (by decide)⟩))
    refine pick_spec (by omega) ht3 (fun _ => rfl) (by omega) hap (bla hab) fun x t4 ht4 hx => ?_
    obtain ⟨j, ⟨l', r'⟩, rfl, hj⟩ := hab x hx
    have gj := get_ds hj
    simp only [oeq, eqv] at gj
    have dj := dd hj
    have el' := Tm.depth_lt l'
    have er' := Tm.depth_lt r'
    have q1 := dl.1
    have q2 := dl.2
    have q3 := dj.1
    have q4 := dj.2
    simp only at q1 q2 q3 q4
    repeat (first | refine Wp.imp ?_ | (with_reducible refine w_modI (by decide) ?_) | (with_reducible refine w_mulI (cmulR (by decide) (by decide)) ?_) | (with_reducible refine w_mulI (cmulL (by decide) (by decide)) ?_) | (with_reducible refine w_powI (cpowL (by decide) (by decide) (by decide)) ?_) | (with_reducible refine ⟨fun h => absurd h (by decide), fun _ => ?_⟩) | (with_reducible refine ⟨fun _ => ?_, fun h => absurd h (by decide)⟩))
    refine w_lc (fun k acc φ' => φ' = t4 :: ψ ∧ acc = ([PV.int (l.size + l'.size), PV.int (r.size + r'.size)]).take k) ?_
    repeat (first | refine Wp.imp ?_ | (with_reducible refine w_modI (by decide) ?_) | (with_reducible refine w_mulI (cmulR (by decide) (by decide)) ?_) | (with_reducible refine w_mulI (cmulL (by decide) (by decide)) ?_) | (with_reducible refine w_powI (cpowL (by decide) (by decide) (by decide)) ?_) | (with_reducible refine ⟨fun h => absurd h (by decide), fun _ => ?_⟩) | (with_reducible refine ⟨fun _ => ?_, fun h => absurd h (by decide)⟩))
    refine ⟨stillP_none, by simp [sizeLine], ⟨rfl, rfl⟩, ?_, ?_⟩
    · rintro k x acc φ' hx ⟨rfl, rfl⟩ _
      match k, hx with
      | 0, hx =>
        cases hx
        repeat (first | refine Wp.imp ?_ | (with_reducible refine w_modI (by decide) ?_) | (with_reducible refine w_mulI (cmulR (by decide) (by decide)) ?_) | (with_reducible refine w_mulI (cmulL (by decide) (by decide)) ?_) | (with_reducible refine w_powI (cpowL (by decide) (by decide) (by decide)) ?_) | (with_reducible refine ⟨fun h => absurd h (by decide), fun _ => ?_⟩) | (with_reducible refine ⟨fun _ => ?_, fun h => absurd h (by decide)⟩))
        refine w_ixC (g0 _) gi ?_
        repeat (first | refine Wp.imp ?_ | (with_reducible refine w_modI (by decide) ?_) | (with_reducible refine w_mulI (cmulR (by decide) (by decide)) ?_) | (with_reducible refine w_mulI (cmulL (by decide) (by decide)) ?_) | (with_reducible refine w_powI (cpowL (by decide) (by decide) (by decide)) ?_) | (with_reducible refine ⟨fun h => absurd h (by decide), fun _ => ?_⟩) | (with_reducible refine ⟨fun _ => ?_, fun h => absurd h (by decide)⟩))
        refine size_spec l n (by omega) ?_
        repeat (first | refine Wp.imp ?_ | (with_reducible refine w_modI (by decide) ?_) | (with_reducible refine w_mulI (cmulR (by decide) (by decide)) ?_) | (with_reducible refine w_mulI (cmulL (by decide) (by decide)) ?_) | (with_reducible refine w_powI (cpowL (by decide) (by decide) (by decide)) ?_) | (with_reducible refine ⟨fun h => absurd h (by decide), fun _ => ?_⟩) | (with_reducible refine ⟨fun _ => ?_, fun h => absurd h (by decide)⟩))
        refine w_ixC (g0 _) gj ?_
        repeat (first | refine Wp.imp ?_ | (with_reducible refine w_modI (by decide) ?_) | (with_reducible refine w_mulI (cmulR (by decide) (by decide)) ?_) | (with_reducible refine w_mulI (cmulL (by decide) (by decide)) ?_) | (with_reducible refine w_powI (cpowL (by decide) (by decide) (by decide)) ?_) | (with_reducible refine ⟨fun h => absurd h (by decide), fun _ => ?_⟩) | (with_reducible refine ⟨fun _ => ?_, fun h => absurd h (by decide)⟩))
        refine size_spec l' n (by omega) ?_
        repeat (first | refine Wp.imp ?_ | (with_reducible refine w_modI (by decide) ?_) | (with_reducible refine w_mulI (cmulR (by decide) (by decide)) ?_) | (with_reducible refine w_mulI (cmulL (by decide) (by decide)) ?_) | (with_reducible refine w_powI (cpowL (by decide) (by decide) (by decide)) ?_) | (with_reducible refine ⟨fun h => absurd h (by decide), fun _ => ?_⟩) | (with_reducible refine ⟨fun _ => ?_, fun h => absurd h (by decide)⟩))
        exact ⟨stillP_none, rfl, rfl⟩
      | 1, hx =>
        cases hx
        repeat (first | refine Wp.imp ?_ | (with_reducible refine w_modI (by decide) ?_) | (with_reducible refine w_mulI (cmulR (by decide) (by decide)) ?_) | (with_reducible refine w_mulI (cmulL (by decide) (by decide)) ?_) | (with_reducible refine w_powI (cpowL (by decide) (by decide) (by decide)) ?_) | (with_reducible refine ⟨fun h => absurd h (by decide), fun _ => ?_⟩) | (with_reducible refine ⟨fun _ => ?_, fun h => absurd h (by decide)⟩))
        refine w_ixC (g0 _) gi ?_
        repeat (first | refine Wp.imp ?_ | (with_reducible refine w_modI (by decide) ?_) | (with_reducible refine w_mulI (cmulR (by decide) (by decide)) ?_) | (with_reducible refine w_mulI (cmulL (by decide) (by decide)) ?_) | (with_reducible refine w_powI (cpowL (by decide) (by decide) (by decide)) ?_) | (with_reducible refine ⟨fun h => absurd h (by decide), fun _ => ?_⟩) | (with_reducible refine ⟨fun _ => ?_, fun h => absurd h (by decide)⟩))
        refine size_spec r n (by omega) ?_
        repeat (first | refine Wp.imp ?_ | (with_reducible refine w_modI (by decide) ?_) | (with_reducible refine w_mulI (cmulR (by decide) (by decide)) ?_) | (with_reducible refine w_mulI (cmulL (by decide) (by decide)) ?_) | (with_reducible refine w_powI (cpowL (by decide) (by decide) (by decide)) ?_) | (with_reducible refine ⟨fun h => absurd h (by decide), fun _ => ?_⟩) | (with_reducible refine ⟨fun _ => ?_, fun h => absurd h (by decide)⟩))
        refine w_ixC (g0 _) gj ?_
        repeat (first | refine Wp.imp ?_ | (with_reducible refine w_modI (by decide) ?_) | (with_reducible refine w_mulI (cmulR (by decide) (by decide)) ?_) | (with_reducible refine w_mulI (cmulL (by decide) (by decide)) ?_) | (with_reducible refine w_powI (cpowL (by decide) (by decide) (by decide)) ?_) | (with_reducible refine ⟨fun h => absurd h (by decide), fun _ => ?_⟩) | (with_reducible refine ⟨fun _ => ?_, fun h => absurd h (by decide)⟩))
        refine size_spec r' n (by omega) ?_
        repeat (first | refine Wp.imp ?_ | (with_reducible refine w_modI (by decide) ?_) | (with_reducible refine w_mulI (cmulR (by decide) (by decide)) ?_) | (with_reducible refine w_mulI (cmulL (by decide) (by decide)) ?_) | (with_reducible refine w_powI (cpowL (by decide) (by decide) (by decide)) ?_) | (with_reducible refine ⟨fun h => absurd h (by decide), fun _ => ?_⟩) | (with_reducible refine ⟨fun _ => ?_, fun h => absurd h (by decide)⟩))
        exact ⟨stillP_none, rfl, rfl⟩
      | k + 2, hx => simp at hx
    · rintro acc φ' ⟨rfl, rfl⟩ _
      repeat (first | refine Wp.imp ?_ | (with_reducible refine w_modI (by decide) ?_) | (with_reducible refine w_mulI (cmulR (by decide) (by decide)) ?_) | (with_reducible refine w_mulI (cmulL (by decide) (by decide)) ?_) | (with_reducible refine w_powI (cpowL (by decide) (by decide) (by decide)) ?_) | (with_reducible refine ⟨fun h => absurd h (by decide), fun _ => ?_⟩) | (with_reducible refine ⟨fun _ => ?_, fun h => absurd h (by decide)⟩))
      refine w_maxL (n := l.size + l'.size) (r := [(r.size : Int) + r'.size]) rfl rfl ?_
      repeat (first | refine Wp.imp ?_ | (with_reducible refine w_modI (by decide) ?_) | (with_reducible refine w_mulI (cmulR (by decide) (by decide)) ?_) | (with_reducible refine w_mulI (cmulL (by decide) (by decide)) ?_) | (with_reducible refine w_powI (cpowL (by decide) (by decide) (by decide)) ?_) | (with_reducible refine ⟨fun h => absurd h (by decide), fun _ => ?_⟩) | (with_reducible refine ⟨fun _ => ?_, fun h => absurd h (by decide)⟩))
      refine ⟨fun hq => ?_, fun _ => ?_⟩
      · have hq := of_decide_eq_true hq
        simp only [maxI] at hq
        have hq1 : l.size + l'.size ≤ 60 ∧ r.size + r'.size ≤ 60 := by split at hq <;> omega
        repeat (first | refine Wp.imp ?_ | (with_reducible refine w_modI (by decide) ?_) | (with_reducible refine w_mulI (cmulR (by decide) (by decide)) ?_) | (with_reducible refine w_mulI (cmulL (by decide) (by decide)) ?_) | (with_reducible refine w_powI (cpowL (by decide) (by decide) (by decide)) ?_) | (with_reducible refine ⟨fun h => absurd h (by decide), fun _ => ?_⟩) | (with_reducible refine ⟨fun _ => ?_, fun h => absurd h (by decide)⟩))
        exact fin0 (.cong i j) _ _ ht4 (.cong hi hj hq1.1 hq1.2)
      · repeat (first | refine Wp.imp ?_ | (with_reducible refine w_modI (by decide) ?_) | (with_reducible refine w_mulI (cmulR (by decide) (by decide)) ?_) | (with_reducible refine w_mulI (cmulL (by decide) (by decide)) ?_) | (with_reducible refine w_powI (cpowL (by decide) (by decide) (by decide)) ?_) | (with_reducible refine ⟨fun h => absurd h (by decide), fun _ => ?_⟩) | (with_reducible refine ⟨fun _ => ?_, fun h => absurd h (by decide)⟩))
        exact fin0 (.sym i) _ _ ht4 hsym
  repeat (first | refine Wp.imp ?_ | (with_reducible refine w_modI (by decide) ?_) | (with_reducible refine w_mulI (cmulR (by decide) (by decide)) ?_) | (with_reducible refine w_mulI (cmulL (by decide) (by decide)) ?_) | (with_reducible refine w_powI (cpowL (by decide) (by decide) (by decide)) ?_) | (with_reducible refine ⟨fun h => absurd h (by decide), fun _ => ?_⟩) | (with_reducible refine ⟨fun _ => ?_, fun h => absurd h (by decide)⟩))
  have hcl0 : 0 < cls.length := List.length_pos_iff.mpr h0
  refine draw_spec (by omega) ht3 (by have := hc.1; simp; omega) fun pl t4 ht4 p0 p1 => ?_
  obtain ⟨pl, rfl⟩ : ∃ k : Nat, pl = k := ⟨pl.toNat, by omega⟩
  have hpl : pl < cls.length := by simp at p1; omega
  obtain ⟨c, hcp⟩ : ∃ c, cls[pl]? = some c := ⟨_, List.getElem?_eq_getElem hpl⟩
  have gp : pyIx (cls.map clv) (pl : Int) = some (.tup [.tup (c.1.map eqv), oeq c.2]) := pyIx_nat (by omega) (by simp [hcp]; rfl)
  have hcl := hc.2 c (List.mem_of_getElem? hcp)
  repeat (first | refine Wp.imp ?_ | (with_reducible refine w_modI (by decide) ?_) | (with_reducible refine w_mulI (cmulR (by decide) (by decide)) ?_) | (with_reducible refine w_mulI (cmulL (by decide) (by decide)) ?_) | (with_reducible refine w_powI (cpowL (by decide) (by decide) (by decide)) ?_) | (with_reducible refine ⟨fun h => absurd h (by decide), fun _ => ?_⟩) | (with_reducible refine ⟨fun _ => ?_, fun h => absurd h (by decide)⟩))
  refine w_for (fun k ρ φ' => ∃ (is : List Nat) (t' : Cell) (y1 y2 : Option PV), TapeOK t' ∧ ρ = [some (.loc 0), some (.lst (cls.map clv)), some (.loc (d + 1)), some (.lst (p.map Tm.pv)), some (.int choice), some (.lst able), some a.pv, some (.int i), none, none, none, some (.int pl), some (.loc (ψ.length + 1)), y1, y2, none, none] ∧ φ' = t' :: (ψ ++ [.lst (is.map nat)]) ∧ is.length = k ∧ ∀ (j : Nat) i e, is[j]? = some i → c.1[j]? = some e → ds[i]? = some (some e)) ?_
  repeat (first | refine Wp.imp ?_ | (with_reducible refine w_modI (by decide) ?_) | (with_reducible refine w_mulI (cmulR (by decide) (by decide)) ?_) | (with_reducible refine w_mulI (cmulL (by decide) (by decide)) ?_) | (with_reducible refine w_powI (cpowL (by decide) (by decide) (by decide)) ?_) | (with_reducible refine ⟨fun h => absurd h (by decide), fun _ => ?_⟩) | (with_reducible refine ⟨fun _ => ?_, fun h => absurd h (by decide)⟩))
  refine w_ixL gp ?_
  repeat (first | refine Wp.imp ?_ | (with_reducible refine w_modI (by decide) ?_) | (with_reducible refine w_mulI (cmulR (by decide) (by decide)) ?_) | (with_reducible refine w_mulI (cmulL (by decide) (by decide)) ?_) | (with_reducible refine w_powI (cpowL (by decide) (by decide) (by decide)) ?_) | (with_reducible refine ⟨fun h => absurd h (by decide), fun _ => ?_⟩) | (with_reducible refine ⟨fun _ => ?_, fun h => absurd h (by decide)⟩))
  refine ⟨stillP_none, ⟨[], t4, _, _, ht4, rfl, rfl, rfl, by simp⟩, ?_, ?_⟩
  · rintro k x ρ φ' hx ⟨is, t5, y1, y2, ht5, rfl, rfl, hl, his⟩
    simp only [List.getElem?_map, Option.map_eq_some_iff] at hx
    obtain ⟨e, he, rfl⟩ := hx
    have hkl : k < c.1.length := (List.getElem?_eq_some_iff.mp he).1
    have hze := hcl.2.1 e (List.mem_of_getElem? he)
    repeat (first | refine Wp.imp ?_ | (with_reducible refine w_modI (by decide) ?_) | (with_reducible refine w_mulI (cmulR (by decide) (by decide)) ?_) | (with_reducible refine w_mulI (cmulL (by decide) (by decide)) ?_) | (with_reducible refine w_powI (cpowL (by decide) (by decide) (by decide)) ?_) | (with_reducible refine ⟨fun h => absurd h (by decide), fun _ => ?_⟩) | (with_reducible refine ⟨fun _ => ?_, fun h => absurd h (by decide)⟩))
    refine w_lcM (fun x => ∃ (k : Nat), x = .int k ∧ ds[k]? = some (some e)) ?_
    repeat (first | refine Wp.imp ?_ | (with_reducible refine w_modI (by decide) ?_) | (with_reducible refine w_mulI (cmulR (by decide) (by decide)) ?_) | (with_reducible refine w_mulI (cmulL (by decide) (by decide)) ?_) | (with_reducible refine w_powI (cpowL (by decide) (by decide) (by decide)) ?_) | (with_reducible refine ⟨fun h => absurd h (by decide), fun _ => ?_⟩) | (with_reducible refine ⟨fun _ => ?_, fun h => absurd h (by decide)⟩))
    refine ⟨stillP_none, by show able.length ≤ _; omega, ?_, ?_⟩
    · intro x hx
      obtain ⟨j, ej, rfl, hj⟩ := hab x hx
      repeat (first | refine Wp.imp ?_ | (with_reducible refine w_modI (by decide) ?_) | (with_reducible refine w_mulI (cmulR (by decide) (by decide)) ?_) | (with_reducible refine w_mulI (cmulL (by decide) (by decide)) ?_) | (with_reducible refine w_powI (cpowL (by decide) (by decide) (by decide)) ?_) | (with_reducible refine ⟨fun h => absurd h (by decide), fun _ => ?_⟩) | (with_reducible refine ⟨fun _ => ?_, fun h => absurd h (by decide)⟩))
      refine w_ixC (g1 _ _) (get_ds hj) ?_
      repeat (first | refine Wp.imp ?_ | (with_reducible refine w_modI (by decide) ?_) | (with_reducible refine w_mulI (cmulR (by decide) (by decide)) ?_) | (with_reducible refine w_mulI (cmulL (by decide) (by decide)) ?_) | (with_reducible refine w_powI (cpowL (by decide) (by decide) (by decide)) ?_) | (with_reducible refine ⟨fun h => absurd h (by decide), fun _ => ?_⟩) | (with_reducible refine ⟨fun _ => ?_, fun h => absurd h (by decide)⟩))
      refine w_eqD ?_ ?_ ?_
      · exact okd_mono _ (by decide) (okd_sz (dd hj))
      · exact okd_mono _ (by decide) (okd_sz hze)
      rw [show norm (t5 :: (ψ ++ [Cell.lst (is.map nat)])) (oeq (some ej)) = oeq (some ej) from rfl, show norm (t5 :: (ψ ++ [Cell.lst (is.map nat)])) (eqv e) = eqv e from rfl, pvEq_oeq]
      repeat (first | refine Wp.imp ?_ | (with_reducible refine w_modI (by decide) ?_) | (with_reducible refine w_mulI (cmulR (by decide) (by decide)) ?_) | (with_reducible refine w_mulI (cmulL (by decide) (by decide)) ?_) | (with_reducible refine w_powI (cpowL (by decide) (by decide) (by decide)) ?_) | (with_reducible refine ⟨fun h => absurd h (by decide), fun _ => ?_⟩) | (with_reducible refine ⟨fun _ => ?_, fun h => absurd h (by decide)⟩))
      refine ⟨rfl, fun hq => ?_⟩
      have hq := of_decide_eq_true hq
      rw [hq] at hj
      repeat (first | refine Wp.imp ?_ | (with_reducible refine w_modI (by decide) ?_) | (with_reducible refine w_mulI (cmulR (by decide) (by decide)) ?_) | (with_reducible refine w_mulI (cmulL (by decide) (by decide)) ?_) | (with_reducible refine w_powI (cpowL (by decide) (by decide) (by decide)) ?_) | (with_reducible refine ⟨fun h => absurd h (by decide), fun _ => ?_⟩) | (with_reducible refine ⟨fun _ => ?_, fun h => absurd h (by decide)⟩))
      exact ⟨rfl, j, rfl, hj⟩
    · intro fd hfl hfd
      have hfd' : ∀ x ∈ fd, ∃ (k : Nat) (e : Eqn), x = .int k ∧ ds[k]? = some (some e) := fun x hx => by
        obtain ⟨k, h1, h2⟩ := hfd x hx; exact ⟨k, _, h1, h2⟩
      repeat (first | refine Wp.imp ?_ | (with_reducible refine w_modI (by decide) ?_) | (with_reducible refine w_mulI (cmulR (by decide) (by decide)) ?_) | (with_reducible refine w_mulI (cmulL (by decide) (by decide)) ?_) | (with_reducible refine w_powI (cpowL (by decide) (by decide) (by decide)) ?_) | (with_reducible refine ⟨fun h => absurd h (by decide), fun _ => ?_⟩) | (with_reducible refine ⟨fun _ => ?_, fun h => absurd h (by decide)⟩))
      refine w_eqLn (oka hfd') ?_
      repeat (first | refine Wp.imp ?_ | (with_reducible refine w_modI (by decide) ?_) | (with_reducible refine w_mulI (cmulR (by decide) (by decide)) ?_) | (with_reducible refine w_mulI (cmulL (by decide) (by decide)) ?_) | (with_reducible refine w_powI (cpowL (by decide) (by decide) (by decide)) ?_) | (with_reducible refine ⟨fun h => absurd h (by decide), fun _ => ?_⟩) | (with_reducible refine ⟨fun _ => ?_, fun h => absurd h (by decide)⟩))
      refine ⟨fun _ => ?_, fun hne => ?_⟩
      · repeat (first | refine Wp.imp ?_ | (with_reducible refine w_modI (by decide) ?_) | (with_reducible refine w_mulI (cmulR (by decide) (by decide)) ?_) | (with_reducible refine w_mulI (cmulL (by decide) (by decide)) ?_) | (with_reducible refine w_powI (cpowL (by decide) (by decide) (by decide)) ?_) | (with_reducible refine ⟨fun h => absurd h (by decide), fun _ => ?_⟩) | (with_reducible refine ⟨fun _ => ?_, fun h => absurd h (by decide)⟩))
        exact fin1 (.refl a) _ _ _ ht5 (.refl ha2 ha1)
      · have hfp : 0 < fd.length := by cases fd with
          | nil => exact absurd hne (by decide)
          | cons => simp
        repeat (first | refine Wp.imp ?_ | (with_reducible refine w_modI (by decide) ?_) | (with_reducible refine w_mulI (cmulR (by decide) (by decide)) ?_) | (with_reducible refine w_mulI (cmulL (by decide) (by decide)) ?_) | (with_reducible refine w_powI (cpowL (by decide) (by decide) (by decide)) ?_) | (with_reducible refine ⟨fun h => absurd h (by decide), fun _ => ?_⟩) | (with_reducible refine ⟨fun _ => ?_, fun h => absurd h (by decide)⟩))
        refine pick_spec (by omega) ht5 (fun _ => rfl) (by change fd.length ≤ able.length at hfl; omega) hfp (bla hfd') fun x t6 ht6 hx => ?_
        obtain ⟨j, rfl, hj⟩ := hfd x hx
        repeat (first | refine Wp.imp ?_ | (with_reducible refine w_modI (by decide) ?_) | (with_reducible refine w_mulI (cmulR (by decide) (by decide)) ?_) | (with_reducible refine w_mulI (cmulL (by decide) (by decide)) ?_) | (with_reducible refine w_powI (cpowL (by decide) (by decide) (by decide)) ?_) | (with_reducible refine ⟨fun h => absurd h (by decide), fun _ => ?_⟩) | (with_reducible refine ⟨fun _ => ?_, fun h => absurd h (by decide)⟩))
        refine ⟨by have := hcl.1; simp; omega, stillP_none, is ++ [j], t6, _, _, ht6, rfl, by simp [nat], by simp [hl], ?_⟩
        intro q i' e' h1 h2
        rw [List.getElem?_append] at h1
        split at h1
        · exact his q i' e' h1 h2
        · have : q = k := by
            have := (List.getElem?_eq_some_iff.mp h1).1
            simp at this; omega
          subst this
          rw [he] at h2
          rw [← hl] at h1
          simp at h1
          cases h1; cases h2; exact hj
  · rintro ρ φ' ⟨is, t5, y1, y2, ht5, rfl, rfl, hl, his⟩
    simp only [List.length_map] at hl
    repeat (first | refine Wp.imp ?_ | (with_reducible refine w_modI (by decide) ?_) | (with_reducible refine w_mulI (cmulR (by decide) (by decide)) ?_) | (with_reducible refine w_mulI (cmulL (by decide) (by decide)) ?_) | (with_reducible refine w_powI (cpowL (by decide) (by decide) (by decide)) ?_) | (with_reducible refine ⟨fun h => absurd h (by decide), fun _ => ?_⟩) | (with_reducible refine ⟨fun _ => ?_, fun h => absurd h (by decide)⟩))
    exact fin1 (.cl pl is) _ _ _ ht5 (.cl hcp hl his)
end
end T

namespace T
open PySem PL L2
/-! ### what a proof costs -/
def refsOf : St → List Nat
  | .refl _ => []
  | .sym i => [i]
  | .trans i j => [i, j]
  | .cong i j => [i, j]
  | .cl _ is => is
def valOf (ws : List Int) : St → Int
  | .cl p _ => ws[p]?.getD 0
  | _ => 0
def costOf (ws cs : List Int) (s : St) : Int := ((refsOf s).map fun i => cs[i]?.getD 0).sum + valOf ws s
def costs (ws : List Int) (sts : List St) : List Int := sts.foldl (fun acc s => acc ++ [costOf ws acc s]) []
theorem costs_snoc (ws : List Int) (sts : List St) (s : St) : costs ws (sts ++ [s]) = costs ws sts ++ [costOf ws (costs ws sts) s] := by
  simp [costs]
theorem costs_len (ws : List Int) (sts : List St) : (costs ws sts).length = sts.length := by
  have : ∀ (sts : List St) (acc : List Int), (sts.foldl (fun acc s => acc ++ [costOf ws acc s]) acc).length = acc.length + sts.length := by
    intro sts
    induction sts with
    | nil => intro acc; rfl
    | cons s r ih => intro acc; rw [List.foldl_cons, ih]; simp; omega
  have h := this sts []
  simp only [List.length_nil, Nat.zero_add] at h
  exact h
theorem take_succ_eq {α : Type} {xs : List α} {k : Nat} {x : α} (h : xs[k]? = some x) : xs.take (k + 1) = xs.take k ++ [x] := by
  rw [List.take_succ, h]; rfl
/-- a step of n clauses after k steps -/
def StOK (n k : Nat) (s : St) : Prop := (∀ i ∈ refsOf s, i < k) ∧ (refsOf s).length ≤ 1000 ∧ ∀ p is, s = .cl p is → p < n
def StsOK (n : Nat) (sts : List St) : Prop := sts.length ≤ 1000 ∧ ∀ k s, sts[k]? = some s → StOK n k s
section
variable {φ : PHeap} {Q : PV → PHeap → Prop} {ws cs : List Int} {s : St}
theorem refs_spec {n : Nat} (hn : 1 ≤ n) (s : St)
    (h : ∀ u, itemsOf φ u = some ((refsOf s).map nat) → guardOf u = none → Q u φ) : wR (F_references_of n [s.pv] φ) Q := by
  obtain ⟨n, rfl, hf⟩ := fuel hn
  refine w_fun' rfl ?_
  unfold B_references_of
  have fin0 : ∀ xs : List Nat, itemsOf φ (.tup (xs.map nat)) = some ((refsOf s).map nat) → wR (finM .cut φ (.tup (xs.map nat)) φ) Q := fun xs hx =>
    w_fin00 (.inl rfl) (by simp only [below]; exact belows_map (f := nat) _ (fun _ => rfl) xs) (h _ hx rfl)
  cases s with
  | refl t => simp only [St.pv, wRefl]; repeat (first | refine Wp.imp ?_ | (with_reducible refine w_modI (by decide) ?_) | (with_reducible refine w_mulI (cmulR (by decide) (by decide)) ?_) | (with_reducible refine w_mulI (cmulL (by decide) (by decide)) ?_) | (with_reducible refine w_powI (cpowL (by decide) (by decide) (by decide)) ?_) | (with_reducible refine ⟨fun h => absurd h (by decide), fun _ => ?_⟩) | (with_reducible refine ⟨fun _ => ?_, fun h => absurd h (by decide)⟩)); exact fin0 [] rfl
  | sym i => simp only [St.pv, wSym]; repeat (first | refine Wp.imp ?_ | (with_reducible refine w_modI (by decide) ?_) | (with_reducible refine w_mulI (cmulR (by decide) (by decide)) ?_) | (with_reducible refine w_mulI (cmulL (by decide) (by decide)) ?_) | (with_reducible refine w_powI (cpowL (by decide) (by decide) (by decide)) ?_) | (with_reducible refine ⟨fun h => absurd h (by decide), fun _ => ?_⟩) | (with_reducible refine ⟨fun _ => ?_, fun h => absurd h (by decide)⟩)); exact fin0 [i] rfl
  | trans i j => simp only [St.pv, wTr]; repeat (first | refine Wp.imp ?_ | (with_reducible refine w_modI (by decide) ?_) | (with_reducible refine w_mulI (cmulR (by decide) (by decide)) ?_) | (with_reducible refine w_mulI (cmulL (by decide) (by decide)) ?_) | (with_reducible refine w_powI (cpowL (by decide) (by decide) (by decide)) ?_) | (with_reducible refine ⟨fun h => absurd h (by decide), fun _ => ?_⟩) | (with_reducible refine ⟨fun _ => ?_, fun h => absurd h (by decide)⟩)); exact fin0 [i, j] rfl
  | cong i j => simp only [St.pv, wCong]; repeat (first | refine Wp.imp ?_ | (with_reducible refine w_modI (by decide) ?_) | (with_reducible refine w_mulI (cmulR (by decide) (by decide)) ?_) | (with_reducible refine w_mulI (cmulL (by decide) (by decide)) ?_) | (with_reducible refine w_powI (cpowL (by decide) (by decide) (by decide)) ?_) | (with_reducible refine ⟨fun h => absurd h (by decide), fun _ => ?_⟩) | (with_reducible refine ⟨fun _ => ?_, fun h => absurd h (by decide)⟩)); exact fin0 [i, j] rfl
  | cl p is => simp only [St.pv, wCl]; repeat (first | refine Wp.imp ?_ | (with_reducible refine w_modI (by decide) ?_) | (with_reducible refine w_mulI (cmulR (by decide) (by decide)) ?_) | (with_reducible refine w_mulI (cmulL (by decide) (by decide)) ?_) | (with_reducible refine w_powI (cpowL (by decide) (by decide) (by decide)) ?_) | (with_reducible refine ⟨fun h => absurd h (by decide), fun _ => ?_⟩) | (with_reducible refine ⟨fun _ => ?_, fun h => absurd h (by decide)⟩)); exact fin0 is rfl
theorem map_nat_ints (is : List Nat) (f : Nat → Int) (g : PV → PV) (hg : ∀ i ∈ is, g (nat i) = .int (f i)) : ((is.map nat).filter fun _ => true).map g = (is.map f).map .int := by
  rw [List.filter_eq_self.mpr (by simp), List.map_map, List.map_map]
  exact List.map_congr_left hg
/-- what [costs[k] for k in refs] gives -/
def pick (cs : List Int) : PV → PV
  | .int i => .int (cs[i.toNat]?.getD 0)
  | v => v
theorem pick_nat (cs : List Int) (i : Nat) : pick cs (nat i) = .int (cs[i]?.getD 0) := by simp [pick, nat]
theorem get_cs {k : Nat} {i : Nat} (h : i < cs.length) (hk : φ[k]? = some (.lst (cs.map .int))) (q : Q (pick cs (nat i)) φ) : wR (gIx (.loc k) (nat i) φ) Q := by
  refine w_ixC hk (pyIx_nat (by omega) ?_) (by rw [pick_nat] at q; exact q)
  simp [List.getElem?_eq_getElem h]
theorem get_ws {w : PV} {p : Nat} (h : p < ws.length) (hw : seqOf φ w = some (ws.map .int)) (q : Q (.int (ws[p]?.getD 0)) φ) : wR (gIx w (nat p) φ) Q := by
  refine w_ixQ hw (pyIx_nat (by omega) ?_) q
  simp [List.getElem?_eq_getElem h]
theorem step_cost_spec {n k : Nat} {w : PV} (hn : 2 ≤ n) (hs : StOK ws.length cs.length s) (hw : seqOf φ w = some (ws.map .int)) (hk : φ[k]? = some (.lst (cs.map .int)))
    (h : Q (.int (costOf ws cs s)) φ) : wR (F_step_cost n [s.pv, w, .loc k] φ) Q := by
  obtain ⟨n, rfl, hf⟩ := fuel hn
  refine w_fun' rfl ?_
  unfold B_step_cost
  repeat (first | refine Wp.imp ?_ | (with_reducible refine w_modI (by decide) ?_) | (with_reducible refine w_mulI (cmulR (by decide) (by decide)) ?_) | (with_reducible refine w_mulI (cmulL (by decide) (by decide)) ?_) | (with_reducible refine w_powI (cpowL (by decide) (by decide) (by decide)) ?_) | (with_reducible refine ⟨fun h => absurd h (by decide), fun _ => ?_⟩) | (with_reducible refine ⟨fun _ => ?_, fun h => absurd h (by decide)⟩))
  refine w_lcF (fun _ => true) (pick cs) ?_
  repeat (first | refine Wp.imp ?_ | (with_reducible refine w_modI (by decide) ?_) | (with_reducible refine w_mulI (cmulR (by decide) (by decide)) ?_) | (with_reducible refine w_mulI (cmulL (by decide) (by decide)) ?_) | (with_reducible refine w_powI (cpowL (by decide) (by decide) (by decide)) ?_) | (with_reducible refine ⟨fun h => absurd h (by decide), fun _ => ?_⟩) | (with_reducible refine ⟨fun _ => ?_, fun h => absurd h (by decide)⟩))
  refine refs_spec hf s fun u hu hg => ?_
  refine ⟨_, hu, ?_⟩
  have hsl : sizeLine = 16777216 := rfl
  refine ⟨(by intro k hk; rw [hg] at hk; cases hk), by have := hs.2.1; simp; omega, ?_, ?_, ?_⟩
  · intro x hx
    repeat (first | refine Wp.imp ?_ | (with_reducible refine w_modI (by decide) ?_) | (with_reducible refine w_mulI (cmulR (by decide) (by decide)) ?_) | (with_reducible refine w_mulI (cmulL (by decide) (by decide)) ?_) | (with_reducible refine w_powI (cpowL (by decide) (by decide) (by decide)) ?_) | (with_reducible refine ⟨fun h => absurd h (by decide), fun _ => ?_⟩) | (with_reducible refine ⟨fun _ => ?_, fun h => absurd h (by decide)⟩))
    exact ⟨rfl, rfl⟩
  · intro x hx _
    obtain ⟨i, hi, rfl⟩ := List.mem_map.mp hx
    repeat (first | refine Wp.imp ?_ | (with_reducible refine w_modI (by decide) ?_) | (with_reducible refine w_mulI (cmulR (by decide) (by decide)) ?_) | (with_reducible refine w_mulI (cmulL (by decide) (by decide)) ?_) | (with_reducible refine w_powI (cpowL (by decide) (by decide) (by decide)) ?_) | (with_reducible refine ⟨fun h => absurd h (by decide), fun _ => ?_⟩) | (with_reducible refine ⟨fun _ => ?_, fun h => absurd h (by decide)⟩))
    exact get_cs (hs.1 i hi) hk ⟨rfl, rfl⟩
  · rw [map_nat_ints (refsOf s) (fun i => cs[i]?.getD 0) (pick cs) fun i _ => pick_nat cs i]
    repeat (first | refine Wp.imp ?_ | (with_reducible refine w_modI (by decide) ?_) | (with_reducible refine w_mulI (cmulR (by decide) (by decide)) ?_) | (with_reducible refine w_mulI (cmulL (by decide) (by decide)) ?_) | (with_reducible refine w_powI (cpowL (by decide) (by decide) (by decide)) ?_) | (with_reducible refine ⟨fun h => absurd h (by decide), fun _ => ?_⟩) | (with_reducible refine ⟨fun _ => ?_, fun h => absurd h (by decide)⟩))
    refine w_sum rfl (intsOf_map _) ?_
    cases s with
    | cl p is =>
      simp only [St.pv, wCl]
      repeat (first | refine Wp.imp ?_ | (with_reducible refine w_modI (by decide) ?_) | (with_reducible refine w_mulI (cmulR (by decide) (by decide)) ?_) | (with_reducible refine w_mulI (cmulL (by decide) (by decide)) ?_) | (with_reducible refine w_powI (cpowL (by decide) (by decide) (by decide)) ?_) | (with_reducible refine ⟨fun h => absurd h (by decide), fun _ => ?_⟩) | (with_reducible refine ⟨fun _ => ?_, fun h => absurd h (by decide)⟩))
      refine get_ws (hs.2.2 p is rfl) hw ?_
      repeat (first | refine Wp.imp ?_ | (with_reducible refine w_modI (by decide) ?_) | (with_reducible refine w_mulI (cmulR (by decide) (by decide)) ?_) | (with_reducible refine w_mulI (cmulL (by decide) (by decide)) ?_) | (with_reducible refine w_powI (cpowL (by decide) (by decide) (by decide)) ?_) | (with_reducible refine ⟨fun h => absurd h (by decide), fun _ => ?_⟩) | (with_reducible refine ⟨fun _ => ?_, fun h => absurd h (by decide)⟩))
      exact w_fin00 (.inl rfl) rfl h
    | _ =>
      simp only [St.pv, wRefl, wSym, wTr, wCong]
      repeat (first | refine Wp.imp ?_ | (with_reducible refine w_modI (by decide) ?_) | (with_reducible refine w_mulI (cmulR (by decide) (by decide)) ?_) | (with_reducible refine w_mulI (cmulL (by decide) (by decide)) ?_) | (with_reducible refine w_powI (cpowL (by decide) (by decide) (by decide)) ?_) | (with_reducible refine ⟨fun h => absurd h (by decide), fun _ => ?_⟩) | (with_reducible refine ⟨fun _ => ?_, fun h => absurd h (by decide)⟩))
      refine w_fin00 (.inl rfl) rfl ?_
      simp only [costOf, valOf, Int.add_zero] at h
      exact h
theorem steps_cost_spec {n : Nat} {sts : List St} (hn : 3 ≤ n) (hs : StsOK ws.length sts)
    (h : Q (.tup ((costs ws sts).map .int)) φ) : wR (F_steps_cost n [.tup (sts.map St.pv), .tup (ws.map .int)] φ) Q := by
  obtain ⟨n, rfl, hf⟩ := fuel hn
  have hsl : sizeLine = 16777216 := rfl
  refine w_fun' rfl ?_
  unfold B_steps_cost
  repeat (first | refine Wp.imp ?_ | (with_reducible refine w_modI (by decide) ?_) | (with_reducible refine w_mulI (cmulR (by decide) (by decide)) ?_) | (with_reducible refine w_mulI (cmulL (by decide) (by decide)) ?_) | (with_reducible refine w_powI (cpowL (by decide) (by decide) (by decide)) ?_) | (with_reducible refine ⟨fun h => absurd h (by decide), fun _ => ?_⟩) | (with_reducible refine ⟨fun _ => ?_, fun h => absurd h (by decide)⟩))
  refine w_for (fun k ρ φ' => φ' = φ ++ [.lst ((costs ws (sts.take k)).map .int)] ∧ ∃ y, ρ = [some (.tup (sts.map St.pv)), some (.tup (ws.map .int)), some (.loc φ.length), y]) ?_
  repeat (first | refine Wp.imp ?_ | (with_reducible refine w_modI (by decide) ?_) | (with_reducible refine w_mulI (cmulR (by decide) (by decide)) ?_) | (with_reducible refine w_mulI (cmulL (by decide) (by decide)) ?_) | (with_reducible refine w_powI (cpowL (by decide) (by decide) (by decide)) ?_) | (with_reducible refine ⟨fun h => absurd h (by decide), fun _ => ?_⟩) | (with_reducible refine ⟨fun _ => ?_, fun h => absurd h (by decide)⟩))
  refine ⟨stillP_none, ⟨rfl, _, rfl⟩, ?_, ?_⟩
  · rintro k x ρ φ' hx ⟨rfl, y, rfl⟩
    simp only [List.getElem?_map, Option.map_eq_some_iff] at hx
    obtain ⟨s, hs', rfl⟩ := hx
    have hk := (List.getElem?_eq_some_iff.mp hs').1
    have hle : (costs ws (sts.take k)).length = k := by rw [costs_len]; simp; omega
    repeat (first | refine Wp.imp ?_ | (with_reducible refine w_modI (by decide) ?_) | (with_reducible refine w_mulI (cmulR (by decide) (by decide)) ?_) | (with_reducible refine w_mulI (cmulL (by decide) (by decide)) ?_) | (with_reducible refine w_powI (cpowL (by decide) (by decide) (by decide)) ?_) | (with_reducible refine ⟨fun h => absurd h (by decide), fun _ => ?_⟩) | (with_reducible refine ⟨fun _ => ?_, fun h => absurd h (by decide)⟩))
    refine step_cost_spec hf (by rw [hle]; exact hs.2 k s hs') rfl (by simp) ?_
    repeat (first | refine Wp.imp ?_ | (with_reducible refine w_modI (by decide) ?_) | (with_reducible refine w_mulI (cmulR (by decide) (by decide)) ?_) | (with_reducible refine w_mulI (cmulL (by decide) (by decide)) ?_) | (with_reducible refine w_powI (cpowL (by decide) (by decide) (by decide)) ?_) | (with_reducible refine ⟨fun h => absurd h (by decide), fun _ => ?_⟩) | (with_reducible refine ⟨fun _ => ?_, fun h => absurd h (by decide)⟩))
    refine ⟨by have := hs.1; simp [hle]; omega, stillP_none, ?_, _, rfl⟩
    rw [take_succ_eq hs', costs_snoc]; simp
  · rintro ρ φ' ⟨rfl, y, rfl⟩
    have e : sts.take (sts.map St.pv).length = sts := List.take_of_length_le (by simp)
    repeat (first | refine Wp.imp ?_ | (with_reducible refine w_modI (by decide) ?_) | (with_reducible refine w_mulI (cmulR (by decide) (by decide)) ?_) | (with_reducible refine w_mulI (cmulL (by decide) (by decide)) ?_) | (with_reducible refine w_powI (cpowL (by decide) (by decide) (by decide)) ?_) | (with_reducible refine ⟨fun h => absurd h (by decide), fun _ => ?_⟩) | (with_reducible refine ⟨fun _ => ?_, fun h => absurd h (by decide)⟩))
    show wR (finM Mode.cut φ (PV.tup ((costs ws (sts.take (sts.map St.pv).length)).map .int)) (φ ++ [Cell.lst ((costs ws (sts.take (sts.map St.pv).length)).map .int)])) Q
    rw [e]
    exact w_fin0 (.inl rfl) (by simp only [below]; exact belows_ints _ _) h
/-- the law's own costs -/
theorem b_costs_spec {n : Nat} {sts : List St} {u w : PV} (hn : 1 ≤ n) (hs : StsOK ws.length sts) (hu : ∀ χ, itemsOf (φ ++ χ) u = some (sts.map St.pv)) (hg : ∀ χ, stillP (guardOf u) (sts.map St.pv) (φ ++ χ)) (hw : ∀ χ, seqOf (φ ++ χ) w = some (ws.map .int))
    (h : Q (.lst ((costs ws sts).map .int)) φ) : wR (F__law_b_costs n [u, w] φ) Q := by
  obtain ⟨n, rfl, hf⟩ := fuel hn
  have hsl : sizeLine = 16777216 := rfl
  refine w_fun' rfl ?_
  unfold B__law_b_costs
  repeat (first | refine Wp.imp ?_ | (with_reducible refine w_modI (by decide) ?_) | (with_reducible refine w_mulI (cmulR (by decide) (by decide)) ?_) | (with_reducible refine w_mulI (cmulL (by decide) (by decide)) ?_) | (with_reducible refine w_powI (cpowL (by decide) (by decide) (by decide)) ?_) | (with_reducible refine ⟨fun h => absurd h (by decide), fun _ => ?_⟩) | (with_reducible refine ⟨fun _ => ?_, fun h => absurd h (by decide)⟩))
  refine w_for (fun k ρ φ' => φ' = φ ++ [.lst ((costs ws (sts.take k)).map .int)] ∧ ∃ y1 y2, ρ = [some u, some w, some (.loc φ.length), y1, y2]) ?_
  repeat (first | refine Wp.imp ?_ | (with_reducible refine w_modI (by decide) ?_) | (with_reducible refine w_mulI (cmulR (by decide) (by decide)) ?_) | (with_reducible refine w_mulI (cmulL (by decide) (by decide)) ?_) | (with_reducible refine w_powI (cpowL (by decide) (by decide) (by decide)) ?_) | (with_reducible refine ⟨fun h => absurd h (by decide), fun _ => ?_⟩) | (with_reducible refine ⟨fun _ => ?_, fun h => absurd h (by decide)⟩))
  refine ⟨_, hu _, hg _, ⟨rfl, _, _, rfl⟩, ?_, ?_⟩
  · rintro k x ρ φ' hx ⟨rfl, y1, y2, rfl⟩
    simp only [List.getElem?_map, Option.map_eq_some_iff] at hx
    obtain ⟨s, hs', rfl⟩ := hx
    have hk := (List.getElem?_eq_some_iff.mp hs').1
    have hle : (costs ws (sts.take k)).length = k := by rw [costs_len]; simp; omega
    have hso := hs.2 k s hs'
    have psh : ∀ c : Int, c = costOf ws (costs ws (sts.take k)) s → ((costs ws (sts.take k)).map PV.int).length < sizeLine ∧ stillP (guardOf u) (sts.map St.pv) (φ ++ [.lst ((costs ws (sts.take k)).map .int ++ [.int c])]) ∧ φ ++ [Cell.lst ((costs ws (sts.take k)).map .int ++ [.int c])] = φ ++ [Cell.lst ((costs ws (sts.take (k + 1))).map .int)] := fun c hc =>
      ⟨by have := hs.1; simp [hle]; omega, hg _, by rw [take_succ_eq hs', costs_snoc, hc]; simp⟩
    have comp : ∀ {m : Bool} {ρ : PL.Env} {e : PX} {Q' : PV → PHeap → Prop} (is : List Nat) (f : Option PV → PL.Env), (∀ i ∈ is, i < k) → is.length ≤ 1000 → True := fun _ _ _ _ => trivial
    cases s with
    | refl t =>
      simp only [St.pv, wRefl] at *
      repeat (first | refine Wp.imp ?_ | (with_reducible refine w_modI (by decide) ?_) | (with_reducible refine w_mulI (cmulR (by decide) (by decide)) ?_) | (with_reducible refine w_mulI (cmulL (by decide) (by decide)) ?_) | (with_reducible refine w_powI (cpowL (by decide) (by decide) (by decide)) ?_) | (with_reducible refine ⟨fun h => absurd h (by decide), fun _ => ?_⟩) | (with_reducible refine ⟨fun _ => ?_, fun h => absurd h (by decide)⟩))
      obtain ⟨p1, p2, p3⟩ := psh 0 (by simp [costOf, refsOf, valOf])
      exact ⟨p1, p2, p3, _, _, rfl⟩
    | cl p is =>
      simp only [St.pv, wCl]
      repeat (first | refine Wp.imp ?_ | (with_reducible refine w_modI (by decide) ?_) | (with_reducible refine w_mulI (cmulR (by decide) (by decide)) ?_) | (with_reducible refine w_mulI (cmulL (by decide) (by decide)) ?_) | (with_reducible refine w_powI (cpowL (by decide) (by decide) (by decide)) ?_) | (with_reducible refine ⟨fun h => absurd h (by decide), fun _ => ?_⟩) | (with_reducible refine ⟨fun _ => ?_, fun h => absurd h (by decide)⟩))
      refine get_ws (hso.2.2 p is rfl) (hw _) ?_
      repeat (first | refine Wp.imp ?_ | (with_reducible refine w_modI (by decide) ?_) | (with_reducible refine w_mulI (cmulR (by decide) (by decide)) ?_) | (with_reducible refine w_mulI (cmulL (by decide) (by decide)) ?_) | (with_reducible refine w_powI (cpowL (by decide) (by decide) (by decide)) ?_) | (with_reducible refine ⟨fun h => absurd h (by decide), fun _ => ?_⟩) | (with_reducible refine ⟨fun _ => ?_, fun h => absurd h (by decide)⟩))
      refine w_lcF (fun _ => true) (pick (costs ws (sts.take k))) ?_
      repeat (first | refine Wp.imp ?_ | (with_reducible refine w_modI (by decide) ?_) | (with_reducible refine w_mulI (cmulR (by decide) (by decide)) ?_) | (with_reducible refine w_mulI (cmulL (by decide) (by decide)) ?_) | (with_reducible refine w_powI (cpowL (by decide) (by decide) (by decide)) ?_) | (with_reducible refine ⟨fun h => absurd h (by decide), fun _ => ?_⟩) | (with_reducible refine ⟨fun _ => ?_, fun h => absurd h (by decide)⟩))
      refine ⟨stillP_none, by have := hso.2.1; simp [refsOf] at this ⊢; omega, ?_, ?_, ?_⟩
      · intro x hx
        repeat (first | refine Wp.imp ?_ | (with_reducible refine w_modI (by decide) ?_) | (with_reducible refine w_mulI (cmulR (by decide) (by decide)) ?_) | (with_reducible refine w_mulI (cmulL (by decide) (by decide)) ?_) | (with_reducible refine w_powI (cpowL (by decide) (by decide) (by decide)) ?_) | (with_reducible refine ⟨fun h => absurd h (by decide), fun _ => ?_⟩) | (with_reducible refine ⟨fun _ => ?_, fun h => absurd h (by decide)⟩))
        exact ⟨rfl, rfl⟩
      · intro x hx _
        obtain ⟨i, hi, rfl⟩ := List.mem_map.mp hx
        repeat (first | refine Wp.imp ?_ | (with_reducible refine w_modI (by decide) ?_) | (with_reducible refine w_mulI (cmulR (by decide) (by decide)) ?_) | (with_reducible refine w_mulI (cmulL (by decide) (by decide)) ?_) | (with_reducible refine w_powI (cpowL (by decide) (by decide) (by decide)) ?_) | (with_reducible refine ⟨fun h => absurd h (by decide), fun _ => ?_⟩) | (with_reducible refine ⟨fun _ => ?_, fun h => absurd h (by decide)⟩))
        exact get_cs (by rw [hle]; exact hso.1 i hi) (by simp) ⟨rfl, rfl⟩
      · rw [map_nat_ints is (fun i => (costs ws (sts.take k))[i]?.getD 0) _ fun i _ => pick_nat _ i]
        repeat (first | refine Wp.imp ?_ | (with_reducible refine w_modI (by decide) ?_) | (with_reducible refine w_mulI (cmulR (by decide) (by decide)) ?_) | (with_reducible refine w_mulI (cmulL (by decide) (by decide)) ?_) | (with_reducible refine w_powI (cpowL (by decide) (by decide) (by decide)) ?_) | (with_reducible refine ⟨fun h => absurd h (by decide), fun _ => ?_⟩) | (with_reducible refine ⟨fun _ => ?_, fun h => absurd h (by decide)⟩))
        refine w_sum rfl (intsOf_map _) ?_
        repeat (first | refine Wp.imp ?_ | (with_reducible refine w_modI (by decide) ?_) | (with_reducible refine w_mulI (cmulR (by decide) (by decide)) ?_) | (with_reducible refine w_mulI (cmulL (by decide) (by decide)) ?_) | (with_reducible refine w_powI (cpowL (by decide) (by decide) (by decide)) ?_) | (with_reducible refine ⟨fun h => absurd h (by decide), fun _ => ?_⟩) | (with_reducible refine ⟨fun _ => ?_, fun h => absurd h (by decide)⟩))
        obtain ⟨p1, p2, p3⟩ := psh (ws[p]?.getD 0 + (is.map fun i => (costs ws (sts.take k))[i]?.getD 0).sum) (by simp only [costOf, refsOf, valOf]; omega)
        exact ⟨p1, p2, p3, _, _, rfl⟩
    | sym i =>
      simp only [St.pv, wSym]
      repeat (first | refine Wp.imp ?_ | (with_reducible refine w_modI (by decide) ?_) | (with_reducible refine w_mulI (cmulR (by decide) (by decide)) ?_) | (with_reducible refine w_mulI (cmulL (by decide) (by decide)) ?_) | (with_reducible refine w_powI (cpowL (by decide) (by decide) (by decide)) ?_) | (with_reducible refine ⟨fun h => absurd h (by decide), fun _ => ?_⟩) | (with_reducible refine ⟨fun _ => ?_, fun h => absurd h (by decide)⟩))
      refine w_lcF (fun _ => true) (pick (costs ws (sts.take k))) ?_
      repeat (first | refine Wp.imp ?_ | (with_reducible refine w_modI (by decide) ?_) | (with_reducible refine w_mulI (cmulR (by decide) (by decide)) ?_) | (with_reducible refine w_mulI (cmulL (by decide) (by decide)) ?_) | (with_reducible refine w_powI (cpowL (by decide) (by decide) (by decide)) ?_) | (with_reducible refine ⟨fun h => absurd h (by decide), fun _ => ?_⟩) | (with_reducible refine ⟨fun _ => ?_, fun h => absurd h (by decide)⟩))
      refine ⟨stillP_none, by simp [sizeLine], ?_, ?_, ?_⟩
      · intro x hx
        repeat (first | refine Wp.imp ?_ | (with_reducible refine w_modI (by decide) ?_) | (with_reducible refine w_mulI (cmulR (by decide) (by decide)) ?_) | (with_reducible refine w_mulI (cmulL (by decide) (by decide)) ?_) | (with_reducible refine w_powI (cpowL (by decide) (by decide) (by decide)) ?_) | (with_reducible refine ⟨fun h => absurd h (by decide), fun _ => ?_⟩) | (with_reducible refine ⟨fun _ => ?_, fun h => absurd h (by decide)⟩))
        exact ⟨rfl, rfl⟩
      · intro x hx _
        obtain ⟨i, hi, rfl⟩ := List.mem_map.mp (show x ∈ [i].map nat from hx)
        repeat (first | refine Wp.imp ?_ | (with_reducible refine w_modI (by decide) ?_) | (with_reducible refine w_mulI (cmulR (by decide) (by decide)) ?_) | (with_reducible refine w_mulI (cmulL (by decide) (by decide)) ?_) | (with_reducible refine w_powI (cpowL (by decide) (by decide) (by decide)) ?_) | (with_reducible refine ⟨fun h => absurd h (by decide), fun _ => ?_⟩) | (with_reducible refine ⟨fun _ => ?_, fun h => absurd h (by decide)⟩))
        exact get_cs (by rw [hle]; exact hso.1 i hi) (by simp) ⟨rfl, rfl⟩
      · refine wR.mono (w_mkF ?_) fun _ _ q => q
        rw [show [nat i] = [i].map nat from rfl, map_nat_ints [i] (fun i => (costs ws (sts.take k))[i]?.getD 0) _ fun i _ => pick_nat _ i]
        repeat (first | refine Wp.imp ?_ | (with_reducible refine w_modI (by decide) ?_) | (with_reducible refine w_mulI (cmulR (by decide) (by decide)) ?_) | (with_reducible refine w_mulI (cmulL (by decide) (by decide)) ?_) | (with_reducible refine w_powI (cpowL (by decide) (by decide) (by decide)) ?_) | (with_reducible refine ⟨fun h => absurd h (by decide), fun _ => ?_⟩) | (with_reducible refine ⟨fun _ => ?_, fun h => absurd h (by decide)⟩))
        refine w_sum rfl (intsOf_map _) ?_
        repeat (first | refine Wp.imp ?_ | (with_reducible refine w_modI (by decide) ?_) | (with_reducible refine w_mulI (cmulR (by decide) (by decide)) ?_) | (with_reducible refine w_mulI (cmulL (by decide) (by decide)) ?_) | (with_reducible refine w_powI (cpowL (by decide) (by decide) (by decide)) ?_) | (with_reducible refine ⟨fun h => absurd h (by decide), fun _ => ?_⟩) | (with_reducible refine ⟨fun _ => ?_, fun h => absurd h (by decide)⟩))
        obtain ⟨p1, p2, p3⟩ := psh (([i] : List Nat).map fun i => (costs ws (sts.take k))[i]?.getD 0).sum (by simp only [costOf, refsOf, valOf, Int.add_zero])
        exact ⟨p1, p2, p3, _, _, rfl⟩
    | trans i j =>
      simp only [St.pv, wTr]
      repeat (first | refine Wp.imp ?_ | (with_reducible refine w_modI (by decide) ?_) | (with_reducible refine w_mulI (cmulR (by decide) (by decide)) ?_) | (with_reducible refine w_mulI (cmulL (by decide) (by decide)) ?_) | (with_reducible refine w_powI (cpowL (by decide) (by decide) (by decide)) ?_) | (with_reducible refine ⟨fun h => absurd h (by decide), fun _ => ?_⟩) | (with_reducible refine ⟨fun _ => ?_, fun h => absurd h (by decide)⟩))
      refine w_lcF (fun _ => true) (pick (costs ws (sts.take k))) ?_
      repeat (first | refine Wp.imp ?_ | (with_reducible refine w_modI (by decide) ?_) | (with_reducible refine w_mulI (cmulR (by decide) (by decide)) ?_) | (with_reducible refine w_mulI (cmulL (by decide) (by decide)) ?_) | (with_reducible refine w_powI (cpowL (by decide) (by decide) (by decide)) ?_) | (with_reducible refine ⟨fun h => absurd h (by decide), fun _ => ?_⟩) | (with_reducible refine ⟨fun _ => ?_, fun h => absurd h (by decide)⟩))
      refine ⟨stillP_none, by simp [sizeLine], ?_, ?_, ?_⟩
      · intro x hx
        repeat (first | refine Wp.imp ?_ | (with_reducible refine w_modI (by decide) ?_) | (with_reducible refine w_mulI (cmulR (by decide) (by decide)) ?_) | (with_reducible refine w_mulI (cmulL (by decide) (by decide)) ?_) | (with_reducible refine w_powI (cpowL (by decide) (by decide) (by decide)) ?_) | (with_reducible refine ⟨fun h => absurd h (by decide), fun _ => ?_⟩) | (with_reducible refine ⟨fun _ => ?_, fun h => absurd h (by decide)⟩))
        exact ⟨rfl, rfl⟩
      · intro x hx _
        obtain ⟨i, hi, rfl⟩ := List.mem_map.mp (show x ∈ [i, j].map nat from hx)
        repeat (first | refine Wp.imp ?_ | (with_reducible refine w_modI (by decide) ?_) | (with_reducible refine w_mulI (cmulR (by decide) (by decide)) ?_) | (with_reducible refine w_mulI (cmulL (by decide) (by decide)) ?_) | (with_reducible refine w_powI (cpowL (by decide) (by decide) (by decide)) ?_) | (with_reducible refine ⟨fun h => absurd h (by decide), fun _ => ?_⟩) | (with_reducible refine ⟨fun _ => ?_, fun h => absurd h (by decide)⟩))
        exact get_cs (by rw [hle]; exact hso.1 i hi) (by simp) ⟨rfl, rfl⟩
      · refine wR.mono (w_mkF ?_) fun _ _ q => q
        rw [show [nat i, nat j] = [i, j].map nat from rfl, map_nat_ints [i, j] (fun i => (costs ws (sts.take k))[i]?.getD 0) _ fun i _ => pick_nat _ i]
        repeat (first | refine Wp.imp ?_ | (with_reducible refine w_modI (by decide) ?_) | (with_reducible refine w_mulI (cmulR (by decide) (by decide)) ?_) | (with_reducible refine w_mulI (cmulL (by decide) (by decide)) ?_) | (with_reducible refine w_powI (cpowL (by decide) (by decide) (by decide)) ?_) | (with_reducible refine ⟨fun h => absurd h (by decide), fun _ => ?_⟩) | (with_reducible refine ⟨fun _ => ?_, fun h => absurd h (by decide)⟩))
        refine w_sum rfl (intsOf_map _) ?_
        repeat (first | refine Wp.imp ?_ | (with_reducible refine w_modI (by decide) ?_) | (with_reducible refine w_mulI (cmulR (by decide) (by decide)) ?_) | (with_reducible refine w_mulI (cmulL (by decide) (by decide)) ?_) | (with_reducible refine w_powI (cpowL (by decide) (by decide) (by decide)) ?_) | (with_reducible refine ⟨fun h => absurd h (by decide), fun _ => ?_⟩) | (with_reducible refine ⟨fun _ => ?_, fun h => absurd h (by decide)⟩))
        obtain ⟨p1, p2, p3⟩ := psh (([i, j] : List Nat).map fun i => (costs ws (sts.take k))[i]?.getD 0).sum (by simp only [costOf, refsOf, valOf, Int.add_zero])
        exact ⟨p1, p2, p3, _, _, rfl⟩
    | cong i j =>
      simp only [St.pv, wCong]
      repeat (first | refine Wp.imp ?_ | (with_reducible refine w_modI (by decide) ?_) | (with_reducible refine w_mulI (cmulR (by decide) (by decide)) ?_) | (with_reducible refine w_mulI (cmulL (by decide) (by decide)) ?_) | (with_reducible refine w_powI (cpowL (by decide) (by decide) (by decide)) ?_) | (with_reducible refine ⟨fun h => absurd h (by decide), fun _ => ?_⟩) | (with_reducible refine ⟨fun _ => ?_, fun h => absurd h (by decide)⟩))
      refine w_lcF (fun _ => true) (pick (costs ws (sts.take k))) ?_
      repeat (first | refine Wp.imp ?_ | (with_reducible refine w_modI (by decide) ?_) | (with_reducible refine w_mulI (cmulR (by decide) (by decide)) ?_) | (with_reducible refine w_mulI (cmulL (by decide) (by decide)) ?_) | (with_reducible refine w_powI (cpowL (by decide) (by decide) (by decide)) ?_) | (with_reducible refine ⟨fun h => absurd h (by decide), fun _ => ?_⟩) | (with_reducible refine ⟨fun _ => ?_, fun h => absurd h (by decide)⟩))
      refine ⟨stillP_none, by simp [sizeLine], ?_, ?_, ?_⟩
      · intro x hx
        repeat (first | refine Wp.imp ?_ | (with_reducible refine w_modI (by decide) ?_) | (with_reducible refine w_mulI (cmulR (by decide) (by decide)) ?_) | (with_reducible refine w_mulI (cmulL (by decide) (by decide)) ?_) | (with_reducible refine w_powI (cpowL (by decide) (by decide) (by decide)) ?_) | (with_reducible refine ⟨fun h => absurd h (by decide), fun _ => ?_⟩) | (with_reducible refine ⟨fun _ => ?_, fun h => absurd h (by decide)⟩))
        exact ⟨rfl, rfl⟩
      · intro x hx _
        obtain ⟨i, hi, rfl⟩ := List.mem_map.mp (show x ∈ [i, j].map nat from hx)
        repeat (first | refine Wp.imp ?_ | (with_reducible refine w_modI (by decide) ?_) | (with_reducible refine w_mulI (cmulR (by decide) (by decide)) ?_) | (with_reducible refine w_mulI (cmulL (by decide) (by decide)) ?_) | (with_reducible refine w_powI (cpowL (by decide) (by decide) (by decide)) ?_) | (with_reducible refine ⟨fun h => absurd h (by decide), fun _ => ?_⟩) | (with_reducible refine ⟨fun _ => ?_, fun h => absurd h (by decide)⟩))
        exact get_cs (by rw [hle]; exact hso.1 i hi) (by simp) ⟨rfl, rfl⟩
      · refine wR.mono (w_mkF ?_) fun _ _ q => q
        rw [show [nat i, nat j] = [i, j].map nat from rfl, map_nat_ints [i, j] (fun i => (costs ws (sts.take k))[i]?.getD 0) _ fun i _ => pick_nat _ i]
        repeat (first | refine Wp.imp ?_ | (with_reducible refine w_modI (by decide) ?_) | (with_reducible refine w_mulI (cmulR (by decide) (by decide)) ?_) | (with_reducible refine w_mulI (cmulL (by decide) (by decide)) ?_) | (with_reducible refine w_powI (cpowL (by decide) (by decide) (by decide)) ?_) | (with_reducible refine ⟨fun h => absurd h (by decide), fun _ => ?_⟩) | (with_reducible refine ⟨fun _ => ?_, fun h => absurd h (by decide)⟩))
        refine w_sum rfl (intsOf_map _) ?_
        repeat (first | refine Wp.imp ?_ | (with_reducible refine w_modI (by decide) ?_) | (with_reducible refine w_mulI (cmulR (by decide) (by decide)) ?_) | (with_reducible refine w_mulI (cmulL (by decide) (by decide)) ?_) | (with_reducible refine w_powI (cpowL (by decide) (by decide) (by decide)) ?_) | (with_reducible refine ⟨fun h => absurd h (by decide), fun _ => ?_⟩) | (with_reducible refine ⟨fun _ => ?_, fun h => absurd h (by decide)⟩))
        obtain ⟨p1, p2, p3⟩ := psh (([i, j] : List Nat).map fun i => (costs ws (sts.take k))[i]?.getD 0).sum (by simp only [costOf, refsOf, valOf, Int.add_zero])
        exact ⟨p1, p2, p3, _, _, rfl⟩
  · rintro ρ φ' ⟨rfl, y1, y2, rfl⟩
    have e : sts.take (sts.map St.pv).length = sts := List.take_of_length_le (by simp)
    repeat (first | refine Wp.imp ?_ | (with_reducible refine w_modI (by decide) ?_) | (with_reducible refine w_mulI (cmulR (by decide) (by decide)) ?_) | (with_reducible refine w_mulI (cmulL (by decide) (by decide)) ?_) | (with_reducible refine w_powI (cpowL (by decide) (by decide) (by decide)) ?_) | (with_reducible refine ⟨fun h => absurd h (by decide), fun _ => ?_⟩) | (with_reducible refine ⟨fun _ => ?_, fun h => absurd h (by decide)⟩))
    refine w_cutL (xs := (costs ws sts).map .int) (Nat.le_refl _) ?_ (belows_ints _ _) h
    show (φ ++ [Cell.lst ((costs ws (sts.take (sts.map St.pv).length)).map .int)])[φ.length]? = _
    rw [e]; simp
theorem same_int {n : Nat} (hn : 1 ≤ n) {i : Int} (h : Q (.bl true) φ) : wR (F__law_same n [.int i, .int i] φ) Q := by
  obtain ⟨n, rfl, hf⟩ := fuel hn
  refine w_fun' rfl ?_
  repeat (first | refine Wp.imp ?_ | (with_reducible refine w_modI (by decide) ?_) | (with_reducible refine w_mulI (cmulR (by decide) (by decide)) ?_) | (with_reducible refine w_mulI (cmulL (by decide) (by decide)) ?_) | (with_reducible refine w_powI (cpowL (by decide) (by decide) (by decide)) ?_) | (with_reducible refine ⟨fun h => absurd h (by decide), fun _ => ?_⟩) | (with_reducible refine ⟨fun _ => ?_, fun h => absurd h (by decide)⟩))
  rw [decide_eq_true rfl]
  exact w_fin00 (.inl rfl) rfl h
theorem same_spec {n : Nat} (hn : 2 ≤ n) {is : List Int} (hl : is.length ≤ 1000) (h : Q (.bl true) φ) : wR (F__law_same n [.tup (is.map .int), .tup (is.map .int)] φ) Q := by
  obtain ⟨n, rfl, hf⟩ := fuel hn
  have hsl : sizeLine = 16777216 := rfl
  refine w_fun' rfl ?_
  repeat (first | refine Wp.imp ?_ | (with_reducible refine w_modI (by decide) ?_) | (with_reducible refine w_mulI (cmulR (by decide) (by decide)) ?_) | (with_reducible refine w_mulI (cmulL (by decide) (by decide)) ?_) | (with_reducible refine w_powI (cpowL (by decide) (by decide) (by decide)) ?_) | (with_reducible refine ⟨fun h => absurd h (by decide), fun _ => ?_⟩) | (with_reducible refine ⟨fun _ => ?_, fun h => absurd h (by decide)⟩))
  refine ⟨fun hq => absurd hq (by rw [decide_eq_true rfl]; decide), fun _ => ?_⟩
  repeat (first | refine Wp.imp ?_ | (with_reducible refine w_modI (by decide) ?_) | (with_reducible refine w_mulI (cmulR (by decide) (by decide)) ?_) | (with_reducible refine w_mulI (cmulL (by decide) (by decide)) ?_) | (with_reducible refine w_powI (cpowL (by decide) (by decide) (by decide)) ?_) | (with_reducible refine ⟨fun h => absurd h (by decide), fun _ => ?_⟩) | (with_reducible refine ⟨fun _ => ?_, fun h => absurd h (by decide)⟩))
  refine w_lcM (fun v => v = .bl true) ?_
  repeat (first | refine Wp.imp ?_ | (with_reducible refine w_modI (by decide) ?_) | (with_reducible refine w_mulI (cmulR (by decide) (by decide)) ?_) | (with_reducible refine w_mulI (cmulL (by decide) (by decide)) ?_) | (with_reducible refine w_powI (cpowL (by decide) (by decide) (by decide)) ?_) | (with_reducible refine ⟨fun h => absurd h (by decide), fun _ => ?_⟩) | (with_reducible refine ⟨fun _ => ?_, fun h => absurd h (by decide)⟩))
  refine ⟨by unfold smallI; simp; omega, stillP_none, by rw [intsFrom_length]; simp; omega, ?_, ?_⟩
  · intro x hx
    obtain ⟨k, hk, rfl⟩ := intsFrom_mem hx
    have hk' : k < is.length := by simpa using hk
    have g : pyIx (is.map PV.int) (0 + (k : Int)) = some (.int is[k]) := pyIx_nat (by omega) (by simp [List.getElem?_eq_getElem hk'])
    repeat (first | refine Wp.imp ?_ | (with_reducible refine w_modI (by decide) ?_) | (with_reducible refine w_mulI (cmulR (by decide) (by decide)) ?_) | (with_reducible refine w_mulI (cmulL (by decide) (by decide)) ?_) | (with_reducible refine w_powI (cpowL (by decide) (by decide) (by decide)) ?_) | (with_reducible refine ⟨fun h => absurd h (by decide), fun _ => ?_⟩) | (with_reducible refine ⟨fun _ => ?_, fun h => absurd h (by decide)⟩))
    refine ⟨rfl, fun _ => ?_⟩
    repeat (first | refine Wp.imp ?_ | (with_reducible refine w_modI (by decide) ?_) | (with_reducible refine w_mulI (cmulR (by decide) (by decide)) ?_) | (with_reducible refine w_mulI (cmulL (by decide) (by decide)) ?_) | (with_reducible refine w_powI (cpowL (by decide) (by decide) (by decide)) ?_) | (with_reducible refine ⟨fun h => absurd h (by decide), fun _ => ?_⟩) | (with_reducible refine ⟨fun _ => ?_, fun h => absurd h (by decide)⟩))
    refine w_ixT g ?_
    repeat (first | refine Wp.imp ?_ | (with_reducible refine w_modI (by decide) ?_) | (with_reducible refine w_mulI (cmulR (by decide) (by decide)) ?_) | (with_reducible refine w_mulI (cmulL (by decide) (by decide)) ?_) | (with_reducible refine w_powI (cpowL (by decide) (by decide) (by decide)) ?_) | (with_reducible refine ⟨fun h => absurd h (by decide), fun _ => ?_⟩) | (with_reducible refine ⟨fun _ => ?_, fun h => absurd h (by decide)⟩))
    refine w_ixT g ?_
    repeat (first | refine Wp.imp ?_ | (with_reducible refine w_modI (by decide) ?_) | (with_reducible refine w_mulI (cmulR (by decide) (by decide)) ?_) | (with_reducible refine w_mulI (cmulL (by decide) (by decide)) ?_) | (with_reducible refine w_powI (cpowL (by decide) (by decide) (by decide)) ?_) | (with_reducible refine ⟨fun h => absurd h (by decide), fun _ => ?_⟩) | (with_reducible refine ⟨fun _ => ?_, fun h => absurd h (by decide)⟩))
    exact same_int hf ⟨rfl, rfl⟩
  · intro vs _ hv
    repeat (first | refine Wp.imp ?_ | (with_reducible refine w_modI (by decide) ?_) | (with_reducible refine w_mulI (cmulR (by decide) (by decide)) ?_) | (with_reducible refine w_mulI (cmulL (by decide) (by decide)) ?_) | (with_reducible refine w_powI (cpowL (by decide) (by decide) (by decide)) ?_) | (with_reducible refine ⟨fun h => absurd h (by decide), fun _ => ?_⟩) | (with_reducible refine ⟨fun _ => ?_, fun h => absurd h (by decide)⟩))
    refine w_allTrue hv ?_
    exact w_fin00 (.inl rfl) rfl h
end
end T

namespace T
open PySem PL L2
theorem Run.snoc {cls : List Cl} {sts : List St} {ds : Ds} {s : St} {r : Option Eqn} (h : Run cls sts ds) (ho : Ok cls ds s r) : Run cls (sts ++ [s]) (ds ++ [r]) := by
  refine ⟨by simp [h.1], fun k s' r' h1 h2 => ?_⟩
  by_cases hk : k < ds.length
  · rw [List.getElem?_append_left (by rw [h.1]; exact hk)] at h1
    rw [List.getElem?_append_left hk] at h2
    rw [List.take_append_of_le_length (by omega)]
    exact h.2 k s' r' h1 h2
  · have hk2 : k = ds.length := by
      have := (List.getElem?_eq_some_iff.mp h2).1
      simp at this; omega
    subst hk2
    rw [← h.1, List.getElem?_append_right (Nat.le_refl _)] at h1
    rw [List.getElem?_append_right (Nat.le_refl _)] at h2
    simp at h1 h2
    subst h1; subst h2
    rw [List.take_left]; exact ho
theorem Ok.stOK {cls : List Cl} {ds : Ds} {s : St} {r : Option Eqn} (hc : ClsOK cls) (h : Ok cls ds s r) : StOK cls.length ds.length s := by
  have lt : ∀ {i : Nat} {e : Option Eqn}, ds[i]? = some e → i < ds.length := fun h => (List.getElem?_eq_some_iff.mp h).1
  cases h with
  | refl h1 h2 => exact ⟨by simp [refsOf], by simp [refsOf], fun p is e => by cases e⟩
  | sym h1 => exact ⟨by simp [refsOf, lt h1], by simp [refsOf], fun p is e => by cases e⟩
  | trans h1 h2 => exact ⟨by simp [refsOf, lt h1, lt h2], by simp [refsOf], fun p is e => by cases e⟩
  | cong h1 h2 _ _ => exact ⟨by simp [refsOf, lt h1, lt h2], by simp [refsOf], fun p is e => by cases e⟩
  | @cl p is c h1 h2 h3 =>
    have hcl := hc.2 c (List.mem_of_getElem? h1)
    refine ⟨fun i hi => ?_, ?_, fun p' is' e => ?_⟩
    · obtain ⟨k, hk⟩ := List.getElem?_of_mem (show i ∈ is from hi)
      have hk' := (List.getElem?_eq_some_iff.mp hk).1
      exact lt (h3 k i _ hk (List.getElem?_eq_getElem (by omega)))
    · have := hcl.1; simp only [refsOf]; omega
    · cases e; exact (List.getElem?_eq_some_iff.mp h1).1
theorem Run.stsOK {cls : List Cl} {sts : List St} {ds : Ds} (hc : ClsOK cls) (h : Run cls sts ds) (hl : sts.length ≤ 1000) : StsOK cls.length sts := by
  refine ⟨hl, fun k s hs => ?_⟩
  have hk := (List.getElem?_eq_some_iff.mp hs).1
  have hk' : k < ds.length := by rw [← h.1]; exact hk
  have := (h.2 k s _ hs (List.getElem?_eq_getElem hk')).stOK hc
  rwa [List.length_take, Nat.min_eq_left (by omega)] at this
theorem StsOK.take {n : Nat} {sts : List St} (h : StsOK n sts) (m : Nat) : StsOK n (sts.take m) := by
  refine ⟨by have := h.1; simp; omega, fun k s hs => ?_⟩
  rw [List.getElem?_take] at hs
  split at hs
  · exact h.2 k s hs
  · cases hs
section
variable {Q : PV → PHeap → Prop}
theorem held_spec {n : Nat} (hn : 75 ≤ n) {t : Cell} (ht : TapeOK t) (h : ∀ t', Q (.bl true) [t']) : wR (F__law_b34_held n [.loc 0] [t]) Q := by
  obtain ⟨n, rfl, hf⟩ := fuel hn
  have hsl : sizeLine = 16777216 := rfl
  refine w_fun' rfl ?_
  unfold B__law_b34_held
  repeat (first | refine Wp.imp ?_ | (with_reducible refine w_modI (by decide) ?_) | (with_reducible refine w_mulI (cmulR (by decide) (by decide)) ?_) | (with_reducible refine w_mulI (cmulL (by decide) (by decide)) ?_) | (with_reducible refine w_powI (cpowL (by decide) (by decide) (by decide)) ?_) | (with_reducible refine ⟨fun h => absurd h (by decide), fun _ => ?_⟩) | (with_reducible refine ⟨fun _ => ?_, fun h => absurd h (by decide)⟩))
  refine draw_spec (by omega) ht (by decide) fun r1 t1 ht1 a1 b1 => ?_
  repeat (first | refine Wp.imp ?_ | (with_reducible refine w_modI (by decide) ?_) | (with_reducible refine w_mulI (cmulR (by decide) (by decide)) ?_) | (with_reducible refine w_mulI (cmulL (by decide) (by decide)) ?_) | (with_reducible refine w_powI (cpowL (by decide) (by decide) (by decide)) ?_) | (with_reducible refine ⟨fun h => absurd h (by decide), fun _ => ?_⟩) | (with_reducible refine ⟨fun _ => ?_, fun h => absurd h (by decide)⟩))
  refine names_spec (by omega) ht1 (by omega) (by omega) fun ss t2 ht2 hsn hss => ?_
  repeat (first | refine Wp.imp ?_ | (with_reducible refine w_modI (by decide) ?_) | (with_reducible refine w_mulI (cmulR (by decide) (by decide)) ?_) | (with_reducible refine w_mulI (cmulL (by decide) (by decide)) ?_) | (with_reducible refine w_powI (cpowL (by decide) (by decide) (by decide)) ?_) | (with_reducible refine ⟨fun h => absurd h (by decide), fun _ => ?_⟩) | (with_reducible refine ⟨fun _ => ?_, fun h => absurd h (by decide)⟩))
  refine draw_spec (by omega) ht2 (by decide) fun r2 t3 ht3 a2 b2 => ?_
  repeat (first | refine Wp.imp ?_ | (with_reducible refine w_modI (by decide) ?_) | (with_reducible refine w_mulI (cmulR (by decide) (by decide)) ?_) | (with_reducible refine w_mulI (cmulL (by decide) (by decide)) ?_) | (with_reducible refine w_powI (cpowL (by decide) (by decide) (by decide)) ?_) | (with_reducible refine ⟨fun h => absurd h (by decide), fun _ => ?_⟩) | (with_reducible refine ⟨fun _ => ?_, fun h => absurd h (by decide)⟩))
  refine pool_spec (by omega) ht3 a2 (by omega) (by omega) (by intro e; rw [e] at hsn; simp at hsn; omega) hss fun p t4 ht4 hp => ?_
  repeat (first | refine Wp.imp ?_ | (with_reducible refine w_modI (by decide) ?_) | (with_reducible refine w_mulI (cmulR (by decide) (by decide)) ?_) | (with_reducible refine w_mulI (cmulL (by decide) (by decide)) ?_) | (with_reducible refine w_powI (cpowL (by decide) (by decide) (by decide)) ?_) | (with_reducible refine ⟨fun h => absurd h (by decide), fun _ => ?_⟩) | (with_reducible refine ⟨fun _ => ?_, fun h => absurd h (by decide)⟩))
  obtain ⟨x, hx, hxm⟩ := pyIx_lt (xs := p.map Tm.pv) (i := 0) (by decide) (by have := hp.pos; simp; omega)
  obtain ⟨a, ha, rfl⟩ := List.mem_map.mp hxm
  refine w_ixL hx ?_
  repeat (first | refine Wp.imp ?_ | (with_reducible refine w_modI (by decide) ?_) | (with_reducible refine w_mulI (cmulR (by decide) (by decide)) ?_) | (with_reducible refine w_mulI (cmulL (by decide) (by decide)) ?_) | (with_reducible refine w_powI (cpowL (by decide) (by decide) (by decide)) ?_) | (with_reducible refine ⟨fun h => absurd h (by decide), fun _ => ?_⟩) | (with_reducible refine ⟨fun _ => ?_, fun h => absurd h (by decide)⟩))
  obtain ⟨y, hy, hym⟩ := pyIx_lt (xs := p.map Tm.pv) (i := ((p.map Tm.pv).length : Int) - 1) (by have := hp.pos; simp; omega) (by omega)
  obtain ⟨b, hb, rfl⟩ := List.mem_map.mp hym
  refine w_ixL hy ?_
  repeat (first | refine Wp.imp ?_ | (with_reducible refine w_modI (by decide) ?_) | (with_reducible refine w_mulI (cmulR (by decide) (by decide)) ?_) | (with_reducible refine w_mulI (cmulL (by decide) (by decide)) ?_) | (with_reducible refine w_powI (cpowL (by decide) (by decide) (by decide)) ?_) | (with_reducible refine ⟨fun h => absurd h (by decide), fun _ => ?_⟩) | (with_reducible refine ⟨fun _ => ?_, fun h => absurd h (by decide)⟩))
  have sa := (hp.2.2 a ha).1
  have sb := (hp.2.2 b hb).1
  refine pair_spec (by omega) ht4 hp fun e t5 ht5 he => ?_
  repeat (first | refine Wp.imp ?_ | (with_reducible refine w_modI (by decide) ?_) | (with_reducible refine w_mulI (cmulR (by decide) (by decide)) ?_) | (with_reducible refine w_mulI (cmulL (by decide) (by decide)) ?_) | (with_reducible refine w_powI (cpowL (by decide) (by decide) (by decide)) ?_) | (with_reducible refine ⟨fun h => absurd h (by decide), fun _ => ?_⟩) | (with_reducible refine ⟨fun _ => ?_, fun h => absurd h (by decide)⟩))
  refine w_lc (fun k acc φ => ∃ (cs : List Cl) (t' : Cell), TapeOK t' ∧ φ = [t'] ∧ acc = cs.map clv ∧ cs.length ≤ k ∧ ∀ c ∈ cs, ClOK c) ?_
  repeat (first | refine Wp.imp ?_ | (with_reducible refine w_modI (by decide) ?_) | (with_reducible refine w_mulI (cmulR (by decide) (by decide)) ?_) | (with_reducible refine w_mulI (cmulL (by decide) (by decide)) ?_) | (with_reducible refine w_powI (cpowL (by decide) (by decide) (by decide)) ?_) | (with_reducible refine ⟨fun h => absurd h (by decide), fun _ => ?_⟩) | (with_reducible refine ⟨fun _ => ?_, fun h => absurd h (by decide)⟩))
  refine draw_spec (by omega) ht5 (by decide) fun r3 t6 ht6 a3 b3 => ?_
  repeat (first | refine Wp.imp ?_ | (with_reducible refine w_modI (by decide) ?_) | (with_reducible refine w_mulI (cmulR (by decide) (by decide)) ?_) | (with_reducible refine w_mulI (cmulL (by decide) (by decide)) ?_) | (with_reducible refine w_powI (cpowL (by decide) (by decide) (by decide)) ?_) | (with_reducible refine ⟨fun h => absurd h (by decide), fun _ => ?_⟩) | (with_reducible refine ⟨fun _ => ?_, fun h => absurd h (by decide)⟩))
  refine ⟨by unfold smallI; omega, stillP_none, by rw [intsFrom_length]; omega, ⟨[], t6, ht6, rfl, rfl, by simp, by simp⟩, ?_, ?_⟩
  · rintro k x acc φ' hx ⟨cs, t', ht', rfl, rfl, hl, hcs⟩ _
    repeat (first | refine Wp.imp ?_ | (with_reducible refine w_modI (by decide) ?_) | (with_reducible refine w_mulI (cmulR (by decide) (by decide)) ?_) | (with_reducible refine w_mulI (cmulL (by decide) (by decide)) ?_) | (with_reducible refine w_powI (cpowL (by decide) (by decide) (by decide)) ?_) | (with_reducible refine ⟨fun h => absurd h (by decide), fun _ => ?_⟩) | (with_reducible refine ⟨fun _ => ?_, fun h => absurd h (by decide)⟩))
    refine clause_spec (by omega) ht' hp fun c t'' ht'' hc => ?_
    exact ⟨stillP_none, cs ++ [c], t'', ht'', rfl, by simp, by simp; omega, fun x hx => (List.mem_append.mp hx).elim (hcs x) fun hx => by rw [List.mem_singleton.mp hx]; exact hc⟩
  rintro acc φ' ⟨cs, t7, ht7, rfl, rfl, hl, hcs⟩ _
  rw [intsFrom_length] at hl
  repeat (first | refine Wp.imp ?_ | (with_reducible refine w_modI (by decide) ?_) | (with_reducible refine w_mulI (cmulR (by decide) (by decide)) ?_) | (with_reducible refine w_mulI (cmulL (by decide) (by decide)) ?_) | (with_reducible refine w_powI (cpowL (by decide) (by decide) (by decide)) ?_) | (with_reducible refine ⟨fun h => absurd h (by decide), fun _ => ?_⟩) | (with_reducible refine ⟨fun _ => ?_, fun h => absurd h (by decide)⟩))
  refine w_addL (by simp; omega) ?_
  have hcls : ∃ cls : List Cl, cls = [([], some (a, b)), ([(a, b), (a, b)], some e)] ++ cs := ⟨_, rfl⟩
  obtain ⟨cls, hcls⟩ := hcls
  have ecls : [PV.tup [.tup [], .tup [a.pv, b.pv]], .tup [.tup [.tup [a.pv, b.pv], .tup [a.pv, b.pv]], eqv e]] ++ cs.map clv = cls.map clv := by rw [hcls]; rfl
  have hcl : ClsOK cls := by
    rw [hcls]
    refine ⟨by simp; omega, fun c hc => ?_⟩
    rcases List.mem_append.mp hc with hc | hc
    · simp only [List.mem_cons, List.not_mem_nil, or_false] at hc
      rcases hc with rfl | rfl
      · exact ⟨by simp, by simp, fun x hx => by cases hx; exact ⟨sa, sb⟩⟩
      · refine ⟨by simp, fun x hx => ?_, fun x hx => by cases hx; exact he⟩
        simp at hx; subst hx; exact ⟨sa, sb⟩
    · exact hcs c hc
  have cls0 : cls[0]? = some ([], some (a, b)) := by rw [hcls]; rfl
  have cls1 : cls[1]? = some ([(a, b), (a, b)], some e) := by rw [hcls]; rfl
  have clsn : cls ≠ [] := by rw [hcls]; simp
  rw [ecls]
  clear hcls ecls
  repeat (first | refine Wp.imp ?_ | (with_reducible refine w_modI (by decide) ?_) | (with_reducible refine w_mulI (cmulR (by decide) (by decide)) ?_) | (with_reducible refine w_mulI (cmulL (by decide) (by decide)) ?_) | (with_reducible refine w_powI (cpowL (by decide) (by decide) (by decide)) ?_) | (with_reducible refine ⟨fun h => absurd h (by decide), fun _ => ?_⟩) | (with_reducible refine ⟨fun _ => ?_, fun h => absurd h (by decide)⟩))
  refine w_lc (fun k acc φ => ∃ (ws : List Int) (t' : Cell), TapeOK t' ∧ φ = [t'] ∧ acc = ws.map .int ∧ ws.length = k) ?_
  repeat (first | refine Wp.imp ?_ | (with_reducible refine w_modI (by decide) ?_) | (with_reducible refine w_mulI (cmulR (by decide) (by decide)) ?_) | (with_reducible refine w_mulI (cmulL (by decide) (by decide)) ?_) | (with_reducible refine w_powI (cpowL (by decide) (by decide) (by decide)) ?_) | (with_reducible refine ⟨fun h => absurd h (by decide), fun _ => ?_⟩) | (with_reducible refine ⟨fun _ => ?_, fun h => absurd h (by decide)⟩))
  refine ⟨stillP_none, by have := hcl.1; simp; omega, ⟨[], t7, ht7, rfl, rfl, rfl⟩, ?_, ?_⟩
  · rintro k x acc φ' hx ⟨ws, t', ht', rfl, rfl, hl⟩ _
    repeat (first | refine Wp.imp ?_ | (with_reducible refine w_modI (by decide) ?_) | (with_reducible refine w_mulI (cmulR (by decide) (by decide)) ?_) | (with_reducible refine w_mulI (cmulL (by decide) (by decide)) ?_) | (with_reducible refine w_powI (cpowL (by decide) (by decide) (by decide)) ?_) | (with_reducible refine ⟨fun h => absurd h (by decide), fun _ => ?_⟩) | (with_reducible refine ⟨fun _ => ?_, fun h => absurd h (by decide)⟩))
    refine worth_spec (by omega) ht' fun w t'' ht'' => ?_
    exact ⟨stillP_none, ws ++ [w], t'', ht'', rfl, by simp, by simp [hl]⟩
  rintro acc φ' ⟨ws, t8, ht8, rfl, rfl, hwl⟩ _
  simp only [List.length_map] at hwl
  have hcl100 := hcl.1
  repeat (first | refine Wp.imp ?_ | (with_reducible refine w_modI (by decide) ?_) | (with_reducible refine w_mulI (cmulR (by decide) (by decide)) ?_) | (with_reducible refine w_mulI (cmulL (by decide) (by decide)) ?_) | (with_reducible refine w_powI (cpowL (by decide) (by decide) (by decide)) ?_) | (with_reducible refine ⟨fun h => absurd h (by decide), fun _ => ?_⟩) | (with_reducible refine ⟨fun _ => ?_, fun h => absurd h (by decide)⟩))
  have hst0 : ∃ sts, sts = [St.cl 0 [], .sym 0, .trans 0 1, .cong 0 0, .cl 1 [0, 0]] := ⟨_, rfl⟩
  obtain ⟨sts0, hst0⟩ := hst0
  have hds0 : ∃ ds : Ds, ds = [some (a, b), some (b, a), some (a, a), some (.pr a a, .pr b b), some e] := ⟨_, rfl⟩
  obtain ⟨ds0, hds0⟩ := hds0
  have hok60 : ∀ d ∈ ds0, oszOK 60 d := fun d hd x hx => by
    subst hx; rw [hds0] at hd
    have e1 := he.1
    have e2 := he.2
    simp only [List.mem_cons, Option.some.injEq, List.not_mem_nil, or_false] at hd
    rcases hd with rfl | rfl | rfl | rfl | rfl <;> refine ⟨?_, ?_⟩ <;> first | (simp only [Tm.size]; omega) | omega
  have hrun0 : Run cls sts0 ds0 := by
    rw [hst0, hds0]
    refine ⟨rfl, fun k s r h1 h2 => ?_⟩
    match k, h1, h2 with
    | 0, h1, h2 => cases h1; cases h2; exact Ok.cl (c := ([], some (a, b))) cls0 rfl (fun k i e' h3 _ => by simp at h3)
    | 1, h1, h2 => cases h1; cases h2; exact .sym rfl
    | 2, h1, h2 => cases h1; cases h2; exact .trans (b := b) rfl rfl
    | 3, h1, h2 => cases h1; cases h2; exact .cong rfl rfl (by omega) (by omega)
    | 4, h1, h2 =>
      cases h1; cases h2
      refine Ok.cl (c := ([(a, b), (a, b)], some e)) cls1 rfl fun k i e' h3 h4 => ?_
      match k, h3, h4 with
      | 0, h3, h4 => cases h3; cases h4; rfl
      | 1, h3, h4 => cases h3; cases h4; rfl
      | k + 2, h3, h4 => simp at h3
    | k + 5, h1, h2 => simp at h1
  have hd0 : DsOK ds0 := ⟨by rw [hds0]; simp, hok60⟩
  have hl0 : sts0.length = 5 := by rw [hst0]; rfl
  refine run_spec (sts := sts0) (ds := ds0) (by omega) hcl hd0 hrun0 (by rw [hst0]; rfl) ?_
  simp only [List.length_cons, List.length_nil, Nat.zero_add, List.cons_append, List.nil_append]
  have hm0 : ∀ X : PHeap → Prop, X [t8, .lst (sts0.map St.pv), .lst (ds0.map oeq)] → X [t8, .lst [PV.tup [wCl, .int 0, .tup []], .tup [wSym, .int 0], .tup [wTr, .int 0, .int 1], .tup [wCong, .int 0, .int 0], .tup [wCl, .int 1, .tup [.int 0, .int 0]]], .lst (ds0.map oeq)] := fun X hX => by
    rw [hst0] at hX; exact hX
  clear hds0 hok60
  repeat (first | refine Wp.imp ?_ | (with_reducible refine w_modI (by decide) ?_) | (with_reducible refine w_mulI (cmulR (by decide) (by decide)) ?_) | (with_reducible refine w_mulI (cmulL (by decide) (by decide)) ?_) | (with_reducible refine w_powI (cpowL (by decide) (by decide) (by decide)) ?_) | (with_reducible refine ⟨fun h => absurd h (by decide), fun _ => ?_⟩) | (with_reducible refine ⟨fun _ => ?_, fun h => absurd h (by decide)⟩))
  refine w_for (fun k ρ φ => ∃ (sts : List St) (ds : Ds) (t' : Cell) (y1 y2 : Option PV), TapeOK t' ∧ φ = [t', .lst (sts.map St.pv), .lst (ds.map oeq)] ∧ ρ = [some (.loc 0), some (.lst (ss.map .str)), some (.lst (p.map Tm.pv)), some (.tup [a.pv, b.pv]), some (.lst (cls.map clv)), some (.lst (ws.map .int)), some (.loc 1), some (.loc 2), y1, y2, none, none, none, none, none, none, none] ∧ Run cls sts ds ∧ sts.length ≤ 5 + k ∧ ∀ d ∈ ds, oszOK 60 d) ?_
  repeat (first | refine Wp.imp ?_ | (with_reducible refine w_modI (by decide) ?_) | (with_reducible refine w_mulI (cmulR (by decide) (by decide)) ?_) | (with_reducible refine w_mulI (cmulL (by decide) (by decide)) ?_) | (with_reducible refine w_powI (cpowL (by decide) (by decide) (by decide)) ?_) | (with_reducible refine ⟨fun h => absurd h (by decide), fun _ => ?_⟩) | (with_reducible refine ⟨fun _ => ?_, fun h => absurd h (by decide)⟩))
  refine draw_spec (by omega) ht8 (by decide) fun r4 t9 ht9 a4 b4 => ?_
  repeat (first | refine Wp.imp ?_ | (with_reducible refine w_modI (by decide) ?_) | (with_reducible refine w_mulI (cmulR (by decide) (by decide)) ?_) | (with_reducible refine w_mulI (cmulL (by decide) (by decide)) ?_) | (with_reducible refine w_powI (cpowL (by decide) (by decide) (by decide)) ?_) | (with_reducible refine ⟨fun h => absurd h (by decide), fun _ => ?_⟩) | (with_reducible refine ⟨fun _ => ?_, fun h => absurd h (by decide)⟩))
  refine ⟨by unfold smallI; omega, stillP_none, ⟨sts0, ds0, t9, _, _, ht9, by rw [hst0]; rfl, rfl, hrun0, by omega, hd0.2⟩, ?_, ?_⟩
  · rintro k x ρ φ' hx ⟨sts, ds, t', y1, y2, ht', rfl, rfl, hrun, hlen, hds⟩
    obtain ⟨rfl, hk⟩ := intsFrom_get hx
    have hd : DsOK ds := ⟨by have := hrun.1; omega, hds⟩
    repeat (first | refine Wp.imp ?_ | (with_reducible refine w_modI (by decide) ?_) | (with_reducible refine w_mulI (cmulR (by decide) (by decide)) ?_) | (with_reducible refine w_mulI (cmulL (by decide) (by decide)) ?_) | (with_reducible refine w_powI (cpowL (by decide) (by decide) (by decide)) ?_) | (with_reducible refine ⟨fun h => absurd h (by decide), fun _ => ?_⟩) | (with_reducible refine ⟨fun _ => ?_, fun h => absurd h (by decide)⟩))
    refine next_spec (d := 1) (by omega) ht' hp hcl clsn hd rfl fun s r t'' ht'' hok => ?_
    repeat (first | refine Wp.imp ?_ | (with_reducible refine w_modI (by decide) ?_) | (with_reducible refine w_mulI (cmulR (by decide) (by decide)) ?_) | (with_reducible refine w_mulI (cmulL (by decide) (by decide)) ?_) | (with_reducible refine w_powI (cpowL (by decide) (by decide) (by decide)) ?_) | (with_reducible refine ⟨fun h => absurd h (by decide), fun _ => ?_⟩) | (with_reducible refine ⟨fun _ => ?_, fun h => absurd h (by decide)⟩))
    refine step_spec (by omega) hcl hd rfl hok ?_
    repeat (first | refine Wp.imp ?_ | (with_reducible refine w_modI (by decide) ?_) | (with_reducible refine w_mulI (cmulR (by decide) (by decide)) ?_) | (with_reducible refine w_mulI (cmulL (by decide) (by decide)) ?_) | (with_reducible refine w_powI (cpowL (by decide) (by decide) (by decide)) ?_) | (with_reducible refine ⟨fun h => absurd h (by decide), fun _ => ?_⟩) | (with_reducible refine ⟨fun _ => ?_, fun h => absurd h (by decide)⟩))
    refine ⟨by have := hd.1; simp; omega, ?_⟩
    repeat (first | refine Wp.imp ?_ | (with_reducible refine w_modI (by decide) ?_) | (with_reducible refine w_mulI (cmulR (by decide) (by decide)) ?_) | (with_reducible refine w_mulI (cmulL (by decide) (by decide)) ?_) | (with_reducible refine w_powI (cpowL (by decide) (by decide) (by decide)) ?_) | (with_reducible refine ⟨fun h => absurd h (by decide), fun _ => ?_⟩) | (with_reducible refine ⟨fun _ => ?_, fun h => absurd h (by decide)⟩))
    refine ⟨by have := hrun.1; have := hd.1; simp; omega, ?_⟩
    exact ⟨stillP_none, sts ++ [s], ds ++ [r], t'', _, _, ht'', by simp, rfl, hrun.snoc hok, by simp; omega, fun d hd' => (List.mem_append.mp hd').elim (hds d) fun hd' => by rw [List.mem_singleton.mp hd']; exact hok.sz hcl hd⟩
  rintro ρ φ' ⟨sts, ds, t', y1, y2, ht', rfl, rfl, hrun, hlen, hds⟩
  rw [intsFrom_length] at hlen
  have hstl : sts.length ≤ 30 := by omega
  have hso : StsOK ws.length sts := by rw [hwl]; exact hrun.stsOK hcl (by omega)
  repeat (first | refine Wp.imp ?_ | (with_reducible refine w_modI (by decide) ?_) | (with_reducible refine w_mulI (cmulR (by decide) (by decide)) ?_) | (with_reducible refine w_mulI (cmulL (by decide) (by decide)) ?_) | (with_reducible refine w_powI (cpowL (by decide) (by decide) (by decide)) ?_) | (with_reducible refine ⟨fun h => absurd h (by decide), fun _ => ?_⟩) | (with_reducible refine ⟨fun _ => ?_, fun h => absurd h (by decide)⟩))
  refine b_costs_spec (by omega) hso (fun _ => rfl) (fun χ k hk => by cases hk; rfl) (fun _ => rfl) ?_
  repeat (first | refine Wp.imp ?_ | (with_reducible refine w_modI (by decide) ?_) | (with_reducible refine w_mulI (cmulR (by decide) (by decide)) ?_) | (with_reducible refine w_mulI (cmulL (by decide) (by decide)) ?_) | (with_reducible refine w_powI (cpowL (by decide) (by decide) (by decide)) ?_) | (with_reducible refine ⟨fun h => absurd h (by decide), fun _ => ?_⟩) | (with_reducible refine ⟨fun _ => ?_, fun h => absurd h (by decide)⟩))
  refine steps_cost_spec (by omega) hso ?_
  repeat (first | refine Wp.imp ?_ | (with_reducible refine w_modI (by decide) ?_) | (with_reducible refine w_mulI (cmulR (by decide) (by decide)) ?_) | (with_reducible refine w_mulI (cmulL (by decide) (by decide)) ?_) | (with_reducible refine w_powI (cpowL (by decide) (by decide) (by decide)) ?_) | (with_reducible refine ⟨fun h => absurd h (by decide), fun _ => ?_⟩) | (with_reducible refine ⟨fun _ => ?_, fun h => absurd h (by decide)⟩))
  refine same_spec (by omega) (by rw [costs_len]; omega) ?_
  repeat (first | refine Wp.imp ?_ | (with_reducible refine w_modI (by decide) ?_) | (with_reducible refine w_mulI (cmulR (by decide) (by decide)) ?_) | (with_reducible refine w_mulI (cmulL (by decide) (by decide)) ?_) | (with_reducible refine w_powI (cpowL (by decide) (by decide) (by decide)) ?_) | (with_reducible refine ⟨fun h => absurd h (by decide), fun _ => ?_⟩) | (with_reducible refine ⟨fun _ => ?_, fun h => absurd h (by decide)⟩))
  refine draw_spec (by omega) ht' (by simp; omega) fun pl t10 ht10 p0 p1 => ?_
  repeat (first | refine Wp.imp ?_ | (with_reducible refine w_modI (by decide) ?_) | (with_reducible refine w_mulI (cmulR (by decide) (by decide)) ?_) | (with_reducible refine w_mulI (cmulL (by decide) (by decide)) ?_) | (with_reducible refine w_powI (cpowL (by decide) (by decide) (by decide)) ?_) | (with_reducible refine ⟨fun h => absurd h (by decide), fun _ => ?_⟩) | (with_reducible refine ⟨fun _ => ?_, fun h => absurd h (by decide)⟩))
  have hpl : pl < ws.length := by
    have : 0 < cls.length := List.length_pos_iff.mpr clsn
    simp at p1; omega
  obtain ⟨w, hw, hwm⟩ := pyIx_lt (xs := ws.map PV.int) (i := pl) p0 (by simpa using hpl)
  obtain ⟨w, _, rfl⟩ := List.mem_map.mp hwm
  refine w_ixL hw ?_
  repeat (first | refine Wp.imp ?_ | (with_reducible refine w_modI (by decide) ?_) | (with_reducible refine w_mulI (cmulR (by decide) (by decide)) ?_) | (with_reducible refine w_mulI (cmulL (by decide) (by decide)) ?_) | (with_reducible refine w_powI (cpowL (by decide) (by decide) (by decide)) ?_) | (with_reducible refine ⟨fun h => absurd h (by decide), fun _ => ?_⟩) | (with_reducible refine ⟨fun _ => ?_, fun h => absurd h (by decide)⟩))
  refine w_setC p0 (by simpa using hpl) ?_
  rw [show (ws.map PV.int).set pl.toNat (.int (1 + w % 1000)) = (ws.set pl.toNat (1 + w % 1000)).map PV.int from (List.map_set ..).symm]
  have hwl' : (ws.set pl.toNat (1 + w % 1000)).length = ws.length := by simp
  generalize ws.set pl.toNat (1 + w % 1000) = os at hwl'
  repeat (first | refine Wp.imp ?_ | (with_reducible refine w_modI (by decide) ?_) | (with_reducible refine w_mulI (cmulR (by decide) (by decide)) ?_) | (with_reducible refine w_mulI (cmulL (by decide) (by decide)) ?_) | (with_reducible refine w_powI (cpowL (by decide) (by decide) (by decide)) ?_) | (with_reducible refine ⟨fun h => absurd h (by decide), fun _ => ?_⟩) | (with_reducible refine ⟨fun _ => ?_, fun h => absurd h (by decide)⟩))
  refine draw_spec (by omega) ht10 (by simp; omega) fun cut t11 ht11 c0 c1 => ?_
  repeat (first | refine Wp.imp ?_ | (with_reducible refine w_modI (by decide) ?_) | (with_reducible refine w_mulI (cmulR (by decide) (by decide)) ?_) | (with_reducible refine w_mulI (cmulL (by decide) (by decide)) ?_) | (with_reducible refine w_powI (cpowL (by decide) (by decide) (by decide)) ?_) | (with_reducible refine ⟨fun h => absurd h (by decide), fun _ => ?_⟩) | (with_reducible refine ⟨fun _ => ?_, fun h => absurd h (by decide)⟩))
  have hcut : cut ≤ (sts.map St.pv).length := by simp at c1 ⊢; omega
  have hfin : wR (finM .cut [t] (.bl true) [t11, .lst (sts.map St.pv), .lst (ds.map oeq), .lst (os.map .int)]) Q :=
    w_finT (ψ := []) (χ := [.lst (sts.map St.pv), .lst (ds.map oeq), .lst (os.map .int)]) (.inl rfl) ht11 rfl (h t11)
  refine w_for (fun k ρ φ => φ = [t11, .lst (sts.map St.pv), .lst (ds.map oeq), .lst (os.map .int)] ∧ ∃ (y1 y2 y3 : Option PV), ρ = [some (.loc 0), some (.lst (ss.map .str)), some (.lst (p.map Tm.pv)), some (.tup [a.pv, b.pv]), some (.lst (cls.map clv)), some (.lst (ws.map .int)), some (.loc 1), some (.loc 2), y1, y2, some (.tup ((costs ws sts).map .int)), some (.int pl), some (.loc 3), some (.int cut), y3, none, none]) ?_
  repeat (first | refine Wp.imp ?_ | (with_reducible refine w_modI (by decide) ?_) | (with_reducible refine w_mulI (cmulR (by decide) (by decide)) ?_) | (with_reducible refine w_mulI (cmulL (by decide) (by decide)) ?_) | (with_reducible refine w_powI (cpowL (by decide) (by decide) (by decide)) ?_) | (with_reducible refine ⟨fun h => absurd h (by decide), fun _ => ?_⟩) | (with_reducible refine ⟨fun _ => ?_, fun h => absurd h (by decide)⟩))
  rw [cutL_take c0 hcut, ← List.map_take]
  refine ⟨stillP_none, ⟨rfl, _, _, _, rfl⟩, ?_, ?_⟩
  · rintro k x ρ φ' hx ⟨rfl, y1, y2, y3, rfl⟩
    have hpf : ∃ sts' : List St, StsOK os.length sts' ∧ (∀ χ : PHeap, itemsOf ([t11, .lst (sts.map St.pv), .lst (ds.map oeq), .lst (os.map .int)] ++ χ) x = some (sts'.map St.pv)) ∧ (∀ χ : PHeap, stillP (guardOf x) (sts'.map St.pv) ([t11, .lst (sts.map St.pv), .lst (ds.map oeq), .lst (os.map .int)] ++ χ)) ∧ seqOf [t11, .lst (sts.map St.pv), .lst (ds.map oeq), .lst (os.map .int)] x = some (sts'.map St.pv) := by
      rw [hwl']
      match k, hx with
      | 0, hx => cases hx; exact ⟨sts, hso, fun _ => rfl, fun χ k hk => by cases hk; rfl, rfl⟩
      | 1, hx => cases hx; exact ⟨sts.take cut.toNat, hso.take _, fun _ => rfl, fun χ k hk => (by cases hk), rfl⟩
      | 2, hx => cases hx; exact ⟨[], ⟨by simp, by simp⟩, fun _ => rfl, fun χ k hk => (by cases hk), rfl⟩
      | k + 3, hx => simp at hx
    obtain ⟨sts', h1, h2, h3, h4⟩ := hpf
    repeat (first | refine Wp.imp ?_ | (with_reducible refine w_modI (by decide) ?_) | (with_reducible refine w_mulI (cmulR (by decide) (by decide)) ?_) | (with_reducible refine w_mulI (cmulL (by decide) (by decide)) ?_) | (with_reducible refine w_powI (cpowL (by decide) (by decide) (by decide)) ?_) | (with_reducible refine ⟨fun h => absurd h (by decide), fun _ => ?_⟩) | (with_reducible refine ⟨fun _ => ?_, fun h => absurd h (by decide)⟩))
    refine w_tupX h4 ?_
    repeat (first | refine Wp.imp ?_ | (with_reducible refine w_modI (by decide) ?_) | (with_reducible refine w_mulI (cmulR (by decide) (by decide)) ?_) | (with_reducible refine w_mulI (cmulL (by decide) (by decide)) ?_) | (with_reducible refine w_powI (cpowL (by decide) (by decide) (by decide)) ?_) | (with_reducible refine ⟨fun h => absurd h (by decide), fun _ => ?_⟩) | (with_reducible refine ⟨fun _ => ?_, fun h => absurd h (by decide)⟩))
    refine steps_cost_spec (by omega) h1 ?_
    repeat (first | refine Wp.imp ?_ | (with_reducible refine w_modI (by decide) ?_) | (with_reducible refine w_mulI (cmulR (by decide) (by decide)) ?_) | (with_reducible refine w_mulI (cmulL (by decide) (by decide)) ?_) | (with_reducible refine w_powI (cpowL (by decide) (by decide) (by decide)) ?_) | (with_reducible refine ⟨fun h => absurd h (by decide), fun _ => ?_⟩) | (with_reducible refine ⟨fun _ => ?_, fun h => absurd h (by decide)⟩))
    refine b_costs_spec (by omega) h1 h2 h3 (fun _ => rfl) ?_
    repeat (first | refine Wp.imp ?_ | (with_reducible refine w_modI (by decide) ?_) | (with_reducible refine w_mulI (cmulR (by decide) (by decide)) ?_) | (with_reducible refine w_mulI (cmulL (by decide) (by decide)) ?_) | (with_reducible refine w_powI (cpowL (by decide) (by decide) (by decide)) ?_) | (with_reducible refine ⟨fun h => absurd h (by decide), fun _ => ?_⟩) | (with_reducible refine ⟨fun _ => ?_, fun h => absurd h (by decide)⟩))
    refine same_spec (by omega) (by rw [costs_len]; exact h1.1) ?_
    repeat (first | refine Wp.imp ?_ | (with_reducible refine w_modI (by decide) ?_) | (with_reducible refine w_mulI (cmulR (by decide) (by decide)) ?_) | (with_reducible refine w_mulI (cmulL (by decide) (by decide)) ?_) | (with_reducible refine w_powI (cpowL (by decide) (by decide) (by decide)) ?_) | (with_reducible refine ⟨fun h => absurd h (by decide), fun _ => ?_⟩) | (with_reducible refine ⟨fun _ => ?_, fun h => absurd h (by decide)⟩))
    exact ⟨stillP_none, rfl, _, _, _, rfl⟩
  · rintro ρ φ' ⟨rfl, y1, y2, y3, rfl⟩
    repeat (first | refine Wp.imp ?_ | (with_reducible refine w_modI (by decide) ?_) | (with_reducible refine w_mulI (cmulR (by decide) (by decide)) ?_) | (with_reducible refine w_mulI (cmulL (by decide) (by decide)) ?_) | (with_reducible refine w_powI (cpowL (by decide) (by decide) (by decide)) ?_) | (with_reducible refine ⟨fun h => absurd h (by decide), fun _ => ?_⟩) | (with_reducible refine ⟨fun _ => ?_, fun h => absurd h (by decide)⟩))
    refine steps_cost_spec (by omega) hso ?_
    repeat (first | refine Wp.imp ?_ | (with_reducible refine w_modI (by decide) ?_) | (with_reducible refine w_mulI (cmulR (by decide) (by decide)) ?_) | (with_reducible refine w_mulI (cmulL (by decide) (by decide)) ?_) | (with_reducible refine w_powI (cpowL (by decide) (by decide) (by decide)) ?_) | (with_reducible refine ⟨fun h => absurd h (by decide), fun _ => ?_⟩) | (with_reducible refine ⟨fun _ => ?_, fun h => absurd h (by decide)⟩))
    refine same_spec (by omega) (by rw [costs_len]; omega) ?_
    exact hfin
theorem law_true (ns : List Int) (hl : ns.length ≤ 63) : ∃ φ, F_law 90 [.scr ns] [] = .ok (.bl true) φ := by
  have : wR (F_law 90 [.scr ns] []) fun v φ => v = .bl true := by
    refine w_fun' rfl ?_
    unfold B_law
    repeat (first | refine Wp.imp ?_ | (with_reducible refine w_modI (by decide) ?_) | (with_reducible refine w_mulI (cmulR (by decide) (by decide)) ?_) | (with_reducible refine w_mulI (cmulL (by decide) (by decide)) ?_) | (with_reducible refine w_powI (cpowL (by decide) (by decide) (by decide)) ?_) | (with_reducible refine ⟨fun h => absurd h (by decide), fun _ => ?_⟩) | (with_reducible refine ⟨fun _ => ?_, fun h => absurd h (by decide)⟩))
    refine tape_spec (by decide) fun t ht => ?_
    repeat (first | refine Wp.imp ?_ | (with_reducible refine w_modI (by decide) ?_) | (with_reducible refine w_mulI (cmulR (by decide) (by decide)) ?_) | (with_reducible refine w_mulI (cmulL (by decide) (by decide)) ?_) | (with_reducible refine w_powI (cpowL (by decide) (by decide) (by decide)) ?_) | (with_reducible refine ⟨fun h => absurd h (by decide), fun _ => ?_⟩) | (with_reducible refine ⟨fun _ => ?_, fun h => absurd h (by decide)⟩))
    refine held_spec (by decide) ht fun t' => ?_
    exact w_fin0 (φ := []) (ψ := [t']) (.inl rfl) rfl rfl
  obtain ⟨v, φ, e, rfl⟩ := this.ok
  exact ⟨φ, e⟩
end
end T

/-! each def keeps to its pure function (printed by gen.py) -/
namespace T
open PySem PySem.Spec PyProof.Rows L2 PL
def topS (i : Nat) : Stmt := PySem.Challenge.pw_fedeq_k34_steps_cost_as_often_as_told.main.body.getD i (.Pass ⟨0, 0, 0, 0⟩)
/-- what the top has laid -/
structure Tops (K : PySem.W.Frag) (mg : Str → Option Value) : Prop where
  d_references_of : ∃ f fd, Fun K "references_of" "references_of" (topS 5) f fd ∧ mg "references_of" = some (.ref f) ∧ Binds K fd ["step"] []
  d_step_cost : ∃ f fd, Fun K "step_cost" "step_cost" (topS 7) f fd ∧ mg "step_cost" = some (.ref f) ∧ Binds K fd ["step", "weights", "costs"] []
  d_steps_cost : ∃ f fd, Fun K "steps_cost" "steps_cost" (topS 8) f fd ∧ mg "steps_cost" = some (.ref f) ∧ Binds K fd ["proof", "weights"] []
  d__law_tape : ∃ f fd, Fun K "_law_tape" "_law_tape" (topS 10) f fd ∧ mg "_law_tape" = some (.ref f) ∧ Binds K fd ["script"] []
  d__law_draw : ∃ f fd, Fun K "_law_draw" "_law_draw" (topS 11) f fd ∧ mg "_law_draw" = some (.ref f) ∧ Binds K fd ["tape", "many"] []
  d__law_pick : ∃ f fd, Fun K "_law_pick" "_law_pick" (topS 12) f fd ∧ mg "_law_pick" = some (.ref f) ∧ Binds K fd ["tape", "rows"] []
  d__law_same : ∃ f fd, Fun K "_law_same" "_law_same" (topS 13) f fd ∧ mg "_law_same" = some (.ref f) ∧ Binds K fd ["told", "due"] []
  d__law_b_names : ∃ f fd, Fun K "_law_b_names" "_law_b_names" (topS 14) f fd ∧ mg "_law_b_names" = some (.ref f) ∧ Binds K fd ["tape", "many"] []
  d__law_b_size : ∃ f fd, Fun K "_law_b_size" "_law_b_size" (topS 15) f fd ∧ mg "_law_b_size" = some (.ref f) ∧ Binds K fd ["term"] []
  d__law_b_depth : ∃ f fd, Fun K "_law_b_depth" "_law_b_depth" (topS 16) f fd ∧ mg "_law_b_depth" = some (.ref f) ∧ Binds K fd ["term"] []
  d__law_b_pool : ∃ f fd, Fun K "_law_b_pool" "_law_b_pool" (topS 17) f fd ∧ mg "_law_b_pool" = some (.ref f) ∧ Binds K fd ["tape", "names", "more"] []
  d__law_b_pair : ∃ f fd, Fun K "_law_b_pair" "_law_b_pair" (topS 18) f fd ∧ mg "_law_b_pair" = some (.ref f) ∧ Binds K fd ["tape", "pool"] []
  d__law_b_clause : ∃ f fd, Fun K "_law_b_clause" "_law_b_clause" (topS 19) f fd ∧ mg "_law_b_clause" = some (.ref f) ∧ Binds K fd ["tape", "pool"] []
  d__law_b_worth : ∃ f fd, Fun K "_law_b_worth" "_law_b_worth" (topS 20) f fd ∧ mg "_law_b_worth" = some (.ref f) ∧ Binds K fd ["tape"] []
  d__law_b_is_name : ∃ f fd, Fun K "_law_b_is_name" "_law_b_is_name" (topS 21) f fd ∧ mg "_law_b_is_name" = some (.ref f) ∧ Binds K fd ["datum"] []
  d__law_b_is_term : ∃ f fd, Fun K "_law_b_is_term" "_law_b_is_term" (topS 22) f fd ∧ mg "_law_b_is_term" = some (.ref f) ∧ Binds K fd ["datum"] []
  d__law_b_is_number : ∃ f fd, Fun K "_law_b_is_number" "_law_b_is_number" (topS 23) f fd ∧ mg "_law_b_is_number" = some (.ref f) ∧ Binds K fd ["datum", "many"] []
  d__law_b_fired : ∃ f fd, Fun K "_law_b_fired" "_law_b_fired" (topS 24) f fd ∧ mg "_law_b_fired" = some (.ref f) ∧ Binds K fd ["clauses", "derived", "place", "steps"] []
  d__law_b_step : ∃ f fd, Fun K "_law_b_step" "_law_b_step" (topS 25) f fd ∧ mg "_law_b_step" = some (.ref f) ∧ Binds K fd ["clauses", "derived", "step"] []
  d__law_b_run : ∃ f fd, Fun K "_law_b_run" "_law_b_run" (topS 26) f fd ∧ mg "_law_b_run" = some (.ref f) ∧ Binds K fd ["clauses", "proof"] []
  d__law_b_next : ∃ f fd, Fun K "_law_b_next" "_law_b_next" (topS 27) f fd ∧ mg "_law_b_next" = some (.ref f) ∧ Binds K fd ["tape", "clauses", "derived", "pool"] []
  d__law_b_costs : ∃ f fd, Fun K "_law_b_costs" "_law_b_costs" (topS 28) f fd ∧ mg "_law_b_costs" = some (.ref f) ∧ Binds K fd ["proof", "weights"] []
  d__law_b34_held : ∃ f fd, Fun K "_law_b34_held" "_law_b34_held" (topS 29) f fd ∧ mg "_law_b34_held" = some (.ref f) ∧ Binds K fd ["tape"] []
  d_law : ∃ f fd, Fun K "law" "law" (topS 30) f fd ∧ mg "law" = some (.ref f) ∧ Binds K fd ["script"] []
  z_abs : mg "abs" = none
  z_bool : mg "bool" = none
  z_int : mg "int" = none
  z_isinstance : mg "isinstance" = none
  z_len : mg "len" = none
  z_list : mg "list" = none
  z_max : mg "max" = none
  z_range : mg "range" = none
  z_str : mg "str" = none
  z_sum : mg "sum" = none
  z_tuple : mg "tuple" = none
  c_CLAUSE : ∃ t, mg "CLAUSE" = some (.str (Str.ofString "clause") t)
  c_REFLEXIVITY : ∃ t, mg "REFLEXIVITY" = some (.str (Str.ofString "reflexivity") t)
section
variable {P : Program} {w : World} {K : PySem.W.Frag} {mg : Str → Option Value} {base : Heap}
theorem sc_references_of : FnScope ["step"] ["step"] (defScope (topS 5)) := ⟨rfl, rfl, rfl, by decide +kernel, rfl, by decide +kernel, by decide +kernel⟩
theorem nd_references_of : List.Nodup (["step"] : List Str) := sc_references_of.nd
theorem ok_references_of (C : Tops K mg) : ∀ n, Cal P w K mg base n "references_of" 1 (F_references_of n)
  | 0 => by
    obtain ⟨f, fd, F, hm, b⟩ := C.d_references_of
    exact cal_zero hm F.kp b
  | n + 1 => by
    obtain ⟨f, fd, F, hm, b⟩ := C.d_references_of
    exact cal_mk hm F.kp b rfl (fn_ok F sc_references_of fun cdv A outer s H E hr =>
  ss_cons (s_if (t_cmp (o_eq hr.units) (x_ix (x_var 0) x_int) (x_globS C.c_REFLEXIVITY))
  (ss_cons (s_ret (x_tup a_nil))
  ss_nil)
  ss_nil)
  (ss_cons (s_if (t_cmp (o_eq hr.units) (x_ix (x_var 0) x_int) (x_globS C.c_CLAUSE))
  (ss_cons (s_ret (x_ix (x_var 0) x_int))
  ss_nil)
  ss_nil)
  (ss_cons (s_ret (x_sl (x_var 0) (o_some x_int) o_none))
  ss_nil)))
theorem sc_step_cost : FnScope ["step", "weights", "costs", "total", "number"] ["step", "weights", "costs"] (defScope (topS 7)) := ⟨rfl, rfl, rfl, by decide +kernel, rfl, by decide +kernel, by decide +kernel⟩
theorem nd_step_cost : List.Nodup (["step", "weights", "costs", "total", "number"] : List Str) := sc_step_cost.nd
theorem ok_step_cost (C : Tops K mg) : ∀ n, Cal P w K mg base n "step_cost" 3 (F_step_cost n)
  | 0 => by
    obtain ⟨f, fd, F, hm, b⟩ := C.d_step_cost
    exact cal_zero hm F.kp b
  | n + 1 => by
    obtain ⟨f, fd, F, hm, b⟩ := C.d_step_cost
    exact cal_mk hm F.kp b rfl (fn_ok F sc_step_cost fun cdv A outer s H E hr =>
  ss_cons (s_set nd_step_cost (x_b (c_sum (by rfl)) (by rfl) C.z_sum bb_sum (a_cons (x_lc (by rfl) nd_step_cost (i_seq (x_call (ok_references_of C n) hr (a_cons (x_var 0) a_nil))) (blkOk_by (N := ["step", "weights", "costs", "total", "number"]) (sc := defScope (topS 7)) (own := [("number", 4)]) (by decide +kernel)) (fun _ _ _ _ _ => pg_name (i := 4) nd_step_cost (by rfl) (by first | exact Or.inl rfl | exact Or.inr rfl)) (fun _ _ _ _ _ => ts_nil) (fun _ _ _ _ _ => x_ix (x_var 2) (x_var 4))) a_nil)))
  (ss_cons (s_if (t_cmp (o_eq hr.units) (x_ix (x_var 0) x_int) (x_globS C.c_CLAUSE))
  (ss_cons (s_set nd_step_cost (x_op o_add (x_var 3) (x_ix (x_var 1) (x_ix (x_var 0) x_int))))
  ss_nil)
  ss_nil)
  (ss_cons (s_ret (x_var 3))
  ss_nil)))
theorem sc_steps_cost : FnScope ["proof", "weights", "costs", "step"] ["proof", "weights"] (defScope (topS 8)) := ⟨rfl, rfl, rfl, by decide +kernel, rfl, by decide +kernel, by decide +kernel⟩
theorem nd_steps_cost : List.Nodup (["proof", "weights", "costs", "step"] : List Str) := sc_steps_cost.nd
theorem ok_steps_cost (C : Tops K mg) : ∀ n, Cal P w K mg base n "steps_cost" 2 (F_steps_cost n)
  | 0 => by
    obtain ⟨f, fd, F, hm, b⟩ := C.d_steps_cost
    exact cal_zero hm F.kp b
  | n + 1 => by
    obtain ⟨f, fd, F, hm, b⟩ := C.d_steps_cost
    exact cal_mk hm F.kp b rfl (fn_ok F sc_steps_cost fun cdv A outer s H E hr =>
  ss_cons (s_set nd_steps_cost (x_lstC a_nil))
  (ss_cons (s_for PassesOwn.never (by rfl) (i_seq (x_var 0)) (g_var nd_steps_cost)
  (ss_cons (s_drop (x_lm m_append PySem.F.plainAttrs_list PySem.F.slot_list_append PySem.F.type_list_append (x_var 2) (a_cons (x_call (ok_step_cost C n) hr (a_cons (x_var 3) (a_cons (x_var 1) (a_cons (x_var 2) a_nil)))) a_nil)))
  ss_nil))
  (ss_cons (s_ret (x_ty c_tuple (by rfl) C.z_tuple bb_tuple (a_cons (x_var 2) a_nil)))
  ss_nil)))
theorem sc__law_tape : FnScope ["script", "total", "cell"] ["script"] (defScope (topS 10)) := ⟨rfl, rfl, rfl, by decide +kernel, rfl, by decide +kernel, by decide +kernel⟩
theorem nd__law_tape : List.Nodup (["script", "total", "cell"] : List Str) := sc__law_tape.nd
theorem ok__law_tape (C : Tops K mg) : ∀ n, Cal P w K mg base n "_law_tape" 1 (F__law_tape n)
  | 0 => by
    obtain ⟨f, fd, F, hm, b⟩ := C.d__law_tape
    exact cal_zero hm F.kp b
  | n + 1 => by
    obtain ⟨f, fd, F, hm, b⟩ := C.d__law_tape
    exact cal_mk hm F.kp b rfl (fn_ok F sc__law_tape fun cdv A outer s H E hr =>
  ss_cons (s_set nd__law_tape x_int)
  (ss_cons (s_for PassesOwn.never (by rfl) (i_seq (x_var 0)) (g_var nd__law_tape)
  (ss_cons (s_set nd__law_tape (x_op o_mod (x_ty c_int (by rfl) C.z_int bb_int (a_cons (x_op o_add (x_op o_mul (x_var 1) x_int) (x_b c_abs (by rfl) C.z_abs bb_abs (a_cons (x_ty c_int (by rfl) C.z_int bb_int (a_cons (x_var 2) a_nil)) a_nil))) a_nil)) x_int))
  ss_nil))
  (ss_cons (s_ret (x_lstC (a_cons (x_ty c_list (by rfl) C.z_list bb_list (a_cons (x_var 0) a_nil)) (a_cons x_int (a_cons x_int (a_cons (x_var 1) a_nil))))))
  ss_nil)))
theorem sc__law_draw : FnScope ["tape", "many", "place", "number"] ["tape", "many"] (defScope (topS 11)) := ⟨rfl, rfl, rfl, by decide +kernel, rfl, by decide +kernel, by decide +kernel⟩
theorem nd__law_draw : List.Nodup (["tape", "many", "place", "number"] : List Str) := sc__law_draw.nd
theorem ok__law_draw (C : Tops K mg) : ∀ n, Cal P w K mg base n "_law_draw" 2 (F__law_draw n)
  | 0 => by
    obtain ⟨f, fd, F, hm, b⟩ := C.d__law_draw
    exact cal_zero hm F.kp b
  | n + 1 => by
    obtain ⟨f, fd, F, hm, b⟩ := C.d__law_draw
    exact cal_mk hm F.kp b rfl (fn_ok F sc__law_draw fun cdv A outer s H E hr =>
  ss_cons (s_if (t_cmp (o_eq hr.units) (x_ix (x_var 0) x_int) x_int)
  (ss_cons (s_set nd__law_draw (x_ix (x_var 0) x_int))
  (ss_cons (s_set nd__law_draw x_int)
  (ss_cons (s_if (t_cmp o_lt (x_var 2) (x_b c_len (by rfl) C.z_len bb_len (a_cons (x_ix (x_var 0) x_int) a_nil)))
  (ss_cons (s_set nd__law_draw (x_b c_abs (by rfl) C.z_abs bb_abs (a_cons (x_ty c_int (by rfl) C.z_int bb_int (a_cons (x_ix (x_ix (x_var 0) x_int) (x_var 2)) a_nil)) a_nil)))
  ss_nil)
  (ss_cons (s_sub (x_op o_mod (x_ty c_int (by rfl) C.z_int bb_int (a_cons (x_op o_add (x_op o_add (x_op o_mul (x_ix (x_var 0) x_int) x_int) (x_var 2)) x_int) a_nil)) x_int) (x_var 0) x_int)
  (ss_cons (s_set nd__law_draw (x_ix (x_var 0) x_int))
  ss_nil)))
  (ss_cons (s_sub (x_op o_add (x_var 2) x_int) (x_var 0) x_int)
  (ss_cons (s_if (t_cmp o_lt (x_var 3) (x_op o_pow x_int x_int))
  (ss_cons (s_set nd__law_draw (x_op o_mod (x_ty c_int (by rfl) C.z_int bb_int (a_cons (x_op o_add (x_op o_add (x_op o_mul (x_var 3) x_int) (x_op o_mul (x_var 2) x_int)) x_int) a_nil)) x_int))
  (ss_cons (s_set nd__law_draw (x_op o_mod (x_ty c_int (by rfl) C.z_int bb_int (a_cons (x_op o_mul (x_var 3) x_int) a_nil)) x_int))
  (ss_cons (s_ret (x_op o_mod (x_ty c_int (by rfl) C.z_int bb_int (a_cons (x_var 3) a_nil)) (x_b (c_max2 (by rfl)) (by rfl) C.z_max bb_max (a_cons (x_var 1) (a_cons x_int a_nil)))))
  ss_nil)))
  ss_nil)
  (ss_cons (s_sub (x_var 3) (x_var 0) x_int)
  ss_nil))))))
  ss_nil)
  (ss_cons (s_set nd__law_draw (x_ix (x_var 0) x_int))
  (ss_cons (s_sub (x_op o_fdiv (x_var 3) (x_b (c_max2 (by rfl)) (by rfl) C.z_max bb_max (a_cons (x_var 1) (a_cons x_int a_nil)))) (x_var 0) x_int)
  (ss_cons (s_ret (x_op o_mod (x_ty c_int (by rfl) C.z_int bb_int (a_cons (x_var 3) a_nil)) (x_b (c_max2 (by rfl)) (by rfl) C.z_max bb_max (a_cons (x_var 1) (a_cons x_int a_nil)))))
  ss_nil))))
theorem sc__law_pick : FnScope ["tape", "rows"] ["tape", "rows"] (defScope (topS 12)) := ⟨rfl, rfl, rfl, by decide +kernel, rfl, by decide +kernel, by decide +kernel⟩
theorem nd__law_pick : List.Nodup (["tape", "rows"] : List Str) := sc__law_pick.nd
theorem ok__law_pick (C : Tops K mg) : ∀ n, Cal P w K mg base n "_law_pick" 2 (F__law_pick n)
  | 0 => by
    obtain ⟨f, fd, F, hm, b⟩ := C.d__law_pick
    exact cal_zero hm F.kp b
  | n + 1 => by
    obtain ⟨f, fd, F, hm, b⟩ := C.d__law_pick
    exact cal_mk hm F.kp b rfl (fn_ok F sc__law_pick fun cdv A outer s H E hr =>
  ss_cons (s_ret (x_ix (x_var 1) (x_call (ok__law_draw C n) hr (a_cons (x_var 0) (a_cons (x_b c_len (by rfl) C.z_len bb_len (a_cons (x_var 1) a_nil)) a_nil)))))
  ss_nil)
theorem sc__law_same : FnScope ["told", "due", "k"] ["told", "due"] (defScope (topS 13)) := ⟨rfl, rfl, rfl, by decide +kernel, rfl, by decide +kernel, by decide +kernel⟩
theorem nd__law_same : List.Nodup (["told", "due", "k"] : List Str) := sc__law_same.nd
theorem ok__law_same (C : Tops K mg) : ∀ n, Cal P w K mg base n "_law_same" 2 (F__law_same n)
  | 0 => by
    obtain ⟨f, fd, F, hm, b⟩ := C.d__law_same
    exact cal_zero hm F.kp b
  | n + 1 => by
    obtain ⟨f, fd, F, hm, b⟩ := C.d__law_same
    exact cal_mk hm F.kp b rfl (fn_ok F sc__law_same fun cdv A outer s H E hr =>
  ss_cons (s_if (t_val (x_isi (by decide) (by rfl) C.z_isinstance bb_isinstance (by rfl) C.z_tuple bb_tuple (x_var 1)))
  (ss_cons (s_if (t_pw (w_or (t_not (t_val (x_isi (by decide) (by rfl) C.z_isinstance bb_isinstance (by rfl) C.z_tuple bb_tuple (x_var 0)))) (w_or1 (t_cmp (o_ne hr.units) (x_b c_len (by rfl) C.z_len bb_len (a_cons (x_var 0) a_nil)) (x_b c_len (by rfl) C.z_len bb_len (a_cons (x_var 1) a_nil))))))
  (ss_cons (s_ret x_bl)
  ss_nil)
  ss_nil)
  (ss_cons (s_ret (x_cmp (o_notIn (room65 hr)) x_bl (x_lc (by rfl) nd__law_same (i_range1 (by rfl) C.z_range (x_b c_len (by rfl) C.z_len bb_len (a_cons (x_var 1) a_nil))) (blkOk_by (N := ["told", "due", "k"]) (sc := defScope (topS 13)) (own := [("k", 2)]) (by decide +kernel)) (fun _ _ _ _ _ => pg_name (i := 2) nd__law_same (by rfl) (by first | exact Or.inl rfl | exact Or.inr rfl)) (fun _ _ _ _ _ => ts_nil) (fun _ _ _ _ _ => x_call (ok__law_same C n) hr (a_cons (x_ix (x_var 0) (x_var 2)) (a_cons (x_ix (x_var 1) (x_var 2)) a_nil))))))
  ss_nil))
  ss_nil)
  (ss_cons (s_if (t_pw (w_or (t_cmp o_isN (x_var 1) x_non) (w_or1 (t_cmp o_isN (x_var 0) x_non))))
  (ss_cons (s_ret (x_and (x_cmp o_isN (x_var 1) x_non) (x_one (x_cmp o_isN (x_var 0) x_non))))
  ss_nil)
  ss_nil)
  (ss_cons (s_if (t_pw (w_or (t_cmp (o_ne hr.units) (x_isi (by decide) (by rfl) C.z_isinstance bb_isinstance (by rfl) C.z_bool bb_bool (x_var 0)) (x_isi (by decide) (by rfl) C.z_isinstance bb_isinstance (by rfl) C.z_bool bb_bool (x_var 1))) (w_or1 (t_cmp (o_ne hr.units) (x_isi (by decide) (by rfl) C.z_isinstance bb_isinstance (by rfl) C.z_str bb_str (x_var 0)) (x_isi (by decide) (by rfl) C.z_isinstance bb_isinstance (by rfl) C.z_str bb_str (x_var 1))))))
  (ss_cons (s_ret x_bl)
  ss_nil)
  ss_nil)
  (ss_cons (s_ret (x_and (x_cmp (o_eq hr.units) (x_isi (by decide) (by rfl) C.z_isinstance bb_isinstance (by rfl) C.z_int bb_int (x_var 0)) (x_isi (by decide) (by rfl) C.z_isinstance bb_isinstance (by rfl) C.z_int bb_int (x_var 1))) (x_one (x_cmp (o_eq hr.units) (x_var 0) (x_var 1)))))
  ss_nil))))
theorem sc__law_b_names : FnScope ["tape", "many", "letters", "signs", "style", "start", "names", "k"] ["tape", "many"] (defScope (topS 14)) := ⟨rfl, rfl, rfl, by decide +kernel, rfl, by decide +kernel, by decide +kernel⟩
theorem nd__law_b_names : List.Nodup (["tape", "many", "letters", "signs", "style", "start", "names", "k"] : List Str) := sc__law_b_names.nd
theorem ok__law_b_names (C : Tops K mg) : ∀ n, Cal P w K mg base n "_law_b_names" 2 (F__law_b_names n)
  | 0 => by
    obtain ⟨f, fd, F, hm, b⟩ := C.d__law_b_names
    exact cal_zero hm F.kp b
  | n + 1 => by
    obtain ⟨f, fd, F, hm, b⟩ := C.d__law_b_names
    exact cal_mk hm F.kp b rfl (fn_ok F sc__law_b_names fun cdv A outer s H E hr =>
  ss_cons (s_set nd__law_b_names (x_str (by decide +kernel) (by decide)))
  (ss_cons (s_set nd__law_b_names (x_op o_add (x_var 2) (x_str (by decide +kernel) (by decide))))
  (ss_cons (s_set nd__law_b_names (x_call (ok__law_draw C n) hr (a_cons (x_var 0) (a_cons x_int a_nil))))
  (ss_cons (s_set nd__law_b_names (x_call (ok__law_draw C n) hr (a_cons (x_var 0) (a_cons x_int a_nil))))
  (ss_cons (s_set nd__law_b_names (x_lstC a_nil))
  (ss_cons (s_for PassesOwn.never (by rfl) (i_range1 (by rfl) C.z_range (x_var 1)) (g_var nd__law_b_names)
  (ss_cons (s_if (t_cmp (o_eq hr.units) (x_var 4) x_int)
  (ss_cons (s_drop (x_lm m_append PySem.F.plainAttrs_list PySem.F.slot_list_append PySem.F.type_list_append (x_var 6) (a_cons (x_ix (x_var 2) (x_op o_mod (x_ty c_int (by rfl) C.z_int bb_int (a_cons (x_op o_add (x_var 5) (x_op o_mul x_int (x_var 7))) a_nil)) x_int)) a_nil)))
  ss_nil)
  (ss_cons (s_if (t_cmp (o_eq hr.units) (x_var 4) x_int)
  (ss_cons (s_drop (x_lm m_append PySem.F.plainAttrs_list PySem.F.slot_list_append PySem.F.type_list_append (x_var 6) (a_cons (x_op o_add (x_str (by decide +kernel) (by decide)) (x_ix (x_var 3) (x_op o_mod (x_ty c_int (by rfl) C.z_int bb_int (a_cons (x_op o_add (x_var 5) (x_op o_mul x_int (x_var 7))) a_nil)) x_int))) a_nil)))
  ss_nil)
  (ss_cons (s_if (t_cmp (o_eq hr.units) (x_var 4) x_int)
  (ss_cons (s_drop (x_lm m_append PySem.F.plainAttrs_list PySem.F.slot_list_append PySem.F.type_list_append (x_var 6) (a_cons (x_op o_add (x_str (by decide +kernel) (by decide)) (x_ty c_strI (by rfl) C.z_str bb_str (a_cons (x_op o_mod (x_ty c_int (by rfl) C.z_int bb_int (a_cons (x_op o_add (x_var 5) (x_op o_mul x_int (x_var 7))) a_nil)) x_int) a_nil))) a_nil)))
  ss_nil)
  (ss_cons (s_if (t_cmp (o_eq hr.units) (x_var 4) x_int)
  (ss_cons (s_drop (x_lm m_append PySem.F.plainAttrs_list PySem.F.slot_list_append PySem.F.type_list_append (x_var 6) (a_cons (x_op o_add (x_str (by decide +kernel) (by decide)) (x_ix (x_var 3) (x_op o_mod (x_ty c_int (by rfl) C.z_int bb_int (a_cons (x_op o_add (x_var 5) (x_op o_mul x_int (x_var 7))) a_nil)) x_int))) a_nil)))
  ss_nil)
  (ss_cons (s_if (t_cmp o_lt (x_var 7) x_int)
  (ss_cons (s_drop (x_lm m_append PySem.F.plainAttrs_list PySem.F.slot_list_append PySem.F.type_list_append (x_var 6) (a_cons (x_sl (x_op o_add (x_ix (x_var 2) (x_op o_mod (x_ty c_int (by rfl) C.z_int bb_int (a_cons (x_var 5) a_nil)) x_int)) (x_str (by decide +kernel) (by decide))) o_none (o_some (x_op o_add (x_var 7) x_int))) a_nil)))
  ss_nil)
  (ss_cons (s_drop (x_lm m_append PySem.F.plainAttrs_list PySem.F.slot_list_append PySem.F.type_list_append (x_var 6) (a_cons (x_op o_add (x_ix (x_var 2) (x_op o_mod (x_ty c_int (by rfl) C.z_int bb_int (a_cons (x_op o_add (x_var 5) (x_var 7)) a_nil)) x_int)) (x_str (by decide +kernel) (by decide))) a_nil)))
  ss_nil))
  ss_nil))
  ss_nil))
  ss_nil))
  ss_nil))
  ss_nil))
  (ss_cons (s_ret (x_var 6))
  ss_nil)))))))
theorem sc__law_b_size : FnScope ["term"] ["term"] (defScope (topS 15)) := ⟨rfl, rfl, rfl, by decide +kernel, rfl, by decide +kernel, by decide +kernel⟩
theorem nd__law_b_size : List.Nodup (["term"] : List Str) := sc__law_b_size.nd
theorem ok__law_b_size (C : Tops K mg) : ∀ n, Cal P w K mg base n "_law_b_size" 1 (F__law_b_size n)
  | 0 => by
    obtain ⟨f, fd, F, hm, b⟩ := C.d__law_b_size
    exact cal_zero hm F.kp b
  | n + 1 => by
    obtain ⟨f, fd, F, hm, b⟩ := C.d__law_b_size
    exact cal_mk hm F.kp b rfl (fn_ok F sc__law_b_size fun cdv A outer s H E hr =>
  ss_cons (s_if (t_val (x_isi (by decide) (by rfl) C.z_isinstance bb_isinstance (by rfl) C.z_str bb_str (x_var 0)))
  (ss_cons (s_ret x_int)
  ss_nil)
  ss_nil)
  (ss_cons (s_ret (x_op o_add (x_call (ok__law_b_size C n) hr (a_cons (x_ix (x_var 0) x_int) a_nil)) (x_call (ok__law_b_size C n) hr (a_cons (x_ix (x_var 0) x_int) a_nil))))
  ss_nil))
theorem sc__law_b_depth : FnScope ["term"] ["term"] (defScope (topS 16)) := ⟨rfl, rfl, rfl, by decide +kernel, rfl, by decide +kernel, by decide +kernel⟩
theorem nd__law_b_depth : List.Nodup (["term"] : List Str) := sc__law_b_depth.nd
theorem ok__law_b_depth (C : Tops K mg) : ∀ n, Cal P w K mg base n "_law_b_depth" 1 (F__law_b_depth n)
  | 0 => by
    obtain ⟨f, fd, F, hm, b⟩ := C.d__law_b_depth
    exact cal_zero hm F.kp b
  | n + 1 => by
    obtain ⟨f, fd, F, hm, b⟩ := C.d__law_b_depth
    exact cal_mk hm F.kp b rfl (fn_ok F sc__law_b_depth fun cdv A outer s H E hr =>
  ss_cons (s_if (t_val (x_isi (by decide) (by rfl) C.z_isinstance bb_isinstance (by rfl) C.z_str bb_str (x_var 0)))
  (ss_cons (s_ret x_int)
  ss_nil)
  ss_nil)
  (ss_cons (s_ret (x_op o_add x_int (x_b (c_max2 (by rfl)) (by rfl) C.z_max bb_max (a_cons (x_call (ok__law_b_depth C n) hr (a_cons (x_ix (x_var 0) x_int) a_nil)) (a_cons (x_call (ok__law_b_depth C n) hr (a_cons (x_ix (x_var 0) x_int) a_nil)) a_nil)))))
  ss_nil))
theorem sc__law_b_pool : FnScope ["tape", "names", "more", "pool", "turn", "one", "other"] ["tape", "names", "more"] (defScope (topS 17)) := ⟨rfl, rfl, rfl, by decide +kernel, rfl, by decide +kernel, by decide +kernel⟩
theorem nd__law_b_pool : List.Nodup (["tape", "names", "more", "pool", "turn", "one", "other"] : List Str) := sc__law_b_pool.nd
theorem ok__law_b_pool (C : Tops K mg) : ∀ n, Cal P w K mg base n "_law_b_pool" 3 (F__law_b_pool n)
  | 0 => by
    obtain ⟨f, fd, F, hm, b⟩ := C.d__law_b_pool
    exact cal_zero hm F.kp b
  | n + 1 => by
    obtain ⟨f, fd, F, hm, b⟩ := C.d__law_b_pool
    exact cal_mk hm F.kp b rfl (fn_ok F sc__law_b_pool fun cdv A outer s H E hr =>
  ss_cons (s_set nd__law_b_pool (x_ty c_list (by rfl) C.z_list bb_list (a_cons (x_var 1) a_nil)))
  (ss_cons (s_for PassesOwn.never (by rfl) (i_range1 (by rfl) C.z_range (x_var 2)) (g_var nd__law_b_pool)
  (ss_cons (s_set nd__law_b_pool (x_call (ok__law_pick C n) hr (a_cons (x_var 0) (a_cons (x_var 3) a_nil))))
  (ss_cons (s_set nd__law_b_pool (x_call (ok__law_pick C n) hr (a_cons (x_var 0) (a_cons (x_var 3) a_nil))))
  (ss_cons (s_if (t_pw (w_or (t_cmp o_gt (x_op o_add (x_call (ok__law_b_size C n) hr (a_cons (x_var 5) a_nil)) (x_call (ok__law_b_size C n) hr (a_cons (x_var 6) a_nil))) x_int) (w_or1 (t_cmp o_gt (x_b (c_max2 (by rfl)) (by rfl) C.z_max bb_max (a_cons (x_call (ok__law_b_depth C n) hr (a_cons (x_var 5) a_nil)) (a_cons (x_call (ok__law_b_depth C n) hr (a_cons (x_var 6) a_nil)) a_nil))) x_int))))
  (ss_cons (s_set nd__law_b_pool (x_ix (x_var 1) x_int))
  (ss_cons (s_set nd__law_b_pool (x_ix (x_var 1) (x_op o_sub (x_b c_len (by rfl) C.z_len bb_len (a_cons (x_var 1) a_nil)) x_int)))
  ss_nil))
  ss_nil)
  (ss_cons (s_drop (x_lm m_append PySem.F.plainAttrs_list PySem.F.slot_list_append PySem.F.type_list_append (x_var 3) (a_cons (x_tup (a_cons (x_var 5) (a_cons (x_var 6) a_nil))) a_nil)))
  ss_nil)))))
  (ss_cons (s_ret (x_var 3))
  ss_nil)))
theorem sc__law_b_pair : FnScope ["tape", "pool", "left"] ["tape", "pool"] (defScope (topS 18)) := ⟨rfl, rfl, rfl, by decide +kernel, rfl, by decide +kernel, by decide +kernel⟩
theorem nd__law_b_pair : List.Nodup (["tape", "pool", "left"] : List Str) := sc__law_b_pair.nd
theorem ok__law_b_pair (C : Tops K mg) : ∀ n, Cal P w K mg base n "_law_b_pair" 2 (F__law_b_pair n)
  | 0 => by
    obtain ⟨f, fd, F, hm, b⟩ := C.d__law_b_pair
    exact cal_zero hm F.kp b
  | n + 1 => by
    obtain ⟨f, fd, F, hm, b⟩ := C.d__law_b_pair
    exact cal_mk hm F.kp b rfl (fn_ok F sc__law_b_pair fun cdv A outer s H E hr =>
  ss_cons (s_set nd__law_b_pair (x_call (ok__law_pick C n) hr (a_cons (x_var 0) (a_cons (x_var 1) a_nil))))
  (ss_cons (s_ret (x_tup (a_cons (x_var 2) (a_cons (x_call (ok__law_pick C n) hr (a_cons (x_var 0) (a_cons (x_var 1) a_nil))) a_nil))))
  ss_nil))
theorem sc__law_b_clause : FnScope ["tape", "pool", "kind", "many", "premises", "k"] ["tape", "pool"] (defScope (topS 19)) := ⟨rfl, rfl, rfl, by decide +kernel, rfl, by decide +kernel, by decide +kernel⟩
theorem nd__law_b_clause : List.Nodup (["tape", "pool", "kind", "many", "premises", "k"] : List Str) := sc__law_b_clause.nd
theorem ok__law_b_clause (C : Tops K mg) : ∀ n, Cal P w K mg base n "_law_b_clause" 2 (F__law_b_clause n)
  | 0 => by
    obtain ⟨f, fd, F, hm, b⟩ := C.d__law_b_clause
    exact cal_zero hm F.kp b
  | n + 1 => by
    obtain ⟨f, fd, F, hm, b⟩ := C.d__law_b_clause
    exact cal_mk hm F.kp b rfl (fn_ok F sc__law_b_clause fun cdv A outer s H E hr =>
  ss_cons (s_set nd__law_b_clause (x_call (ok__law_draw C n) hr (a_cons (x_var 0) (a_cons x_int a_nil))))
  (ss_cons (s_set nd__law_b_clause (x_ix (x_lst (a_cons x_int (a_cons x_int (a_cons x_int (a_cons x_int (a_cons x_int (a_cons (x_op o_add x_int (x_call (ok__law_draw C n) hr (a_cons (x_var 0) (a_cons x_int a_nil)))) a_nil))))))) (x_var 2)))
  (ss_cons (s_set nd__law_b_clause (x_ty c_tuple (by rfl) C.z_tuple bb_tuple (a_cons (x_lc (by rfl) nd__law_b_clause (i_range1 (by rfl) C.z_range (x_var 3)) (blkOk_by (N := ["tape", "pool", "kind", "many", "premises", "k"]) (sc := defScope (topS 19)) (own := [("k", 5)]) (by decide +kernel)) (fun _ _ _ _ _ => pg_name (i := 5) nd__law_b_clause (by rfl) (by first | exact Or.inl rfl | exact Or.inr rfl)) (fun _ _ _ _ _ => ts_nil) (fun _ _ _ _ _ => x_call (ok__law_b_pair C n) hr (a_cons (x_var 0) (a_cons (x_var 1) a_nil)))) a_nil)))
  (ss_cons (s_if (t_pw (w_or (t_cmp (o_eq hr.units) (x_var 2) x_int) (w_or1 (t_pw (w_and (t_cmp (o_eq hr.units) (x_var 2) x_int) (w_and1 (t_cmp (o_eq hr.units) (x_call (ok__law_draw C n) hr (a_cons (x_var 0) (a_cons x_int a_nil))) x_int)))))))
  (ss_cons (s_ret (x_tup (a_cons (x_var 4) (a_cons x_non a_nil))))
  ss_nil)
  ss_nil)
  (ss_cons (s_ret (x_tup (a_cons (x_var 4) (a_cons (x_call (ok__law_b_pair C n) hr (a_cons (x_var 0) (a_cons (x_var 1) a_nil))) a_nil))))
  ss_nil)))))
theorem sc__law_b_worth : FnScope ["tape"] ["tape"] (defScope (topS 20)) := ⟨rfl, rfl, rfl, by decide +kernel, rfl, by decide +kernel, by decide +kernel⟩
theorem nd__law_b_worth : List.Nodup (["tape"] : List Str) := sc__law_b_worth.nd
theorem ok__law_b_worth (C : Tops K mg) : ∀ n, Cal P w K mg base n "_law_b_worth" 1 (F__law_b_worth n)
  | 0 => by
    obtain ⟨f, fd, F, hm, b⟩ := C.d__law_b_worth
    exact cal_zero hm F.kp b
  | n + 1 => by
    obtain ⟨f, fd, F, hm, b⟩ := C.d__law_b_worth
    exact cal_mk hm F.kp b rfl (fn_ok F sc__law_b_worth fun cdv A outer s H E hr =>
  ss_cons (s_ret (x_call (ok__law_pick C n) hr (a_cons (x_var 0) (a_cons (x_lst (a_cons x_int (a_cons x_int (a_cons x_int (a_cons (x_op o_add x_int (x_call (ok__law_draw C n) hr (a_cons (x_var 0) (a_cons x_int a_nil)))) (a_cons (x_op o_add x_int (x_call (ok__law_draw C n) hr (a_cons (x_var 0) (a_cons x_int a_nil)))) (a_cons x_int a_nil))))))) a_nil))))
  ss_nil)
theorem sc__law_b_is_name : FnScope ["datum", "letters", "sign"] ["datum"] (defScope (topS 21)) := ⟨rfl, rfl, rfl, by decide +kernel, rfl, by decide +kernel, by decide +kernel⟩
theorem nd__law_b_is_name : List.Nodup (["datum", "letters", "sign"] : List Str) := sc__law_b_is_name.nd
theorem ok__law_b_is_name (C : Tops K mg) : ∀ n, Cal P w K mg base n "_law_b_is_name" 1 (F__law_b_is_name n)
  | 0 => by
    obtain ⟨f, fd, F, hm, b⟩ := C.d__law_b_is_name
    exact cal_zero hm F.kp b
  | n + 1 => by
    obtain ⟨f, fd, F, hm, b⟩ := C.d__law_b_is_name
    exact cal_mk hm F.kp b rfl (fn_ok F sc__law_b_is_name fun cdv A outer s H E hr =>
  ss_cons (s_set nd__law_b_is_name (x_str (by decide +kernel) (by decide)))
  (ss_cons (s_if (t_pw (w_or (t_not (t_val (x_isi (by decide) (by rfl) C.z_isinstance bb_isinstance (by rfl) C.z_str bb_str (x_var 0)))) (w_or (t_cmp o_lt (x_b c_len (by rfl) C.z_len bb_len (a_cons (x_var 0) a_nil)) x_int) (w_or (t_cmp o_gt (x_b c_len (by rfl) C.z_len bb_len (a_cons (x_var 0) a_nil)) x_int) (w_or1 (t_cmp (o_eq hr.units) (x_var 0) (x_str (by decide +kernel) (by decide))))))))
  (ss_cons (s_ret x_bl)
  ss_nil)
  ss_nil)
  (ss_cons (s_ret (x_and (x_cmp (o_in (room65 hr)) (x_ix (x_var 0) x_int) (x_var 1)) (x_one (x_cmp (o_eq hr.units) (x_lc (by rfl) nd__law_b_is_name (i_seq (x_var 0)) (blkOk_by (N := ["datum", "letters", "sign"]) (sc := defScope (topS 21)) (own := [("sign", 2)]) (by decide +kernel)) (fun _ _ _ _ _ => pg_name (i := 2) nd__law_b_is_name (by rfl) (by first | exact Or.inl rfl | exact Or.inr rfl)) (fun _ _ _ _ _ => ts_one (t_cmp (o_notIn (room65 hr)) (x_var 2) (x_op o_add (x_var 1) (x_str (by decide +kernel) (by decide))))) (fun _ _ _ _ _ => x_var 2)) (x_lst a_nil)))))
  ss_nil)))
theorem sc__law_b_is_term : FnScope ["datum"] ["datum"] (defScope (topS 22)) := ⟨rfl, rfl, rfl, by decide +kernel, rfl, by decide +kernel, by decide +kernel⟩
theorem nd__law_b_is_term : List.Nodup (["datum"] : List Str) := sc__law_b_is_term.nd
theorem ok__law_b_is_term (C : Tops K mg) : ∀ n, Cal P w K mg base n "_law_b_is_term" 1 (F__law_b_is_term n)
  | 0 => by
    obtain ⟨f, fd, F, hm, b⟩ := C.d__law_b_is_term
    exact cal_zero hm F.kp b
  | n + 1 => by
    obtain ⟨f, fd, F, hm, b⟩ := C.d__law_b_is_term
    exact cal_mk hm F.kp b rfl (fn_ok F sc__law_b_is_term fun cdv A outer s H E hr =>
  ss_cons (s_if (t_val (x_isi (by decide) (by rfl) C.z_isinstance bb_isinstance (by rfl) C.z_tuple bb_tuple (x_var 0)))
  (ss_cons (s_ret (x_and (x_cmp (o_eq hr.units) (x_b c_len (by rfl) C.z_len bb_len (a_cons (x_var 0) a_nil)) x_int) (x_and (x_call (ok__law_b_is_term C n) hr (a_cons (x_ix (x_var 0) x_int) a_nil)) (x_one (x_call (ok__law_b_is_term C n) hr (a_cons (x_ix (x_var 0) x_int) a_nil))))))
  ss_nil)
  ss_nil)
  (ss_cons (s_ret (x_call (ok__law_b_is_name C n) hr (a_cons (x_var 0) a_nil)))
  ss_nil))
theorem sc__law_b_is_number : FnScope ["datum", "many"] ["datum", "many"] (defScope (topS 23)) := ⟨rfl, rfl, rfl, by decide +kernel, rfl, by decide +kernel, by decide +kernel⟩
theorem nd__law_b_is_number : List.Nodup (["datum", "many"] : List Str) := sc__law_b_is_number.nd
theorem ok__law_b_is_number (C : Tops K mg) : ∀ n, Cal P w K mg base n "_law_b_is_number" 2 (F__law_b_is_number n)
  | 0 => by
    obtain ⟨f, fd, F, hm, b⟩ := C.d__law_b_is_number
    exact cal_zero hm F.kp b
  | n + 1 => by
    obtain ⟨f, fd, F, hm, b⟩ := C.d__law_b_is_number
    exact cal_mk hm F.kp b rfl (fn_ok F sc__law_b_is_number fun cdv A outer s H E hr =>
  ss_cons (s_ret (x_and (x_isi (by decide) (by rfl) C.z_isinstance bb_isinstance (by rfl) C.z_int bb_int (x_var 0)) (x_and (x_not (x_isi (by decide) (by rfl) C.z_isinstance bb_isinstance (by rfl) C.z_bool bb_bool (x_var 0))) (x_and (x_cmp o_le x_int (x_var 0)) (x_one (x_cmp o_lt (x_var 0) (x_var 1)))))))
  ss_nil)
theorem sc__law_b_fired : FnScope ["clauses", "derived", "place", "steps", "k"] ["clauses", "derived", "place", "steps"] (defScope (topS 24)) := ⟨rfl, rfl, rfl, by decide +kernel, rfl, by decide +kernel, by decide +kernel⟩
theorem nd__law_b_fired : List.Nodup (["clauses", "derived", "place", "steps", "k"] : List Str) := sc__law_b_fired.nd
theorem ok__law_b_fired (C : Tops K mg) : ∀ n, Cal P w K mg base n "_law_b_fired" 4 (F__law_b_fired n)
  | 0 => by
    obtain ⟨f, fd, F, hm, b⟩ := C.d__law_b_fired
    exact cal_zero hm F.kp b
  | n + 1 => by
    obtain ⟨f, fd, F, hm, b⟩ := C.d__law_b_fired
    exact cal_mk hm F.kp b rfl (fn_ok F sc__law_b_fired fun cdv A outer s H E hr =>
  ss_cons (s_if (t_pw (w_or (t_not (t_val (x_call (ok__law_b_is_number C n) hr (a_cons (x_var 2) (a_cons (x_b c_len (by rfl) C.z_len bb_len (a_cons (x_var 0) a_nil)) a_nil))))) (w_or (t_not (t_val (x_isi (by decide) (by rfl) C.z_isinstance bb_isinstance (by rfl) C.z_tuple bb_tuple (x_var 3)))) (w_or1 (t_cmp (o_ne hr.units) (x_b c_len (by rfl) C.z_len bb_len (a_cons (x_var 3) a_nil)) (x_b c_len (by rfl) C.z_len bb_len (a_cons (x_ix (x_ix (x_var 0) (x_var 2)) x_int) a_nil)))))))
  (ss_cons (s_ret (x_tup a_nil))
  ss_nil)
  ss_nil)
  (ss_cons (s_for PassesOwn.never (by rfl) (i_range1 (by rfl) C.z_range (x_b c_len (by rfl) C.z_len bb_len (a_cons (x_var 3) a_nil))) (g_var nd__law_b_fired)
  (ss_cons (s_if (t_pw (w_or (t_not (t_val (x_call (ok__law_b_is_number C n) hr (a_cons (x_ix (x_var 3) (x_var 4)) (a_cons (x_b c_len (by rfl) C.z_len bb_len (a_cons (x_var 1) a_nil)) a_nil))))) (w_or1 (t_cmp (o_ne hr.units) (x_ix (x_var 1) (x_ix (x_var 3) (x_var 4))) (x_ix (x_ix (x_ix (x_var 0) (x_var 2)) x_int) (x_var 4))))))
  (ss_cons (s_ret (x_tup a_nil))
  ss_nil)
  ss_nil)
  ss_nil))
  (ss_cons (s_ret (x_tup (a_cons (x_ix (x_ix (x_var 0) (x_var 2)) x_int) a_nil)))
  ss_nil)))
theorem sc__law_b_step : FnScope ["clauses", "derived", "step", "word", "refs", "left", "right", "start", "end", "ref"] ["clauses", "derived", "step"] (defScope (topS 25)) := ⟨rfl, rfl, rfl, by decide +kernel, rfl, by decide +kernel, by decide +kernel⟩
theorem nd__law_b_step : List.Nodup (["clauses", "derived", "step", "word", "refs", "left", "right", "start", "end", "ref"] : List Str) := sc__law_b_step.nd
theorem ok__law_b_step (C : Tops K mg) : ∀ n, Cal P w K mg base n "_law_b_step" 3 (F__law_b_step n)
  | 0 => by
    obtain ⟨f, fd, F, hm, b⟩ := C.d__law_b_step
    exact cal_zero hm F.kp b
  | n + 1 => by
    obtain ⟨f, fd, F, hm, b⟩ := C.d__law_b_step
    exact cal_mk hm F.kp b rfl (fn_ok F sc__law_b_step fun cdv A outer s H E hr =>
  ss_cons (s_if (t_pw (w_or (t_not (t_val (x_isi (by decide) (by rfl) C.z_isinstance bb_isinstance (by rfl) C.z_tuple bb_tuple (x_var 2)))) (w_or1 (t_cmp (o_notIn (room65 hr)) (x_b c_len (by rfl) C.z_len bb_len (a_cons (x_var 2) a_nil)) (x_lst (a_cons x_int (a_cons x_int a_nil)))))))
  (ss_cons (s_ret (x_tup a_nil))
  ss_nil)
  ss_nil)
  (ss_cons (s_set nd__law_b_step (x_ix (x_var 2) x_int))
  (ss_cons (s_set nd__law_b_step (x_sl (x_ty c_list (by rfl) C.z_list bb_list (a_cons (x_var 2) a_nil)) (o_some x_int) o_none))
  (ss_cons (s_if (t_cmp (o_eq hr.units) (x_var 3) (x_str (by decide +kernel) (by decide)))
  (ss_cons (s_ret (x_if (t_pw (w_and (t_cmp (o_eq hr.units) (x_b c_len (by rfl) C.z_len bb_len (a_cons (x_var 4) a_nil)) x_int) (w_and1 (t_val (x_call (ok__law_b_is_term C n) hr (a_cons (x_ix (x_var 4) x_int) a_nil)))))) (x_tup (a_cons (x_tup (a_cons (x_ix (x_var 4) x_int) (a_cons (x_ix (x_var 4) x_int) a_nil))) a_nil)) (x_tup a_nil)))
  ss_nil)
  ss_nil)
  (ss_cons (s_if (t_cmp (o_eq hr.units) (x_var 3) (x_str (by decide +kernel) (by decide)))
  (ss_cons (s_ret (x_if (t_cmp (o_eq hr.units) (x_b c_len (by rfl) C.z_len bb_len (a_cons (x_var 4) a_nil)) x_int) (x_call (ok__law_b_fired C n) hr (a_cons (x_var 0) (a_cons (x_var 1) (a_cons (x_ix (x_var 4) x_int) (a_cons (x_ix (x_var 4) x_int) a_nil))))) (x_tup a_nil)))
  ss_nil)
  ss_nil)
  (ss_cons (s_if (t_pw (w_or (t_cmp (o_notIn (room65 hr)) (x_var 3) (x_lst (a_cons (x_str (by decide +kernel) (by decide)) (a_cons (x_str (by decide +kernel) (by decide)) (a_cons (x_str (by decide +kernel) (by decide)) a_nil))))) (w_or1 (t_cmp (o_ne hr.units) (x_b c_len (by rfl) C.z_len bb_len (a_cons (x_var 4) a_nil)) (x_if (t_cmp (o_eq hr.units) (x_var 3) (x_str (by decide +kernel) (by decide))) x_int x_int)))))
  (ss_cons (s_ret (x_tup a_nil))
  ss_nil)
  ss_nil)
  (ss_cons (s_if (t_cmp (o_ne hr.units) (x_lc (by rfl) nd__law_b_step (i_seq (x_var 4)) (blkOk_by (N := ["clauses", "derived", "step", "word", "refs", "left", "right", "start", "end", "ref"]) (sc := defScope (topS 25)) (own := [("ref", 9)]) (by decide +kernel)) (fun _ _ _ _ _ => pg_name (i := 9) nd__law_b_step (by rfl) (by first | exact Or.inl rfl | exact Or.inr rfl)) (fun _ _ _ _ _ => ts_one (t_pw (w_or (t_not (t_val (x_call (ok__law_b_is_number C n) hr (a_cons (x_var 9) (a_cons (x_b c_len (by rfl) C.z_len bb_len (a_cons (x_var 1) a_nil)) a_nil))))) (w_or1 (t_cmp o_isN (x_ix (x_var 1) (x_var 9)) x_non))))) (fun _ _ _ _ _ => x_var 9)) (x_lst a_nil))
  (ss_cons (s_ret (x_tup a_nil))
  ss_nil)
  ss_nil)
  (ss_cons (s_asg (x_ix (x_var 1) (x_ix (x_var 4) x_int)) (g_unp (by rfl) (gs_cons (g_var nd__law_b_step) (gs_cons (g_var nd__law_b_step) gs_nil)) (gCons_len (gCons_len gNils_len))) (hgn := gok_unp (gok_cons gok_var (gok_cons gok_var gok_nils))))
  (ss_cons (s_if (t_cmp (o_eq hr.units) (x_var 3) (x_str (by decide +kernel) (by decide)))
  (ss_cons (s_ret (x_tup (a_cons (x_tup (a_cons (x_var 6) (a_cons (x_var 5) a_nil))) a_nil)))
  ss_nil)
  ss_nil)
  (ss_cons (s_asg (x_ix (x_var 1) (x_ix (x_var 4) x_int)) (g_unp (by rfl) (gs_cons (g_var nd__law_b_step) (gs_cons (g_var nd__law_b_step) gs_nil)) (gCons_len (gCons_len gNils_len))) (hgn := gok_unp (gok_cons gok_var (gok_cons gok_var gok_nils))))
  (ss_cons (s_if (t_cmp (o_eq hr.units) (x_var 3) (x_str (by decide +kernel) (by decide)))
  (ss_cons (s_ret (x_if (t_cmp (o_eq hr.units) (x_var 6) (x_var 7)) (x_tup (a_cons (x_tup (a_cons (x_var 5) (a_cons (x_var 8) a_nil))) a_nil)) (x_tup a_nil)))
  ss_nil)
  ss_nil)
  (ss_cons (s_if (t_cmp o_gt (x_b (c_max2 (by rfl)) (by rfl) C.z_max bb_max (a_cons (x_op o_add (x_call (ok__law_b_size C n) hr (a_cons (x_var 5) a_nil)) (x_call (ok__law_b_size C n) hr (a_cons (x_var 7) a_nil))) (a_cons (x_op o_add (x_call (ok__law_b_size C n) hr (a_cons (x_var 6) a_nil)) (x_call (ok__law_b_size C n) hr (a_cons (x_var 8) a_nil))) a_nil))) x_int)
  (ss_cons (s_ret (x_tup a_nil))
  ss_nil)
  ss_nil)
  (ss_cons (s_ret (x_tup (a_cons (x_tup (a_cons (x_tup (a_cons (x_var 5) (a_cons (x_var 7) a_nil))) (a_cons (x_tup (a_cons (x_var 6) (a_cons (x_var 8) a_nil))) a_nil))) a_nil)))
  ss_nil)))))))))))))
theorem sc__law_b_run : FnScope ["clauses", "proof", "derived", "step", "found"] ["clauses", "proof"] (defScope (topS 26)) := ⟨rfl, rfl, rfl, by decide +kernel, rfl, by decide +kernel, by decide +kernel⟩
theorem nd__law_b_run : List.Nodup (["clauses", "proof", "derived", "step", "found"] : List Str) := sc__law_b_run.nd
theorem ok__law_b_run (C : Tops K mg) : ∀ n, Cal P w K mg base n "_law_b_run" 2 (F__law_b_run n)
  | 0 => by
    obtain ⟨f, fd, F, hm, b⟩ := C.d__law_b_run
    exact cal_zero hm F.kp b
  | n + 1 => by
    obtain ⟨f, fd, F, hm, b⟩ := C.d__law_b_run
    exact cal_mk hm F.kp b rfl (fn_ok F sc__law_b_run fun cdv A outer s H E hr =>
  ss_cons (s_set nd__law_b_run (x_lstC a_nil))
  (ss_cons (s_for PassesOwn.never (by rfl) (i_seq (x_var 1)) (g_var nd__law_b_run)
  (ss_cons (s_set nd__law_b_run (x_call (ok__law_b_step C n) hr (a_cons (x_var 0) (a_cons (x_var 2) (a_cons (x_var 3) a_nil)))))
  (ss_cons (s_if (t_cmp (o_eq hr.units) (x_var 4) (x_tup a_nil))
  (ss_cons (s_ret x_non)
  ss_nil)
  ss_nil)
  (ss_cons (s_drop (x_lm m_append PySem.F.plainAttrs_list PySem.F.slot_list_append PySem.F.type_list_append (x_var 2) (a_cons (x_ix (x_var 4) x_int) a_nil)))
  ss_nil))))
  (ss_cons (s_ret (x_var 2))
  ss_nil)))
theorem sc__law_b_next : FnScope ["tape", "clauses", "derived", "pool", "choice", "able", "term", "one", "ends", "other", "sizes", "place", "steps", "premise", "found", "k", "s"] ["tape", "clauses", "derived", "pool"] (defScope (topS 27)) := ⟨rfl, rfl, rfl, by decide +kernel, rfl, by decide +kernel, by decide +kernel⟩
theorem nd__law_b_next : List.Nodup (["tape", "clauses", "derived", "pool", "choice", "able", "term", "one", "ends", "other", "sizes", "place", "steps", "premise", "found", "k", "s"] : List Str) := sc__law_b_next.nd
theorem ok__law_b_next (C : Tops K mg) : ∀ n, Cal P w K mg base n "_law_b_next" 4 (F__law_b_next n)
  | 0 => by
    obtain ⟨f, fd, F, hm, b⟩ := C.d__law_b_next
    exact cal_zero hm F.kp b
  | n + 1 => by
    obtain ⟨f, fd, F, hm, b⟩ := C.d__law_b_next
    exact cal_mk hm F.kp b rfl (fn_ok F sc__law_b_next fun cdv A outer s H E hr =>
  ss_cons (s_set nd__law_b_next (x_call (ok__law_draw C n) hr (a_cons (x_var 0) (a_cons x_int a_nil))))
  (ss_cons (s_setLc (by rfl) nd__law_b_next (by rfl) (by rfl) (sw_true (by rfl) (by rfl) (by rfl) (by decide +kernel)) (i_range1 (by rfl) C.z_range (x_b c_len (by rfl) C.z_len bb_len (a_cons (x_var 2) a_nil))) (blkOk_by (N := ["tape", "clauses", "derived", "pool", "choice", "able", "term", "one", "ends", "other", "sizes", "place", "steps", "premise", "found", "k", "s"]) (sc := defScope (topS 27)) (own := [("k", 15)]) (by decide +kernel)) (fun _ _ _ _ _ => pg_name (i := 15) nd__law_b_next (by rfl) (by first | exact Or.inl rfl | exact Or.inr rfl)) (fun _ _ _ _ _ => ts_one (t_cmp o_notN (x_ix (x_var 2) (x_var 15)) x_non)) (fun _ _ _ _ _ => x_var 15))
  (ss_cons (s_set nd__law_b_next (x_call (ok__law_pick C n) hr (a_cons (x_var 0) (a_cons (x_var 3) a_nil))))
  (ss_cons (s_if (t_pw (w_or (t_cmp (o_eq hr.units) (x_var 5) (x_lst a_nil)) (w_or1 (t_cmp (o_eq hr.units) (x_var 4) x_int))))
  (ss_cons (s_ret (x_tup (a_cons (x_str (by decide +kernel) (by decide)) (a_cons (x_var 6) a_nil))))
  ss_nil)
  ss_nil)
  (ss_cons (s_set nd__law_b_next (x_call (ok__law_pick C n) hr (a_cons (x_var 0) (a_cons (x_var 5) a_nil))))
  (ss_cons (s_if (t_cmp (o_eq hr.units) (x_var 4) x_int)
  (ss_cons (s_ret (x_tup (a_cons (x_str (by decide +kernel) (by decide)) (a_cons (x_var 7) a_nil))))
  ss_nil)
  ss_nil)
  (ss_cons (s_if (t_cmp (o_eq hr.units) (x_var 4) x_int)
  (ss_cons (s_setLc (by rfl) nd__law_b_next (by rfl) (by rfl) (sw_true (by rfl) (by rfl) (by rfl) (by decide +kernel)) (i_seq (x_var 5)) (blkOk_by (N := ["tape", "clauses", "derived", "pool", "choice", "able", "term", "one", "ends", "other", "sizes", "place", "steps", "premise", "found", "k", "s"]) (sc := defScope (topS 27)) (own := [("k", 15)]) (by decide +kernel)) (fun _ _ _ _ _ => pg_name (i := 15) nd__law_b_next (by rfl) (by first | exact Or.inl rfl | exact Or.inr rfl)) (fun _ _ _ _ _ => ts_one (t_cmp (o_eq hr.units) (x_ix (x_ix (x_var 2) (x_var 15)) x_int) (x_ix (x_ix (x_var 2) (x_var 7)) x_int))) (fun _ _ _ _ _ => x_var 15))
  (ss_cons (s_ret (x_if (t_cmp (o_ne hr.units) (x_var 8) (x_lst a_nil)) (x_tup (a_cons (x_str (by decide +kernel) (by decide)) (a_cons (x_var 7) (a_cons (x_call (ok__law_pick C n) hr (a_cons (x_var 0) (a_cons (x_var 8) a_nil))) a_nil)))) (x_tup (a_cons (x_str (by decide +kernel) (by decide)) (a_cons (x_var 7) a_nil)))))
  ss_nil))
  ss_nil)
  (ss_cons (s_if (t_cmp (o_eq hr.units) (x_var 4) x_int)
  (ss_cons (s_set nd__law_b_next (x_call (ok__law_pick C n) hr (a_cons (x_var 0) (a_cons (x_var 5) a_nil))))
  (ss_cons (s_setLc (by rfl) nd__law_b_next (by rfl) (by rfl) (sw_true (by rfl) (by rfl) (by rfl) (by decide +kernel)) (i_seq (x_lst (a_cons x_int (a_cons x_int a_nil)))) (blkOk_by (N := ["tape", "clauses", "derived", "pool", "choice", "able", "term", "one", "ends", "other", "sizes", "place", "steps", "premise", "found", "k", "s"]) (sc := defScope (topS 27)) (own := [("s", 16)]) (by decide +kernel)) (fun _ _ _ _ _ => pg_name (i := 16) nd__law_b_next (by rfl) (by first | exact Or.inl rfl | exact Or.inr rfl)) (fun _ _ _ _ _ => ts_nil) (fun _ _ _ _ _ => x_op o_add (x_call (ok__law_b_size C n) hr (a_cons (x_ix (x_ix (x_var 2) (x_var 7)) (x_var 16)) a_nil)) (x_call (ok__law_b_size C n) hr (a_cons (x_ix (x_ix (x_var 2) (x_var 9)) (x_var 16)) a_nil))))
  (ss_cons (s_ret (x_if (t_cmp o_le (x_b (c_maxL (by rfl)) (by rfl) C.z_max bb_max (a_cons (x_var 10) a_nil)) x_int) (x_tup (a_cons (x_str (by decide +kernel) (by decide)) (a_cons (x_var 7) (a_cons (x_var 9) a_nil)))) (x_tup (a_cons (x_str (by decide +kernel) (by decide)) (a_cons (x_var 7) a_nil)))))
  ss_nil)))
  ss_nil)
  (ss_cons (s_set nd__law_b_next (x_call (ok__law_draw C n) hr (a_cons (x_var 0) (a_cons (x_b c_len (by rfl) C.z_len bb_len (a_cons (x_var 1) a_nil)) a_nil))))
  (ss_cons (s_set nd__law_b_next (x_lstC a_nil))
  (ss_cons (s_for PassesOwn.never (by rfl) (i_seq (x_ix (x_ix (x_var 1) (x_var 11)) x_int)) (g_var nd__law_b_next)
  (ss_cons (s_setLc (by rfl) nd__law_b_next (by rfl) (by rfl) (sw_true (by rfl) (by rfl) (by rfl) (by decide +kernel)) (i_seq (x_var 5)) (blkOk_by (N := ["tape", "clauses", "derived", "pool", "choice", "able", "term", "one", "ends", "other", "sizes", "place", "steps", "premise", "found", "k", "s"]) (sc := defScope (topS 27)) (own := [("k", 15)]) (by decide +kernel)) (fun _ _ _ _ _ => pg_name (i := 15) nd__law_b_next (by rfl) (by first | exact Or.inl rfl | exact Or.inr rfl)) (fun _ _ _ _ _ => ts_one (t_cmp (o_eq hr.units) (x_ix (x_var 2) (x_var 15)) (x_var 13))) (fun _ _ _ _ _ => x_var 15))
  (ss_cons (s_if (t_cmp (o_eq hr.units) (x_var 14) (x_lst a_nil))
  (ss_cons (s_ret (x_tup (a_cons (x_str (by decide +kernel) (by decide)) (a_cons (x_var 6) a_nil))))
  ss_nil)
  ss_nil)
  (ss_cons (s_drop (x_lm m_append PySem.F.plainAttrs_list PySem.F.slot_list_append PySem.F.type_list_append (x_var 12) (a_cons (x_call (ok__law_pick C n) hr (a_cons (x_var 0) (a_cons (x_var 14) a_nil))) a_nil)))
  ss_nil))))
  (ss_cons (s_ret (x_tup (a_cons (x_str (by decide +kernel) (by decide)) (a_cons (x_var 11) (a_cons (x_ty c_tuple (by rfl) C.z_tuple bb_tuple (a_cons (x_var 12) a_nil)) a_nil)))))
  ss_nil))))))))))))
theorem sc__law_b_costs : FnScope ["proof", "weights", "costs", "step", "k"] ["proof", "weights"] (defScope (topS 28)) := ⟨rfl, rfl, rfl, by decide +kernel, rfl, by decide +kernel, by decide +kernel⟩
theorem nd__law_b_costs : List.Nodup (["proof", "weights", "costs", "step", "k"] : List Str) := sc__law_b_costs.nd
theorem ok__law_b_costs (C : Tops K mg) : ∀ n, Cal P w K mg base n "_law_b_costs" 2 (F__law_b_costs n)
  | 0 => by
    obtain ⟨f, fd, F, hm, b⟩ := C.d__law_b_costs
    exact cal_zero hm F.kp b
  | n + 1 => by
    obtain ⟨f, fd, F, hm, b⟩ := C.d__law_b_costs
    exact cal_mk hm F.kp b rfl (fn_ok F sc__law_b_costs fun cdv A outer s H E hr =>
  ss_cons (s_set nd__law_b_costs (x_lstC a_nil))
  (ss_cons (s_for PassesOwn.never (by rfl) (i_seq (x_var 0)) (g_var nd__law_b_costs)
  (ss_cons (s_if (t_cmp (o_eq hr.units) (x_ix (x_var 3) x_int) (x_str (by decide +kernel) (by decide)))
  (ss_cons (s_drop (x_lm m_append PySem.F.plainAttrs_list PySem.F.slot_list_append PySem.F.type_list_append (x_var 2) (a_cons x_int a_nil)))
  ss_nil)
  (ss_cons (s_if (t_cmp (o_eq hr.units) (x_ix (x_var 3) x_int) (x_str (by decide +kernel) (by decide)))
  (ss_cons (s_drop (x_lm m_append PySem.F.plainAttrs_list PySem.F.slot_list_append PySem.F.type_list_append (x_var 2) (a_cons (x_op o_add (x_ix (x_var 1) (x_ix (x_var 3) x_int)) (x_b (c_sum (by rfl)) (by rfl) C.z_sum bb_sum (a_cons (x_lc (by rfl) nd__law_b_costs (i_seq (x_ix (x_var 3) x_int)) (blkOk_by (N := ["proof", "weights", "costs", "step", "k"]) (sc := defScope (topS 28)) (own := [("k", 4)]) (by decide +kernel)) (fun _ _ _ _ _ => pg_name (i := 4) nd__law_b_costs (by rfl) (by first | exact Or.inl rfl | exact Or.inr rfl)) (fun _ _ _ _ _ => ts_nil) (fun _ _ _ _ _ => x_ix (x_var 2) (x_var 4))) a_nil))) a_nil)))
  ss_nil)
  (ss_cons (s_drop (x_lm m_append PySem.F.plainAttrs_list PySem.F.slot_list_append PySem.F.type_list_append (x_var 2) (a_cons (x_b (c_sum (by rfl)) (by rfl) C.z_sum bb_sum (a_cons (x_lc (by rfl) nd__law_b_costs (i_seq (x_sl (x_ty c_list (by rfl) C.z_list bb_list (a_cons (x_var 3) a_nil)) (o_some x_int) o_none)) (blkOk_by (N := ["proof", "weights", "costs", "step", "k"]) (sc := defScope (topS 28)) (own := [("k", 4)]) (by decide +kernel)) (fun _ _ _ _ _ => pg_name (i := 4) nd__law_b_costs (by rfl) (by first | exact Or.inl rfl | exact Or.inr rfl)) (fun _ _ _ _ _ => ts_nil) (fun _ _ _ _ _ => x_ix (x_var 2) (x_var 4))) a_nil)) a_nil)))
  ss_nil))
  ss_nil))
  ss_nil))
  (ss_cons (s_ret (x_var 2))
  ss_nil)))
theorem sc__law_b34_held : FnScope ["tape", "names", "pool", "pair", "clauses", "weights", "steps", "derived", "turn", "step", "due", "place", "other", "cut", "proof", "k", "clause"] ["tape"] (defScope (topS 29)) := ⟨rfl, rfl, rfl, by decide +kernel, rfl, by decide +kernel, by decide +kernel⟩
theorem nd__law_b34_held : List.Nodup (["tape", "names", "pool", "pair", "clauses", "weights", "steps", "derived", "turn", "step", "due", "place", "other", "cut", "proof", "k", "clause"] : List Str) := sc__law_b34_held.nd
theorem ok__law_b34_held (C : Tops K mg) : ∀ n, Cal P w K mg base n "_law_b34_held" 1 (F__law_b34_held n)
  | 0 => by
    obtain ⟨f, fd, F, hm, b⟩ := C.d__law_b34_held
    exact cal_zero hm F.kp b
  | n + 1 => by
    obtain ⟨f, fd, F, hm, b⟩ := C.d__law_b34_held
    exact cal_mk hm F.kp b rfl (fn_ok F sc__law_b34_held fun cdv A outer s H E hr =>
  ss_cons (s_set nd__law_b34_held (x_call (ok__law_b_names C n) hr (a_cons (x_var 0) (a_cons (x_op o_add x_int (x_call (ok__law_draw C n) hr (a_cons (x_var 0) (a_cons x_int a_nil)))) a_nil))))
  (ss_cons (s_set nd__law_b34_held (x_call (ok__law_b_pool C n) hr (a_cons (x_var 0) (a_cons (x_var 1) (a_cons (x_call (ok__law_draw C n) hr (a_cons (x_var 0) (a_cons x_int a_nil))) a_nil)))))
  (ss_cons (s_set nd__law_b34_held (x_tup (a_cons (x_ix (x_var 2) x_int) (a_cons (x_ix (x_var 2) (x_op o_sub (x_b c_len (by rfl) C.z_len bb_len (a_cons (x_var 2) a_nil)) x_int)) a_nil))))
  (ss_cons (s_set nd__law_b34_held (x_lst (a_cons (x_tup (a_cons (x_tup a_nil) (a_cons (x_var 3) a_nil))) (a_cons (x_tup (a_cons (x_tup (a_cons (x_var 3) (a_cons (x_var 3) a_nil))) (a_cons (x_call (ok__law_b_pair C n) hr (a_cons (x_var 0) (a_cons (x_var 2) a_nil))) a_nil))) a_nil))))
  (ss_cons (s_set nd__law_b34_held (x_op o_add (x_var 4) (x_lc (by rfl) nd__law_b34_held (i_range1 (by rfl) C.z_range (x_call (ok__law_draw C n) hr (a_cons (x_var 0) (a_cons x_int a_nil)))) (blkOk_by (N := ["tape", "names", "pool", "pair", "clauses", "weights", "steps", "derived", "turn", "step", "due", "place", "other", "cut", "proof", "k", "clause"]) (sc := defScope (topS 29)) (own := [("k", 15)]) (by decide +kernel)) (fun _ _ _ _ _ => pg_name (i := 15) nd__law_b34_held (by rfl) (by first | exact Or.inl rfl | exact Or.inr rfl)) (fun _ _ _ _ _ => ts_nil) (fun _ _ _ _ _ => x_call (ok__law_b_clause C n) hr (a_cons (x_var 0) (a_cons (x_var 2) a_nil))))))
  (ss_cons (s_setLc (by rfl) nd__law_b34_held (by rfl) (by rfl) (sw_true (by rfl) (by rfl) (by rfl) (by decide +kernel)) (i_seq (x_var 4)) (blkOk_by (N := ["tape", "names", "pool", "pair", "clauses", "weights", "steps", "derived", "turn", "step", "due", "place", "other", "cut", "proof", "k", "clause"]) (sc := defScope (topS 29)) (own := [("clause", 16)]) (by decide +kernel)) (fun _ _ _ _ _ => pg_name (i := 16) nd__law_b34_held (by rfl) (by first | exact Or.inl rfl | exact Or.inr rfl)) (fun _ _ _ _ _ => ts_nil) (fun _ _ _ _ _ => x_call (ok__law_b_worth C n) hr (a_cons (x_var 0) a_nil)))
  (ss_cons (s_set nd__law_b34_held (x_lstC (a_cons (x_tup (a_cons (x_str (by decide +kernel) (by decide)) (a_cons x_int (a_cons (x_tup a_nil) a_nil)))) (a_cons (x_tup (a_cons (x_str (by decide +kernel) (by decide)) (a_cons x_int a_nil))) (a_cons (x_tup (a_cons (x_str (by decide +kernel) (by decide)) (a_cons x_int (a_cons x_int a_nil)))) (a_cons (x_tup (a_cons (x_str (by decide +kernel) (by decide)) (a_cons x_int (a_cons x_int a_nil)))) (a_cons (x_tup (a_cons (x_str (by decide +kernel) (by decide)) (a_cons x_int (a_cons (x_tup (a_cons x_int (a_cons x_int a_nil))) a_nil)))) a_nil)))))))
  (ss_cons (s_set nd__law_b34_held (x_call (ok__law_b_run C n) hr (a_cons (x_var 4) (a_cons (x_var 6) a_nil))))
  (ss_cons (s_for PassesOwn.never (by rfl) (i_range1 (by rfl) C.z_range (x_call (ok__law_draw C n) hr (a_cons (x_var 0) (a_cons x_int a_nil)))) (g_var nd__law_b34_held)
  (ss_cons (s_set nd__law_b34_held (x_call (ok__law_b_next C n) hr (a_cons (x_var 0) (a_cons (x_var 4) (a_cons (x_var 7) (a_cons (x_var 2) a_nil))))))
  (ss_cons (s_drop (x_lm m_append PySem.F.plainAttrs_list PySem.F.slot_list_append PySem.F.type_list_append (x_var 7) (a_cons (x_ix (x_call (ok__law_b_step C n) hr (a_cons (x_var 4) (a_cons (x_var 7) (a_cons (x_var 9) a_nil)))) x_int) a_nil)))
  (ss_cons (s_drop (x_lm m_append PySem.F.plainAttrs_list PySem.F.slot_list_append PySem.F.type_list_append (x_var 6) (a_cons (x_var 9) a_nil)))
  ss_nil))))
  (ss_cons (s_set nd__law_b34_held (x_ty c_tuple (by rfl) C.z_tuple bb_tuple (a_cons (x_call (ok__law_b_costs C n) hr (a_cons (x_var 6) (a_cons (x_var 5) a_nil))) a_nil)))
  (ss_cons (s_if (t_not (t_val (x_call (ok__law_same C n) hr (a_cons (x_call (ok_steps_cost C n) hr (a_cons (x_ty c_tuple (by rfl) C.z_tuple bb_tuple (a_cons (x_var 6) a_nil)) (a_cons (x_ty c_tuple (by rfl) C.z_tuple bb_tuple (a_cons (x_var 5) a_nil)) a_nil))) (a_cons (x_var 10) a_nil)))))
  (ss_cons (s_ret x_bl)
  ss_nil)
  ss_nil)
  (ss_cons (s_set nd__law_b34_held (x_call (ok__law_draw C n) hr (a_cons (x_var 0) (a_cons (x_b c_len (by rfl) C.z_len bb_len (a_cons (x_var 5) a_nil)) a_nil))))
  (ss_cons (s_set nd__law_b34_held (x_ty c_list (by rfl) C.z_list bb_list (a_cons (x_var 5) a_nil)))
  (ss_cons (s_sub (x_op o_add x_int (x_op o_mod (x_ty c_int (by rfl) C.z_int bb_int (a_cons (x_ix (x_var 5) (x_var 11)) a_nil)) x_int)) (x_var 12) (x_var 11))
  (ss_cons (s_set nd__law_b34_held (x_call (ok__law_draw C n) hr (a_cons (x_var 0) (a_cons (x_op o_add (x_b c_len (by rfl) C.z_len bb_len (a_cons (x_var 6) a_nil)) x_int) a_nil))))
  (ss_cons (s_for PassesOwn.never (by rfl) (i_seq (x_lst (a_cons (x_var 6) (a_cons (x_sl (x_var 6) o_none (o_some (x_var 13))) (a_cons (x_lst a_nil) a_nil))))) (g_var nd__law_b34_held)
  (ss_cons (s_if (t_not (t_val (x_call (ok__law_same C n) hr (a_cons (x_call (ok_steps_cost C n) hr (a_cons (x_ty c_tuple (by rfl) C.z_tuple bb_tuple (a_cons (x_var 14) a_nil)) (a_cons (x_ty c_tuple (by rfl) C.z_tuple bb_tuple (a_cons (x_var 12) a_nil)) a_nil))) (a_cons (x_ty c_tuple (by rfl) C.z_tuple bb_tuple (a_cons (x_call (ok__law_b_costs C n) hr (a_cons (x_var 14) (a_cons (x_var 12) a_nil))) a_nil)) a_nil)))))
  (ss_cons (s_ret x_bl)
  ss_nil)
  ss_nil)
  ss_nil))
  (ss_cons (s_ret (x_call (ok__law_same C n) hr (a_cons (x_call (ok_steps_cost C n) hr (a_cons (x_ty c_tuple (by rfl) C.z_tuple bb_tuple (a_cons (x_var 6) a_nil)) (a_cons (x_ty c_tuple (by rfl) C.z_tuple bb_tuple (a_cons (x_var 5) a_nil)) a_nil))) (a_cons (x_var 10) a_nil))))
  ss_nil)))))))))))))))))
theorem sc_law : FnScope ["script"] ["script"] (defScope (topS 30)) := ⟨rfl, rfl, rfl, by decide +kernel, rfl, by decide +kernel, by decide +kernel⟩
theorem nd_law : List.Nodup (["script"] : List Str) := sc_law.nd
theorem fn_law {f : Addr} {fd : FuncData} {n : Nat} (C : Tops K mg) (F : Fun K "law" "law" (topS 30) f fd) : FnOk P w K mg base L2.CX0 (n + 1) f fd ["script"] (spP K (F_law (n + 1)) 1) := fn_ok F sc_law fun cdv A outer s H E hr =>
  ss_cons (s_try (ss_cons (s_ret (x_call (ok__law_b34_held C n) hr (a_cons (x_call (ok__law_tape C n) hr (a_cons (x_var 0) a_nil)) a_nil)))
  ss_nil))
  ss_nil
theorem fd_law {fa : Addr} (hl : ∀ ns : List Int, ns.length ≤ 63 → ∃ φ, F_law 90 [.scr ns] [] = .ok (.bl true) φ) (C : Tops K mg) (hm : mg "law" = some (.ref fa)) :
    ∃ fd : FuncData, (∀ (s : Shared) (v : Value), BindsTo s fd ⟨[v], []⟩ [("script", v)]) ∧ ∀ base : Heap, K.In base → base.Ns mainGlobals mg → FnOk P w K mg base L2.CX0 90 fa fd ["script"] (spLaw K) := by
  obtain ⟨f, fd, F, hm', b⟩ := C.d_law
  rw [hm] at hm'; cases hm'
  obtain ⟨oc, od, kV, doc, pm, an, cdv, ct, osl, rfl, lk, hcd⟩ := F.ex
  exact ⟨_, fun s v => .of_eq rfl, fun base _ _ => (fn_law (n := 89) C F).imp (sp_law hl)⟩
end
end T

namespace T
open PySem PySem.Spec PyProof.Rows L2 PL
theorem tops_mk {K : PySem.W.Frag} {h : Heap} {mg : Str → Option Value} (X : K.In h) (G : h.Ns mainGlobals mg)
    {f0 : Addr} {od0 an0 : Option Addr} {sl0 : Array (Option Value)} {oc0 kV0 dc0 pm0 cd0 ct0 : Value}
    (a0 : PySem.W.nsIn K mainGlobals "references_of" = some (some (.ref f0))) (l0 : K.lookup f0 = some ⟨oc0, od0, .func (PySem.W.fnOf "references_of" "references_of" (defArgs (topS 5)) (defBody (topS 5)) (defScope (topS 5)) .none kV0 dc0 pm0 an0 cd0 ct0), sl0⟩) (c0 : PySem.W.codeIn K cd0 "references_of" = true) (k0 : PySem.W.keepIn K (.ref f0) = true)
    {f1 : Addr} {od1 an1 : Option Addr} {sl1 : Array (Option Value)} {oc1 kV1 dc1 pm1 cd1 ct1 : Value}
    (a1 : PySem.W.nsIn K mainGlobals "step_cost" = some (some (.ref f1))) (l1 : K.lookup f1 = some ⟨oc1, od1, .func (PySem.W.fnOf "step_cost" "step_cost" (defArgs (topS 7)) (defBody (topS 7)) (defScope (topS 7)) .none kV1 dc1 pm1 an1 cd1 ct1), sl1⟩) (c1 : PySem.W.codeIn K cd1 "step_cost" = true) (k1 : PySem.W.keepIn K (.ref f1) = true)
    {f2 : Addr} {od2 an2 : Option Addr} {sl2 : Array (Option Value)} {oc2 kV2 dc2 pm2 cd2 ct2 : Value}
    (a2 : PySem.W.nsIn K mainGlobals "steps_cost" = some (some (.ref f2))) (l2 : K.lookup f2 = some ⟨oc2, od2, .func (PySem.W.fnOf "steps_cost" "steps_cost" (defArgs (topS 8)) (defBody (topS 8)) (defScope (topS 8)) .none kV2 dc2 pm2 an2 cd2 ct2), sl2⟩) (c2 : PySem.W.codeIn K cd2 "steps_cost" = true) (k2 : PySem.W.keepIn K (.ref f2) = true)
    {f3 : Addr} {od3 an3 : Option Addr} {sl3 : Array (Option Value)} {oc3 kV3 dc3 pm3 cd3 ct3 : Value}
    (a3 : PySem.W.nsIn K mainGlobals "_law_tape" = some (some (.ref f3))) (l3 : K.lookup f3 = some ⟨oc3, od3, .func (PySem.W.fnOf "_law_tape" "_law_tape" (defArgs (topS 10)) (defBody (topS 10)) (defScope (topS 10)) .none kV3 dc3 pm3 an3 cd3 ct3), sl3⟩) (c3 : PySem.W.codeIn K cd3 "_law_tape" = true) (k3 : PySem.W.keepIn K (.ref f3) = true)
    {f4 : Addr} {od4 an4 : Option Addr} {sl4 : Array (Option Value)} {oc4 kV4 dc4 pm4 cd4 ct4 : Value}
    (a4 : PySem.W.nsIn K mainGlobals "_law_draw" = some (some (.ref f4))) (l4 : K.lookup f4 = some ⟨oc4, od4, .func (PySem.W.fnOf "_law_draw" "_law_draw" (defArgs (topS 11)) (defBody (topS 11)) (defScope (topS 11)) .none kV4 dc4 pm4 an4 cd4 ct4), sl4⟩) (c4 : PySem.W.codeIn K cd4 "_law_draw" = true) (k4 : PySem.W.keepIn K (.ref f4) = true)
    {f5 : Addr} {od5 an5 : Option Addr} {sl5 : Array (Option Value)} {oc5 kV5 dc5 pm5 cd5 ct5 : Value}
    (a5 : PySem.W.nsIn K mainGlobals "_law_pick" = some (some (.ref f5))) (l5 : K.lookup f5 = some ⟨oc5, od5, .func (PySem.W.fnOf "_law_pick" "_law_pick" (defArgs (topS 12)) (defBody (topS 12)) (defScope (topS 12)) .none kV5 dc5 pm5 an5 cd5 ct5), sl5⟩) (c5 : PySem.W.codeIn K cd5 "_law_pick" = true) (k5 : PySem.W.keepIn K (.ref f5) = true)
    {f6 : Addr} {od6 an6 : Option Addr} {sl6 : Array (Option Value)} {oc6 kV6 dc6 pm6 cd6 ct6 : Value}
    (a6 : PySem.W.nsIn K mainGlobals "_law_same" = some (some (.ref f6))) (l6 : K.lookup f6 = some ⟨oc6, od6, .func (PySem.W.fnOf "_law_same" "_law_same" (defArgs (topS 13)) (defBody (topS 13)) (defScope (topS 13)) .none kV6 dc6 pm6 an6 cd6 ct6), sl6⟩) (c6 : PySem.W.codeIn K cd6 "_law_same" = true) (k6 : PySem.W.keepIn K (.ref f6) = true)
    {f7 : Addr} {od7 an7 : Option Addr} {sl7 : Array (Option Value)} {oc7 kV7 dc7 pm7 cd7 ct7 : Value}
    (a7 : PySem.W.nsIn K mainGlobals "_law_b_names" = some (some (.ref f7))) (l7 : K.lookup f7 = some ⟨oc7, od7, .func (PySem.W.fnOf "_law_b_names" "_law_b_names" (defArgs (topS 14)) (defBody (topS 14)) (defScope (topS 14)) .none kV7 dc7 pm7 an7 cd7 ct7), sl7⟩) (c7 : PySem.W.codeIn K cd7 "_law_b_names" = true) (k7 : PySem.W.keepIn K (.ref f7) = true)
    {f8 : Addr} {od8 an8 : Option Addr} {sl8 : Array (Option Value)} {oc8 kV8 dc8 pm8 cd8 ct8 : Value}
    (a8 : PySem.W.nsIn K mainGlobals "_law_b_size" = some (some (.ref f8))) (l8 : K.lookup f8 = some ⟨oc8, od8, .func (PySem.W.fnOf "_law_b_size" "_law_b_size" (defArgs (topS 15)) (defBody (topS 15)) (defScope (topS 15)) .none kV8 dc8 pm8 an8 cd8 ct8), sl8⟩) (c8 : PySem.W.codeIn K cd8 "_law_b_size" = true) (k8 : PySem.W.keepIn K (.ref f8) = true)
    {f9 : Addr} {od9 an9 : Option Addr} {sl9 : Array (Option Value)} {oc9 kV9 dc9 pm9 cd9 ct9 : Value}
    (a9 : PySem.W.nsIn K mainGlobals "_law_b_depth" = some (some (.ref f9))) (l9 : K.lookup f9 = some ⟨oc9, od9, .func (PySem.W.fnOf "_law_b_depth" "_law_b_depth" (defArgs (topS 16)) (defBody (topS 16)) (defScope (topS 16)) .none kV9 dc9 pm9 an9 cd9 ct9), sl9⟩) (c9 : PySem.W.codeIn K cd9 "_law_b_depth" = true) (k9 : PySem.W.keepIn K (.ref f9) = true)
    {f10 : Addr} {od10 an10 : Option Addr} {sl10 : Array (Option Value)} {oc10 kV10 dc10 pm10 cd10 ct10 : Value}
    (a10 : PySem.W.nsIn K mainGlobals "_law_b_pool" = some (some (.ref f10))) (l10 : K.lookup f10 = some ⟨oc10, od10, .func (PySem.W.fnOf "_law_b_pool" "_law_b_pool" (defArgs (topS 17)) (defBody (topS 17)) (defScope (topS 17)) .none kV10 dc10 pm10 an10 cd10 ct10), sl10⟩) (c10 : PySem.W.codeIn K cd10 "_law_b_pool" = true) (k10 : PySem.W.keepIn K (.ref f10) = true)
    {f11 : Addr} {od11 an11 : Option Addr} {sl11 : Array (Option Value)} {oc11 kV11 dc11 pm11 cd11 ct11 : Value}
    (a11 : PySem.W.nsIn K mainGlobals "_law_b_pair" = some (some (.ref f11))) (l11 : K.lookup f11 = some ⟨oc11, od11, .func (PySem.W.fnOf "_law_b_pair" "_law_b_pair" (defArgs (topS 18)) (defBody (topS 18)) (defScope (topS 18)) .none kV11 dc11 pm11 an11 cd11 ct11), sl11⟩) (c11 : PySem.W.codeIn K cd11 "_law_b_pair" = true) (k11 : PySem.W.keepIn K (.ref f11) = true)
    {f12 : Addr} {od12 an12 : Option Addr} {sl12 : Array (Option Value)} {oc12 kV12 dc12 pm12 cd12 ct12 : Value}
    (a12 : PySem.W.nsIn K mainGlobals "_law_b_clause" = some (some (.ref f12))) (l12 : K.lookup f12 = some ⟨oc12, od12, .func (PySem.W.fnOf "_law_b_clause" "_law_b_clause" (defArgs (topS 19)) (defBody (topS 19)) (defScope (topS 19)) .none kV12 dc12 pm12 an12 cd12 ct12), sl12⟩) (c12 : PySem.W.codeIn K cd12 "_law_b_clause" = true) (k12 : PySem.W.keepIn K (.ref f12) = true)
    {f13 : Addr} {od13 an13 : Option Addr} {sl13 : Array (Option Value)} {oc13 kV13 dc13 pm13 cd13 ct13 : Value}
    (a13 : PySem.W.nsIn K mainGlobals "_law_b_worth" = some (some (.ref f13))) (l13 : K.lookup f13 = some ⟨oc13, od13, .func (PySem.W.fnOf "_law_b_worth" "_law_b_worth" (defArgs (topS 20)) (defBody (topS 20)) (defScope (topS 20)) .none kV13 dc13 pm13 an13 cd13 ct13), sl13⟩) (c13 : PySem.W.codeIn K cd13 "_law_b_worth" = true) (k13 : PySem.W.keepIn K (.ref f13) = true)
    {f14 : Addr} {od14 an14 : Option Addr} {sl14 : Array (Option Value)} {oc14 kV14 dc14 pm14 cd14 ct14 : Value}
    (a14 : PySem.W.nsIn K mainGlobals "_law_b_is_name" = some (some (.ref f14))) (l14 : K.lookup f14 = some ⟨oc14, od14, .func (PySem.W.fnOf "_law_b_is_name" "_law_b_is_name" (defArgs (topS 21)) (defBody (topS 21)) (defScope (topS 21)) .none kV14 dc14 pm14 an14 cd14 ct14), sl14⟩) (c14 : PySem.W.codeIn K cd14 "_law_b_is_name" = true) (k14 : PySem.W.keepIn K (.ref f14) = true)
    {f15 : Addr} {od15 an15 : Option Addr} {sl15 : Array (Option Value)} {oc15 kV15 dc15 pm15 cd15 ct15 : Value}
    (a15 : PySem.W.nsIn K mainGlobals "_law_b_is_term" = some (some (.ref f15))) (l15 : K.lookup f15 = some ⟨oc15, od15, .func (PySem.W.fnOf "_law_b_is_term" "_law_b_is_term" (defArgs (topS 22)) (defBody (topS 22)) (defScope (topS 22)) .none kV15 dc15 pm15 an15 cd15 ct15), sl15⟩) (c15 : PySem.W.codeIn K cd15 "_law_b_is_term" = true) (k15 : PySem.W.keepIn K (.ref f15) = true)
    {f16 : Addr} {od16 an16 : Option Addr} {sl16 : Array (Option Value)} {oc16 kV16 dc16 pm16 cd16 ct16 : Value}
    (a16 : PySem.W.nsIn K mainGlobals "_law_b_is_number" = some (some (.ref f16))) (l16 : K.lookup f16 = some ⟨oc16, od16, .func (PySem.W.fnOf "_law_b_is_number" "_law_b_is_number" (defArgs (topS 23)) (defBody (topS 23)) (defScope (topS 23)) .none kV16 dc16 pm16 an16 cd16 ct16), sl16⟩) (c16 : PySem.W.codeIn K cd16 "_law_b_is_number" = true) (k16 : PySem.W.keepIn K (.ref f16) = true)
    {f17 : Addr} {od17 an17 : Option Addr} {sl17 : Array (Option Value)} {oc17 kV17 dc17 pm17 cd17 ct17 : Value}
    (a17 : PySem.W.nsIn K mainGlobals "_law_b_fired" = some (some (.ref f17))) (l17 : K.lookup f17 = some ⟨oc17, od17, .func (PySem.W.fnOf "_law_b_fired" "_law_b_fired" (defArgs (topS 24)) (defBody (topS 24)) (defScope (topS 24)) .none kV17 dc17 pm17 an17 cd17 ct17), sl17⟩) (c17 : PySem.W.codeIn K cd17 "_law_b_fired" = true) (k17 : PySem.W.keepIn K (.ref f17) = true)
    {f18 : Addr} {od18 an18 : Option Addr} {sl18 : Array (Option Value)} {oc18 kV18 dc18 pm18 cd18 ct18 : Value}
    (a18 : PySem.W.nsIn K mainGlobals "_law_b_step" = some (some (.ref f18))) (l18 : K.lookup f18 = some ⟨oc18, od18, .func (PySem.W.fnOf "_law_b_step" "_law_b_step" (defArgs (topS 25)) (defBody (topS 25)) (defScope (topS 25)) .none kV18 dc18 pm18 an18 cd18 ct18), sl18⟩) (c18 : PySem.W.codeIn K cd18 "_law_b_step" = true) (k18 : PySem.W.keepIn K (.ref f18) = true)
    {f19 : Addr} {od19 an19 : Option Addr} {sl19 : Array (Option Value)} {oc19 kV19 dc19 pm19 cd19 ct19 : Value}
    (a19 : PySem.W.nsIn K mainGlobals "_law_b_run" = some (some (.ref f19))) (l19 : K.lookup f19 = some ⟨oc19, od19, .func (PySem.W.fnOf "_law_b_run" "_law_b_run" (defArgs (topS 26)) (defBody (topS 26)) (defScope (topS 26)) .none kV19 dc19 pm19 an19 cd19 ct19), sl19⟩) (c19 : PySem.W.codeIn K cd19 "_law_b_run" = true) (k19 : PySem.W.keepIn K (.ref f19) = true)
    {f20 : Addr} {od20 an20 : Option Addr} {sl20 : Array (Option Value)} {oc20 kV20 dc20 pm20 cd20 ct20 : Value}
    (a20 : PySem.W.nsIn K mainGlobals "_law_b_next" = some (some (.ref f20))) (l20 : K.lookup f20 = some ⟨oc20, od20, .func (PySem.W.fnOf "_law_b_next" "_law_b_next" (defArgs (topS 27)) (defBody (topS 27)) (defScope (topS 27)) .none kV20 dc20 pm20 an20 cd20 ct20), sl20⟩) (c20 : PySem.W.codeIn K cd20 "_law_b_next" = true) (k20 : PySem.W.keepIn K (.ref f20) = true)
    {f21 : Addr} {od21 an21 : Option Addr} {sl21 : Array (Option Value)} {oc21 kV21 dc21 pm21 cd21 ct21 : Value}
    (a21 : PySem.W.nsIn K mainGlobals "_law_b_costs" = some (some (.ref f21))) (l21 : K.lookup f21 = some ⟨oc21, od21, .func (PySem.W.fnOf "_law_b_costs" "_law_b_costs" (defArgs (topS 28)) (defBody (topS 28)) (defScope (topS 28)) .none kV21 dc21 pm21 an21 cd21 ct21), sl21⟩) (c21 : PySem.W.codeIn K cd21 "_law_b_costs" = true) (k21 : PySem.W.keepIn K (.ref f21) = true)
    {f22 : Addr} {od22 an22 : Option Addr} {sl22 : Array (Option Value)} {oc22 kV22 dc22 pm22 cd22 ct22 : Value}
    (a22 : PySem.W.nsIn K mainGlobals "_law_b34_held" = some (some (.ref f22))) (l22 : K.lookup f22 = some ⟨oc22, od22, .func (PySem.W.fnOf "_law_b34_held" "_law_b34_held" (defArgs (topS 29)) (defBody (topS 29)) (defScope (topS 29)) .none kV22 dc22 pm22 an22 cd22 ct22), sl22⟩) (c22 : PySem.W.codeIn K cd22 "_law_b34_held" = true) (k22 : PySem.W.keepIn K (.ref f22) = true)
    {f23 : Addr} {od23 an23 : Option Addr} {sl23 : Array (Option Value)} {oc23 kV23 dc23 pm23 cd23 ct23 : Value}
    (a23 : PySem.W.nsIn K mainGlobals "law" = some (some (.ref f23))) (l23 : K.lookup f23 = some ⟨oc23, od23, .func (PySem.W.fnOf "law" "law" (defArgs (topS 30)) (defBody (topS 30)) (defScope (topS 30)) .none kV23 dc23 pm23 an23 cd23 ct23), sl23⟩) (c23 : PySem.W.codeIn K cd23 "law" = true) (k23 : PySem.W.keepIn K (.ref f23) = true)
    (z_abs : PySem.W.nsIn K mainGlobals "abs" = some none)
    (z_bool : PySem.W.nsIn K mainGlobals "bool" = some none)
    (z_int : PySem.W.nsIn K mainGlobals "int" = some none)
    (z_isinstance : PySem.W.nsIn K mainGlobals "isinstance" = some none)
    (z_len : PySem.W.nsIn K mainGlobals "len" = some none)
    (z_list : PySem.W.nsIn K mainGlobals "list" = some none)
    (z_max : PySem.W.nsIn K mainGlobals "max" = some none)
    (z_range : PySem.W.nsIn K mainGlobals "range" = some none)
    (z_str : PySem.W.nsIn K mainGlobals "str" = some none)
    (z_sum : PySem.W.nsIn K mainGlobals "sum" = some none)
    (z_tuple : PySem.W.nsIn K mainGlobals "tuple" = some none)
    {t_CLAUSE : Tok} (y_CLAUSE : PySem.W.nsIn K mainGlobals "CLAUSE" = some (some (.str (Str.ofString "clause") t_CLAUSE)))
    {t_REFLEXIVITY : Tok} (y_REFLEXIVITY : PySem.W.nsIn K mainGlobals "REFLEXIVITY" = some (some (.str (Str.ofString "reflexivity") t_REFLEXIVITY))) : Tops K mg :=
  ⟨def_mk X G a0 l0 c0 k0 (fun _ _ _ _ _ _ us hl => match us, hl with | [_], _ => rfl),
   def_mk X G a1 l1 c1 k1 (fun _ _ _ _ _ _ us hl => match us, hl with | [_, _, _], _ => rfl),
   def_mk X G a2 l2 c2 k2 (fun _ _ _ _ _ _ us hl => match us, hl with | [_, _], _ => rfl),
   def_mk X G a3 l3 c3 k3 (fun _ _ _ _ _ _ us hl => match us, hl with | [_], _ => rfl),
   def_mk X G a4 l4 c4 k4 (fun _ _ _ _ _ _ us hl => match us, hl with | [_, _], _ => rfl),
   def_mk X G a5 l5 c5 k5 (fun _ _ _ _ _ _ us hl => match us, hl with | [_, _], _ => rfl),
   def_mk X G a6 l6 c6 k6 (fun _ _ _ _ _ _ us hl => match us, hl with | [_, _], _ => rfl),
   def_mk X G a7 l7 c7 k7 (fun _ _ _ _ _ _ us hl => match us, hl with | [_, _], _ => rfl),
   def_mk X G a8 l8 c8 k8 (fun _ _ _ _ _ _ us hl => match us, hl with | [_], _ => rfl),
   def_mk X G a9 l9 c9 k9 (fun _ _ _ _ _ _ us hl => match us, hl with | [_], _ => rfl),
   def_mk X G a10 l10 c10 k10 (fun _ _ _ _ _ _ us hl => match us, hl with | [_, _, _], _ => rfl),
   def_mk X G a11 l11 c11 k11 (fun _ _ _ _ _ _ us hl => match us, hl with | [_, _], _ => rfl),
   def_mk X G a12 l12 c12 k12 (fun _ _ _ _ _ _ us hl => match us, hl with | [_, _], _ => rfl),
   def_mk X G a13 l13 c13 k13 (fun _ _ _ _ _ _ us hl => match us, hl with | [_], _ => rfl),
   def_mk X G a14 l14 c14 k14 (fun _ _ _ _ _ _ us hl => match us, hl with | [_], _ => rfl),
   def_mk X G a15 l15 c15 k15 (fun _ _ _ _ _ _ us hl => match us, hl with | [_], _ => rfl),
   def_mk X G a16 l16 c16 k16 (fun _ _ _ _ _ _ us hl => match us, hl with | [_, _], _ => rfl),
   def_mk X G a17 l17 c17 k17 (fun _ _ _ _ _ _ us hl => match us, hl with | [_, _, _, _], _ => rfl),
   def_mk X G a18 l18 c18 k18 (fun _ _ _ _ _ _ us hl => match us, hl with | [_, _, _], _ => rfl),
   def_mk X G a19 l19 c19 k19 (fun _ _ _ _ _ _ us hl => match us, hl with | [_, _], _ => rfl),
   def_mk X G a20 l20 c20 k20 (fun _ _ _ _ _ _ us hl => match us, hl with | [_, _, _, _], _ => rfl),
   def_mk X G a21 l21 c21 k21 (fun _ _ _ _ _ _ us hl => match us, hl with | [_, _], _ => rfl),
   def_mk X G a22 l22 c22 k22 (fun _ _ _ _ _ _ us hl => match us, hl with | [_], _ => rfl),
   def_mk X G a23 l23 c23 k23 (fun _ _ _ _ _ _ us hl => match us, hl with | [_], _ => rfl),
   PySem.W.mg_none_of X G z_abs,
   PySem.W.mg_none_of X G z_bool,
   PySem.W.mg_none_of X G z_int,
   PySem.W.mg_none_of X G z_isinstance,
   PySem.W.mg_none_of X G z_len,
   PySem.W.mg_none_of X G z_list,
   PySem.W.mg_none_of X G z_max,
   PySem.W.mg_none_of X G z_range,
   PySem.W.mg_none_of X G z_str,
   PySem.W.mg_none_of X G z_sum,
   PySem.W.mg_none_of X G z_tuple,
   ⟨_, PySem.W.mg_of X G y_CLAUSE⟩,
   ⟨_, PySem.W.mg_of X G y_REFLEXIVITY⟩⟩
end T
open PySem PySem.W PyProof.Rows
set_option maxHeartbeats 0 in
theorem PySem.Challenge.cw_fedeq_k34_steps_cost_as_often_as_told_holds : PySem.Challenge.rw_fedeq_k34_steps_cost_as_often_as_told.Holds := by
  w_on; o_law; k_head; (case hw => w_witness2)
  k_fill
  refine L2.walk_of (l := PySem.Challenge.rw_fedeq_k34_steps_cost_as_often_as_told) (n := 63) (k := 90) (x := "script") (CX := fun _ => L2.CX0) (sp := fun w => PL.spLaw _) rfl (by decide) rfl ⟨rfl, by decide, by decide⟩ (fun w h Y => PySem.W.kIn_of Y) ?F (fun _ _ a ns hl _ hS => ⟨a, ns, rfl, hS, hl, fun _ => rfl⟩) (fun _ _ _ _ _ h => h)
  case F =>
    intro w mg fa h KX G hmg
    refine' T.fd_law T.law_true (T.tops_mk KX G ?a0 ?l0 ?c0 ?k0 ?a1 ?l1 ?c1 ?k1 ?a2 ?l2 ?c2 ?k2 ?a3 ?l3 ?c3 ?k3 ?a4 ?l4 ?c4 ?k4 ?a5 ?l5 ?c5 ?k5 ?a6 ?l6 ?c6 ?k6 ?a7 ?l7 ?c7 ?k7 ?a8 ?l8 ?c8 ?k8 ?a9 ?l9 ?c9 ?k9 ?a10 ?l10 ?c10 ?k10 ?a11 ?l11 ?c11 ?k11 ?a12 ?l12 ?c12 ?k12 ?a13 ?l13 ?c13 ?k13 ?a14 ?l14 ?c14 ?k14 ?a15 ?l15 ?c15 ?k15 ?a16 ?l16 ?c16 ?k16 ?a17 ?l17 ?c17 ?k17 ?a18 ?l18 ?c18 ?k18 ?a19 ?l19 ?c19 ?k19 ?a20 ?l20 ?c20 ?k20 ?a21 ?l21 ?c21 ?k21 ?a22 ?l22 ?c22 ?k22 ?a23 ?l23 ?c23 ?k23 ?z_abs ?z_bool ?z_int ?z_isinstance ?z_len ?z_list ?z_max ?z_range ?z_str ?z_sum ?z_tuple ?y_CLAUSE ?y_REFLEXIVITY) hmg
    (case a0 => k_is); (case l0 => k_is); (case c0 => k_is); (case k0 => k_is); (case a1 => k_is); (case l1 => k_is); (case c1 => k_is); (case k1 => k_is); (case a2 => k_is); (case l2 => k_is); (case c2 => k_is); (case k2 => k_is); (case a3 => k_is); (case l3 => k_is); (case c3 => k_is); (case k3 => k_is); (case a4 => k_is); (case l4 => k_is); (case c4 => k_is); (case k4 => k_is); (case a5 => k_is); (case l5 => k_is); (case c5 => k_is); (case k5 => k_is); (case a6 => k_is); (case l6 => k_is); (case c6 => k_is); (case k6 => k_is); (case a7 => k_is); (case l7 => k_is); (case c7 => k_is); (case k7 => k_is); (case a8 => k_is); (case l8 => k_is); (case c8 => k_is); (case k8 => k_is); (case a9 => k_is); (case l9 => k_is); (case c9 => k_is); (case k9 => k_is); (case a10 => k_is); (case l10 => k_is); (case c10 => k_is); (case k10 => k_is); (case a11 => k_is); (case l11 => k_is); (case c11 => k_is); (case k11 => k_is); (case a12 => k_is); (case l12 => k_is); (case c12 => k_is); (case k12 => k_is); (case a13 => k_is); (case l13 => k_is); (case c13 => k_is); (case k13 => k_is); (case a14 => k_is); (case l14 => k_is); (case c14 => k_is); (case k14 => k_is); (case a15 => k_is); (case l15 => k_is); (case c15 => k_is); (case k15 => k_is); (case a16 => k_is); (case l16 => k_is); (case c16 => k_is); (case k16 => k_is); (case a17 => k_is); (case l17 => k_is); (case c17 => k_is); (case k17 => k_is); (case a18 => k_is); (case l18 => k_is); (case c18 => k_is); (case k18 => k_is); (case a19 => k_is); (case l19 => k_is); (case c19 => k_is); (case k19 => k_is); (case a20 => k_is); (case l20 => k_is); (case c20 => k_is); (case k20 => k_is); (case a21 => k_is); (case l21 => k_is); (case c21 => k_is); (case k21 => k_is); (case a22 => k_is); (case l22 => k_is); (case c22 => k_is); (case k22 => k_is); (case a23 => k_is); (case l23 => k_is); (case c23 => k_is); (case k23 => k_is); (case z_abs => k_is); (case z_bool => k_is); (case z_int => k_is); (case z_isinstance => k_is); (case z_len => k_is); (case z_list => k_is); (case z_max => k_is); (case z_range => k_is); (case z_str => k_is); (case z_sum => k_is); (case z_tuple => k_is); (case y_CLAUSE => k_is); (case y_REFLEXIVITY => k_is)
