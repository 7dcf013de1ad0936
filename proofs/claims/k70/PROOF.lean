import PyProof.Rows.All
import Wide.All
import OpenK.AllK
import Wide.FinOn
import HandS.ForMost
import HandS.Exc
import HandS.ExcOwn
import HandS.TryOnly
import HandS.WordsExc
import HandS.CallSlots
import HandS.TupAny
import HandS.Deep
import HandS.Flow
import HandS.Wide
import HandS.IsInst
import HandS.Conv
import HandS.Property
import HandS.ClsMeth
import HandS.FStr
import HandS.RaiseMore
import HandS.Defaults
import HandS.Zip
import HandS.Style
import KE.GoesEnum
import KE.GoesZip
import KE.GoesMore
import KE.KStateDown
import KE.KLam
import HandS.Head0
import HandS.Head1
import HandS.Head2
import HandS.HeadEnd
import HandS.HeadHook1
import HandS.HeadHook2
import HandS.HeadHook3
import HandS.HeadNt
import HandS.EndBits
import HandS.Codes
import HandS.WideBits
import HandS.SetFor
import HandS.Comp
import HandS.Text
import HandS.Strs
import PyProof.Rows.BitMore
import HandS.Set
import HandS.TupSets
import PyProof.StrBlock2
import PySem.Challenge.RW_filledrows_k70_places_judged
set_option Elab.async false
set_option linter.all false
section S_Sem
/-! Sem: an executable meaning for the Python subset (values as data, a heap as a list). Plain Lean. -/
set_option linter.all false
namespace DL

/-- the longest list, tuple, text -/
abbrev LIM : Nat := 16777216

inductive VV where
  | non | bl (b : Bool) | int (i : Int) | str (s : List Nat) | ref (i : Nat) | tup (xs : List VV)
  | exc (c : Nat) (fs : List (Nat × VV)) | clo (f : Nat) (cs : List VV) | cls (c : Nat)
  deriving Inhabited, Repr

mutual
def VV.beq : VV → VV → Bool
  | .non, .non => true
  | .bl a, .bl b => a == b
  | .int a, .int b => decide (a = b)
  | .str a, .str b => decide (a = b)
  | .ref a, .ref b => decide (a = b)
  | .tup a, .tup b => beqL a b
  | .exc c a, .exc d b => decide (c = d) && beqF a b
  | .clo c a, .clo d b => decide (c = d) && beqL a b
  | .cls a, .cls b => decide (a = b)
  | _, _ => false
def beqL : List VV → List VV → Bool
  | [], [] => true
  | x :: xs, y :: ys => VV.beq x y && beqL xs ys
  | _, _ => false
def beqF : List (Nat × VV) → List (Nat × VV) → Bool
  | [], [] => true
  | (n, x) :: xs, (m, y) :: ys => decide (n = m) && (VV.beq x y && beqF xs ys)
  | _, _ => false
end
mutual
theorem VV.eq_of_beq : ∀ {x y : VV}, VV.beq x y = true → x = y
  | .non, y, h => by cases y <;> simp [VV.beq] at h ⊢
  | .bl a, y, h => by cases y <;> simp [VV.beq] at h ⊢; exact h
  | .int a, y, h => by cases y <;> simp [VV.beq] at h ⊢; exact h
  | .str a, y, h => by cases y <;> simp [VV.beq] at h ⊢; exact h
  | .ref a, y, h => by cases y <;> simp [VV.beq] at h ⊢; exact h
  | .tup a, y, h => by
    cases y <;> simp [VV.beq] at h ⊢
    exact eq_of_beqL h
  | .exc c a, y, h => by
    cases y <;> simp [VV.beq] at h ⊢
    exact ⟨h.1, eq_of_beqF h.2⟩
  | .clo c a, y, h => by
    cases y <;> simp [VV.beq] at h ⊢
    exact ⟨h.1, eq_of_beqL h.2⟩
  | .cls a, y, h => by cases y <;> simp [VV.beq] at h ⊢; exact h
theorem eq_of_beqL : ∀ {x y : List VV}, beqL x y = true → x = y
  | [], y, h => by cases y <;> simp [beqL] at h ⊢
  | a :: x, y, h => by
    cases y <;> simp [beqL] at h ⊢
    exact ⟨VV.eq_of_beq h.1, eq_of_beqL h.2⟩
theorem eq_of_beqF : ∀ {x y : List (Nat × VV)}, beqF x y = true → x = y
  | [], y, h => by cases y <;> simp [beqF] at h ⊢
  | (n, a) :: x, y, h => by
    cases y with
    | nil => simp [beqF] at h
    | cons b y =>
      obtain ⟨m, b⟩ := b
      simp [beqF] at h
      rw [h.1, VV.eq_of_beq h.2.1, eq_of_beqF h.2.2]
end
mutual
theorem VV.beq_rfl : ∀ (x : VV), VV.beq x x = true
  | .non => rfl
  | .bl a => by simp [VV.beq]
  | .int a => by simp [VV.beq]
  | .str a => by simp [VV.beq]
  | .ref a => by simp [VV.beq]
  | .tup a => by simp [VV.beq, beqL_rfl a]
  | .exc c a => by simp [VV.beq, beqF_rfl a]
  | .clo c a => by simp [VV.beq, beqL_rfl a]
  | .cls a => by simp [VV.beq]
theorem beqL_rfl : ∀ (x : List VV), beqL x x = true
  | [] => rfl
  | a :: x => by simp [beqL, VV.beq_rfl a, beqL_rfl x]
theorem beqF_rfl : ∀ (x : List (Nat × VV)), beqF x x = true
  | [] => rfl
  | (n, a) :: x => by simp [beqF, VV.beq_rfl a, beqF_rfl x]
end
instance : DecidableEq VV := fun x y => if h : VV.beq x y = true then .isTrue (VV.eq_of_beq h) else .isFalse fun e => h (e ▸ VV.beq_rfl x)

inductive VO where
  | lst (xs : List VV) | flst (xs : List VV) | dic (kvs : List (VV × VV)) | ins (c : Nat) (fs : List (Nat × VV))
  deriving DecidableEq, Inhabited, Repr

abbrev Hv := List VO
abbrev Env := List (Option VV)

/-- what an expression comes to: a value, an exception, or something that is not said here -/
inductive R (α : Type) where
  | ok (a : α) (G : Hv) | exn (x : VV) (G : Hv) | bad
  deriving Inhabited, Repr
/-- what a statement comes to -/
inductive O where
  | nx (S : Env) (G : Hv) | rt (v : VV) (G : Hv) | bk (S : Env) (G : Hv) | ct (S : Env) (G : Hv) | exn (x : VV) (S : Env) (G : Hv) | bad
  deriving Inhabited, Repr

abbrev DE := Env → Hv → R VV
abbrev DT := Env → Hv → R Bool
abbrev DA := Env → Hv → R (List VV)
abbrev DS := Env → Hv → O
abbrev DG := VV → Env → Hv → O

def R.bind {α β : Type} (r : R α) (f : α → Hv → R β) : R β := match r with
  | .ok a G => f a G
  | .exn x G => .exn x G
  | .bad => .bad
@[simp] theorem R.bind_ok {α β : Type} (a : α) (G : Hv) (f : α → Hv → R β) : (R.ok a G).bind f = f a G := rfl
@[simp] theorem R.bind_exn {α β : Type} (x : VV) (G : Hv) (f : α → Hv → R β) : (R.exn x G : R α).bind f = .exn x G := rfl
@[simp] theorem R.bind_bad {α β : Type} (f : α → Hv → R β) : (R.bad : R α).bind f = .bad := rfl
/-- an expression's result in a statement -/
def R.st {α : Type} (r : R α) (S : Env) (f : α → Hv → O) : O := match r with
  | .ok a G => f a G
  | .exn x G => .exn x S G
  | .bad => .bad
@[simp] theorem R.st_ok {α : Type} (a : α) (G : Hv) (S : Env) (f : α → Hv → O) : (R.ok a G).st S f = f a G := rfl
@[simp] theorem R.st_exn {α : Type} (x : VV) (G : Hv) (S : Env) (f : α → Hv → O) : (R.exn x G : R α).st S f = .exn x S G := rfl
@[simp] theorem R.st_bad {α : Type} (S : Env) (f : α → Hv → O) : (R.bad : R α).st S f = .bad := rfl
def ofO {α : Type} : Option (α × Hv) → R α
  | some (v, G) => .ok v G
  | none => .bad
@[simp] theorem ofO_some {α : Type} (v : α) (G : Hv) : ofO (some (v, G)) = R.ok v G := rfl
@[simp] theorem ofO_none {α : Type} : ofO (none : Option (α × Hv)) = R.bad := rfl
/-- an answer that leaves the heap -/
def ofP {α : Type} (o : Option α) (G : Hv) : R α := match o with
  | some v => .ok v G
  | none => .bad
@[simp] theorem ofP_some {α : Type} (v : α) (G : Hv) : ofP (some v) G = R.ok v G := rfl
@[simp] theorem ofP_none {α : Type} (G : Hv) : ofP (none : Option α) G = R.bad := rfl

/-! ### names, constants -/
def dC (v : VV) : DE := fun _ G => .ok v G
def dVar (i : Nat) : DE := fun S G => match S[i]? with
  | some (some v) => .ok v G
  | _ => .bad
def dBad : DE := fun _ _ => .bad

/-! ### operators by values -/
def asList (G : Hv) : VV → Option (List VV)
  | .ref i => match G[i]? with
    | some (.lst xs) => some xs
    | _ => none
  | _ => none
/-- a list that is read: also the locked one -/
def asListR (G : Hv) : VV → Option (List VV)
  | .ref i => match G[i]? with
    | some (.lst xs) => some xs
    | some (.flst xs) => some xs
    | _ => none
  | _ => none
/-- a list or a tuple that is read -/
def asSeq (G : Hv) : VV → Option (List VV)
  | .tup xs => some xs
  | v => asListR G v
def newL (G : Hv) (xs : List VV) : VV × Hv := (.ref G.length, G ++ [.lst xs])

def oAdd (x y : VV) (G : Hv) : Option (VV × Hv) := match x, y with
  | .int i, .int j => some (.int (i + j), G)
  | .str a, .str b => if a.length + b.length ≤ LIM then some (.str (a ++ b), G) else none
  | .tup a, .tup b => if a.length + b.length ≤ LIM then some (.tup (a ++ b), G) else none
  | .ref i, .ref j => match G[i]?, G[j]? with
    | some (.lst a), some (.lst b) => if a.length + b.length ≤ LIM then some (newL G (a ++ b)) else none
    | _, _ => none
  | _, _ => none
def oSub (x y : VV) (G : Hv) : Option (VV × Hv) := match x, y with
  | .int i, .int j => some (.int (i - j), G)
  | _, _ => none
/-- a product that is not too great -/
def MulOk (i j : Int) : Prop := i.natAbs.log2 + j.natAbs.log2 < 100000000
instance (i j : Int) : Decidable (MulOk i j) := inferInstanceAs (Decidable (i.natAbs.log2 + j.natAbs.log2 < 100000000))
def repL (xs : List VV) : Nat → List VV
  | 0 => []
  | n + 1 => xs ++ repL xs n
def oMul (x y : VV) (G : Hv) : Option (VV × Hv) := match x, y with
  | .int i, .int j => if MulOk i j then some (.int (i * j), G) else none
  | .ref a, .int k => match G[a]? with
    | some (.lst xs) => if -(2 ^ 63) ≤ k ∧ k < 2 ^ 63 ∧ xs.length * k.toNat ≤ LIM then some (newL G (repL xs k.toNat)) else none
    | _ => none
  | _, _ => none
def oFdiv (x y : VV) (G : Hv) : Option (VV × Hv) := match x, y with
  | .int i, .int j => if 0 < j ∧ j < 1073741824 then some (.int (i / j), G) else none
  | _, _ => none
def oMod (x y : VV) (G : Hv) : Option (VV × Hv) := match x, y with
  | .int i, .int j => if 0 < j then some (.int (i % j), G) else none
  | _, _ => none
def oPow (x y : VV) (G : Hv) : Option (VV × Hv) := match x, y with
  | .int i, .int j => if 0 ≤ j ∧ j ≤ 1000 ∧ i.natAbs < 2 ^ 64 then some (.int (i ^ j.toNat), G) else none
  | _, _ => none
def oNeg (x : VV) : Option VV := match x with
  | .int i => some (.int (-i))
  | _ => none
/-! equality: flat values, tuples and lists of such to a depth -/
def b2i (b : Bool) : Int := if b then 1 else 0
def eqFlat : VV → VV → Option Bool
  | .non, .non => some true
  | .bl a, .bl b => some (a == b)
  | .bl a, .int j => some (decide (b2i a = j))
  | .int i, .bl b => some (decide (i = b2i b))
  | .int i, .int j => some (decide (i = j))
  | .str a, .str b => some (decide (a = b))
  | .non, .bl _ | .non, .int _ | .non, .str _ | .bl _, .non | .int _, .non | .str _, .non => some false
  | .bl _, .str _ | .int _, .str _ | .str _, .bl _ | .str _, .int _ => some false
  | _, _ => none
inductive PD where
  | non | bl (b : Bool) | int (i : Int) | str (s : List Nat) | lst (xs : List PD) | tup (xs : List PD)
mutual
def PD.eqv : PD → PD → Bool
  | .non, .non => true
  | .bl a, .bl b => a == b
  | .bl a, .int j => decide (b2i a = j)
  | .int i, .bl b => decide (i = b2i b)
  | .int i, .int j => decide (i = j)
  | .str a, .str b => decide (a = b)
  | .lst a, .lst b => eqvL a b
  | .tup a, .tup b => eqvL a b
  | _, _ => false
def eqvL : List PD → List PD → Bool
  | [], [] => true
  | x :: xs, y :: ys => PD.eqv x y && eqvL xs ys
  | _, _ => false
end
/-- data of a value: lists are read off the heap, to a depth -/
def mapO {α β : Type} (f : α → Option β) : List α → Option (List β)
  | [] => some []
  | x :: xs => match f x with
    | some y => match mapO f xs with
      | some ys => some (y :: ys)
      | none => none
    | none => none
def toPD (G : Hv) : Nat → VV → Option PD
  | 0, _ => none
  | n + 1, v => match v with
    | .non => some .non
    | .bl b => some (.bl b)
    | .int i => some (.int i)
    | .str s => some (.str s)
    | .tup xs => (mapO (toPD G n) xs).map PD.tup
    | .ref i => match G[i]? with
      | some (.lst xs) => (mapO (toPD G n) xs).map PD.lst
      | _ => none
    | _ => none
def DEPTH : Nat := 12
def oEq (G : Hv) (x y : VV) : Option Bool := match toPD G DEPTH x, toPD G DEPTH y with
  | some d, some e => some (PD.eqv d e)
  | _, _ => none
/-- x in a list or tuple -/
def oIn (G : Hv) (x y : VV) : Option Bool := match x, y with
  | .str [c], .str s => some (decide (c ∈ s))
  | x, y => match asSeq G y with
  | some xs => match toPD G DEPTH x, mapO (toPD G DEPTH) xs with
    | some d, some ds => some (ds.any fun z => PD.eqv z d)
    | _, _ => none
  | none => none
def cmpI (f : Int → Int → Bool) (x y : VV) : Option Bool := match x, y with
  | .int i, .int j => some (f i j)
  | _, _ => none
def oLt := cmpI fun i j => decide (i < j)
def oLe := cmpI fun i j => decide (i ≤ j)
def oGt := cmpI fun i j => decide (j < i)
def oGe := cmpI fun i j => decide (j ≤ i)
def isN : VV → Bool
  | .non => true
  | _ => false

def dBin (f : VV → VV → Hv → Option (VV × Hv)) (a b : DE) : DE := fun S G => (a S G).bind fun x G1 => (b S G1).bind fun y G2 => ofO (f x y G2)
/-- a comparison as a value -/
def dCmp (f : Hv → VV → VV → Option Bool) (a b : DE) : DE := fun S G => (a S G).bind fun x G1 => (b S G1).bind fun y G2 => ofP ((f G2 x y).map VV.bl) G2
def cEq : Hv → VV → VV → Option Bool := oEq
def cNe : Hv → VV → VV → Option Bool := fun G x y => (oEq G x y).map not
def cLt : Hv → VV → VV → Option Bool := fun _ x y => oLt x y
def cLe : Hv → VV → VV → Option Bool := fun _ x y => oLe x y
def cGt : Hv → VV → VV → Option Bool := fun _ x y => oGt x y
def cGe : Hv → VV → VV → Option Bool := fun _ x y => oGe x y
def cIn : Hv → VV → VV → Option Bool := oIn
def cNin : Hv → VV → VV → Option Bool := fun G x y => (oIn G x y).map not
/-- a < b < c -/
def dChain (f g : Hv → VV → VV → Option Bool) (a b c : DE) : DE := fun S G => (a S G).bind fun x G1 => (b S G1).bind fun y G2 => match f G2 x y with
  | some true => (c S G2).bind fun z G3 => ofP ((g G3 y z).map VV.bl) G3
  | some false => .ok (.bl false) G2
  | none => .bad
def dIsN (a : DE) : DE := fun S G => (a S G).bind fun x G1 => .ok (.bl (isN x)) G1
def dNotN (a : DE) : DE := fun S G => (a S G).bind fun x G1 => .ok (.bl (!isN x)) G1
def asB : VV → Option Bool
  | .bl b => some b
  | _ => none
/-- a test: an expression that gives a truth value -/
def tV (a : DE) : DT := fun S G => (a S G).bind fun x G1 => ofP (asB x) G1
def tAnd (a b : DT) : DT := fun S G => (a S G).bind fun c G1 => if c then b S G1 else .ok false G1
def tOr (a b : DT) : DT := fun S G => (a S G).bind fun c G1 => if c then .ok true G1 else b S G1
def tNot (a : DT) : DT := fun S G => (a S G).bind fun c G1 => .ok (!c) G1
/-- and, or of truth values (all but the last) -/
def dAnd (a b : DE) : DE := fun S G => (a S G).bind fun x G1 => match x with
  | .bl true => b S G1
  | .bl false => .ok (.bl false) G1
  | _ => .bad
def dOr (a b : DE) : DE := fun S G => (a S G).bind fun x G1 => match x with
  | .bl true => .ok (.bl true) G1
  | .bl false => b S G1
  | _ => .bad
def dNot (a : DE) : DE := fun S G => (a S G).bind fun x G1 => match x with
  | .bl c => .ok (.bl (!c)) G1
  | _ => .bad
def dIf (t : DT) (a b : DE) : DE := fun S G => (t S G).bind fun c G1 => if c then a S G1 else b S G1
def dUn (f : VV → Option VV) (a : DE) : DE := fun S G => (a S G).bind fun x G1 => ofP (f x) G1

/-! ### displays, arguments -/
def aNil : DA := fun _ G => .ok [] G
def aCons (a : DE) (r : DA) : DA := fun S G => (a S G).bind fun x G1 => (r S G1).bind fun xs G2 => .ok (x :: xs) G2
def dTup (a : DA) : DE := fun S G => (a S G).bind fun xs G1 => if xs.length ≤ LIM then .ok (.tup xs) G1 else .bad
def dLst (a : DA) : DE := fun S G => (a S G).bind fun xs G1 => if xs.length ≤ LIM then .ok (newL G1 xs).1 (newL G1 xs).2 else .bad
def dDic0 : DE := fun _ G => .ok (.ref G.length) (G ++ [.dic []])

/-! ### subscripts, slices -/
def ixN (n : Nat) (i : Int) : Option Nat := if 0 ≤ i then (if i < n then some i.toNat else none) else if -(n : Int) ≤ i then some (i + n).toNat else none
def atI {α : Type} (xs : List α) (i : Int) : Option α := match ixN xs.length i with
  | some j => xs[j]?
  | none => none
def oIx (G : Hv) (x y : VV) : Option VV := match y with
  | .int i => match x with
    | .str s => if s.length ≤ LIM then (atI s i).map fun c => .str [c] else none
    | x => match asSeq G x with
      | some xs => atI xs i
      | none => none
  | _ => none
def dIx (a b : DE) : DE := fun S G => (a S G).bind fun x G1 => (b S G1).bind fun y G2 => ofP (oIx G2 x y) G2
/-- a slice's bound -/
def sIx (n d : Nat) : Option Int → Nat
  | none => d
  | some i => if i < 0 then (i + n).toNat else min i.toNat n
def cut {α : Type} (xs : List α) (lo hi : Option Int) : List α := (xs.drop (sIx xs.length 0 lo)).take (sIx xs.length xs.length hi - sIx xs.length 0 lo)
def oSlice (x : VV) (lo hi : Option Int) (G : Hv) : Option (VV × Hv) := match x with
  | .str s => if s.length ≤ LIM then some (.str (cut s lo hi), G) else none
  | .tup xs => some (.tup (cut xs lo hi), G)
  | x => match asListR G x with
    | some xs => some (newL G (cut xs lo hi))
    | none => none
abbrev DO := Env → Hv → R (Option Int)
def oNone : DO := fun _ G => .ok none G
def oSome (a : DE) : DO := fun S G => (a S G).bind fun x G1 => match x with
  | .int i => .ok (some i) G1
  | _ => .bad
def dSl (a : DE) (lo hi : DO) : DE := fun S G => (a S G).bind fun x G1 => (lo S G1).bind fun l G2 => (hi S G2).bind fun h G3 => ofO (oSlice x l h G3)

/-! ### fields, calls -/
def look (f : Nat) : List (Nat × VV) → Option VV
  | [] => none
  | (g, v) :: r => if f = g then some v else look f r
def put (f : Nat) (v : VV) : List (Nat × VV) → List (Nat × VV)
  | [] => [(f, v)]
  | (g, u) :: r => if g = f then (g, v) :: r else (g, u) :: put f v r
def oFld (c f : Nat) (G : Hv) (x : VV) : Option VV := match x with
  | .ref i => match G[i]? with
    | some (.ins d fs) => if c = d then look f fs else none
    | _ => none
  | _ => none
/-- o.f, o an instance of the class c -/
def dFld (c f : Nat) (a : DE) : DE := fun S G => (a S G).bind fun x G1 => ofP (oFld c f G1 x) G1
/-- a def, by what it does with its arguments -/
abbrev Fn := List VV → Hv → R VV
def dCall (f : Fn) (a : DA) : DE := fun S G => (a S G).bind fun vs G1 => f vs G1
def isIns (c m : Nat) (G : Hv) (x : VV) : Bool := match x with
  | .ref i => match G[i]? with
    | some (.ins d fs) => decide (c = d) && (look m fs).isNone
    | _ => false
  | _ => false
/-- o.m(..), o an instance of the class c -/
def dMeth (c m : Nat) (f : Fn) (a : DE) (r : DA) : DE := fun S G => (a S G).bind fun x G1 => if isIns c m G1 x then (r S G1).bind fun vs G2 => f (x :: vs) G2 else .bad
/-- nothing may be raised -/
def noX {α : Type} : R α → R α
  | .exn _ _ => .bad
  | r => r
@[simp] theorem noX_ok {α : Type} (a : α) (G : Hv) : noX (R.ok a G) = .ok a G := rfl
/-- a property, its getter f -/
def dProp (c p : Nat) (f : Fn) (a : DE) : DE := fun S G => (a S G).bind fun x G1 => if isIns c p G1 x then noX (f [x] G1) else .bad
/-- C(..): a new instance, then __init__ -/
def dMake (c : Nat) (f : Fn) (a : DA) : DE := fun S G => (a S G).bind fun vs G1 => (noX (f (.ref G1.length :: vs) (G1 ++ [.ins c []]))).bind fun u G2 => if isN u then .ok (.ref G1.length) G2 else .bad

/-- cls(..) in a class method -/
def dMakeV (c : Nat) (f : Fn) (k : DE) (a : DA) : DE := fun S G => (k S G).bind fun u G0 => if u = .cls c then dMake c f a S G0 else .bad
/-- a class as a value -/
def dCls (c : Nat) : DE := fun _ G => .ok (.cls c) G
/-- f(b = .., a = ..): the arguments as written, then in the parameters' order -/
def dCallK (f : Fn) (ks : List Nat) (a : DA) : DE := fun S G => (a S G).bind fun vs G1 => match mapO (fun k => vs[k]?) ks with
  | some ws => f ws G1
  | none => .bad
/-- f(..) with the defaults behind -/
def dCallD (f : Fn) (ds : List VV) (a : DA) : DE := fun S G => (a S G).bind fun vs G1 => f (vs ++ ds) G1
/-- C.m(..), m a class method -/
def dCallC (f : Fn) (c : Nat) (a : DA) : DE := fun S G => (a S G).bind fun vs G1 => f (.cls c :: vs) G1
def tblGet (s : List Nat) : List (List Nat × VV) → Option VV
  | [] => none
  | (k, v) :: r => if s = k then some v else tblGet s r
/-- TABLE.get(e, d) of a table of the module with text keys -/
def dGetC (tb : List (List Nat × VV)) (a d : DE) : DE := fun S G => (a S G).bind fun x G1 => (d S G1).bind fun y G2 => match x with
  | .str s => .ok ((tblGet s tb).getD y) G2
  | _ => .bad

/-! ### built-ins by values -/
abbrev Bt := List VV → Hv → Option (VV × Hv)
def dB (f : Bt) (a : DA) : DE := fun S G => (a S G).bind fun vs G1 => ofO (f vs G1)
def bLen : Bt := fun vs G => match vs with
  | [.str s] => if s.length ≤ LIM then some (.int s.length, G) else none
  | [x] => (asSeq G x).map fun xs => (.int xs.length, G)
  | _ => none
def bAbs : Bt := fun vs G => match vs with
  | [.int i] => some (.int (if i < 0 then -i else i), G)
  | _ => none
def bMax2 : Bt := fun vs G => match vs with
  | [.int i, .int j] => some (.int (if j > i then j else i), G)
  | _ => none
def bMin2 : Bt := fun vs G => match vs with
  | [.int i, .int j] => some (.int (if j < i then j else i), G)
  | _ => none
/-- the value of a text of one to ten figures -/
def decOf : List Nat → Int → Option Int
  | [], n => some n
  | c :: r, n => if 48 ≤ c ∧ c ≤ 57 then decOf r (n * 10 + ((c - 48 : Nat) : Int)) else none
def bInt : Bt := fun vs G => match vs with
  | [.int i] => some (.int i, G)
  | [.bl b] => some (.int (if b then 1 else 0), G)
  | [.str [c]] => if 48 ≤ c ∧ c ≤ 57 then some (.int ((c - 48 : Nat) : Int), G) else none
  | _ => none
/-- the figures of a small number -/
def bStr : Bt := fun vs G => match vs with
  | [.int i] => if 0 ≤ i ∧ i < 10 then some (.str [48 + i.toNat], G) else none
  | _ => none
def bDivmod : Bt := fun vs G => match vs with
  | [.int i, .int j] => if 0 < j ∧ j < 1073741824 then some (.tup [.int (i / j), .int (i % j)], G) else none
  | _ => none
def bList : Bt := fun vs G => match vs with
  | [x] => (asSeq G x).map fun xs => newL G xs
  | _ => none
def bTuple : Bt := fun vs G => match vs with
  | [x] => (asSeq G x).map fun xs => (.tup xs, G)
  | _ => none
def asInts : List VV → Option (List Int)
  | [] => some []
  | .int i :: r => (asInts r).map fun is => i :: is
  | _ :: _ => none
def asBls : List VV → Option (List Bool)
  | [] => some []
  | .bl i :: r => (asBls r).map fun is => i :: is
  | _ :: _ => none
def bSum : Bt := fun vs G => match vs with
  | [x] => match asListR G x with
    | some xs => (asInts xs).map fun is => (.int is.sum, G)
    | none => none
  | _ => none
def bAll : Bt := fun vs G => match vs with
  | [x] => match asListR G x with
    | some xs => (asBls xs).map fun is => (.bl (is.all id), G)
    | none => none
  | _ => none
def bAny : Bt := fun vs G => match vs with
  | [x] => match asListR G x with
    | some xs => (asBls xs).map fun is => (.bl (is.any id), G)
    | none => none
  | _ => none
/-- list(range(n)), list(range(a, b)) -/
def upTo (lo : Int) : Nat → List VV
  | 0 => []
  | n + 1 => .int lo :: upTo (lo + 1) n
def dListRg (a : DE) : DE := fun S G => (a S G).bind fun x G1 => match x with
  | .int j => if Nat.ble j.natAbs 16777216 = true then .ok (newL G1 (upTo 0 j.toNat)).1 (newL G1 (upTo 0 j.toNat)).2 else .bad
  | _ => .bad
/-- isinstance(x, T) of flat types -/
inductive Ty where
  | int | bool | str | tuple
def isTy (G : Hv) : Ty → VV → Option Bool
  | .int, .int _ => some true | .int, .bl _ => some true
  | .bool, .bl _ => some true
  | .str, .str _ => some true
  | .tuple, .tup _ => some true
  | _, .non => some false | _, .bl _ => some false | _, .int _ => some false | _, .str _ => some false | _, .tup _ => some false
  | _, .ref i => match G[i]? with
    | some (.lst _) => some false
    | some (.flst _) => some false
    | some (.dic _) => some false
    | _ => none
  | _, _ => none
def dIsi (t : Ty) (a : DE) : DE := fun S G => (a S G).bind fun x G1 => ofP ((isTy G1 t x).map VV.bl) G1
/-- repr of a truth value -/
def bReprB : Bt := fun vs G => match vs with
  | [.bl true] => some (.str [84, 114, 117, 101], G)
  | [.bl false] => some (.str [70, 97, 108, 115, 101], G)
  | _ => none

/-! ### methods of built-in types -/
abbrev Mt := VV → List VV → Hv → Option (VV × Hv)
inductive Rt where
  | lst | str | dic
def isRt (T : Rt) (G : Hv) (x : VV) : Bool := match T, x with
  | .str, .str _ => true
  | .lst, .ref i => match G[i]? with
    | some (.lst _) => true
    | _ => false
  | .dic, .ref i => match G[i]? with
    | some (.dic _) => true
    | _ => false
  | _, _ => false
def dM (T : Rt) (f : Mt) (a : DE) (r : DA) : DE := fun S G => (a S G).bind fun x G1 => if isRt T G1 x then (r S G1).bind fun vs G2 => ofO (f x vs G2) else .bad
def mAppend : Mt := fun x vs G => match x, vs with
  | .ref i, [y] => match G[i]? with
    | some (.lst xs) => if xs.length < LIM then some (.non, G.set i (.lst (xs ++ [y]))) else none
    | _ => none
  | _, _ => none
def mExtend : Mt := fun x vs G => match x, vs with
  | .ref i, [.ref j] => match G[i]?, G[j]? with
    | some (.lst xs), some (.lst ys) => if xs.length + ys.length ≤ LIM then some (.non, G.set i (.lst (xs ++ ys))) else none
    | _, _ => none
  | _, _ => none
def mPop : Mt := fun x vs G => match x, vs with
  | .ref i, [] => match G[i]? with
    | some (.lst xs) => match xs[xs.length - 1]? with
      | some y => some (y, G.set i (.lst xs.dropLast))
      | none => none
    | _ => none
  | _, _ => none
/-- the first place of a flat value -/
def idxOf (p : VV → Option Bool) : List VV → Nat → Option Nat
  | [], _ => none
  | y :: r, n => match p y with
    | some true => some n
    | some false => idxOf p r (n + 1)
    | none => none
def mIndex : Mt := fun x vs G => match vs with
  | [y] => match asList G x with
    | some xs => if xs.all fun z => (eqFlat z y).isSome then (idxOf (fun z => eqFlat z y) xs 0).map fun j => (.int j, G) else none
    | none => none
  | _ => none
/-- text.split(c), c one sign -/
def splitC (c : Nat) : List Nat → List (List Nat)
  | [] => [[]]
  | d :: r => if d = c then [] :: splitC c r else match splitC c r with
    | [] => [[d]]
    | w :: ws => (d :: w) :: ws
def mSplit : Mt := fun x vs G => match x, vs with
  | .str s, [.str [c]] => if s.length + 2 ≤ LIM then some (newL G ((splitC c s).map VV.str)) else none
  | _, _ => none
def joinS (sep : List Nat) : List (List Nat) → List Nat
  | [] => []
  | [x] => x
  | x :: y :: r => x ++ (sep ++ joinS sep (y :: r))
def asStrs : List VV → Option (List (List Nat))
  | [] => some []
  | .str i :: r => (asStrs r).map fun is => i :: is
  | _ :: _ => none
def mJoin : Mt := fun x vs G => match x, vs with
  | .str s, [y] => match asSeq G y with
    | some xs => match asStrs xs with
      | some ss => if (ss.map List.length).sum + ss.length * s.length ≤ LIM then some (.str (joinS s ss), G) else none
      | none => none
    | none => none
  | _, _ => none
/-- f"lit{e}", e a text -/
def dFmt (lit : List Nat) (a : DE) : DE := fun S G => (a S G).bind fun x G1 => match x with
  | .str s => if lit.length + s.length ≤ LIM then .ok (.str (lit ++ s)) G1 else .bad
  | _ => .bad

/-! ### statements -/
def dNext : DS := fun S G => .nx S G
def dSeq (a b : DS) : DS := fun S G => match a S G with
  | .nx S1 G1 => b S1 G1
  | o => o
def dExpr (a : DE) : DS := fun S G => (a S G).st S fun _ G1 => .nx S G1
def dRet (a : DE) : DS := fun S G => (a S G).st S fun v G1 => .rt v G1
def dRetN : DS := fun _ G => .rt .non G
def sBad : DS := fun _ _ => .bad
def sIf (t : DT) (a b : DS) : DS := fun S G => (t S G).st S fun c G1 => if c then a S G1 else b S G1
/-- try: nothing may be raised -/
def sThru (a : DS) : DS := fun S G => match a S G with
  | .exn _ _ _ => .bad
  | o => o
def sBreak : DS := fun S G => .bk S G
def sCont : DS := fun S G => .ct S G
/-! targets -/
def gName (i : Nat) : DG := fun v S G => .nx (S.set i (some v)) G
def gFld (c f : Nat) (a : DE) : DG := fun v S G => (a S G).st S fun x G1 => match x with
  | .ref i => match G1[i]? with
    | some (.ins d fs) => if c = d ∧ fs.length < 1000 then .nx S (G1.set i (.ins c (put f v fs))) else .bad
    | _ => .bad
  | _ => .bad
def gSub (a b : DE) : DG := fun v S G => (a S G).st S fun x G1 => (b S G1).st S fun y G2 => match x, y with
  | .ref i, .int k => match G2[i]? with
    | some (.lst xs) => match ixN xs.length k with
      | some j => .nx S (G2.set i (.lst (xs.set j v)))
      | none => .bad
    | _ => .bad
  | _, _ => .bad
/-- a store, then what follows -/
def gRun (o : O) (f : Env → Hv → O) : O := match o with
  | .nx S G => f S G
  | .exn x S G => .exn x S G
  | _ => .bad
def gAll : List DG → List VV → DS
  | [], [] => dNext
  | g :: gs, v :: vs => fun S G => gRun (g v S G) fun S1 G1 => gAll gs vs S1 G1
  | _, _ => sBad
def gTup (gs : List DG) : DG := fun v => match v with
  | .tup xs => if xs.length = gs.length then gAll gs xs else sBad
  | _ => sBad
def sAsg (a : DE) (g : DG) : DS := fun S G => (a S G).st S fun v G1 => gRun (g v S G1) O.nx
abbrev sSet (i : Nat) (a : DE) : DS := sAsg a (gName i)
/-- a step of += and the like -/
def aAdd (x y : VV) (G : Hv) : Option (VV × Hv) := match x, y with
  | .int i, .int j => some (.int (i + j), G)
  | _, _ => none
def aSub (x y : VV) (G : Hv) : Option (VV × Hv) := match x, y with
  | .int i, .int j => some (.int (i - j), G)
  | _, _ => none
/-- x += e on a name -/
def sAug (f : VV → VV → Hv → Option (VV × Hv)) (i : Nat) (a : DE) : DS := fun S G => (dVar i S G).st S fun x G1 => (a S G1).st S fun y G2 => (ofO (f x y G2)).st S fun v G3 => .nx (S.set i (some v)) G3
/-- o[i] += e -/
def sAugS (f : VV → VV → Hv → Option (VV × Hv)) (o i a : DE) : DS := fun S G => (o S G).st S fun x G1 => (i S G1).st S fun k G2 => (ofP (oIx G2 x k) G2).st S fun u G3 => (a S G3).st S fun y G4 => (ofO (f u y G4)).st S fun v G5 => gRun (gSub (dC x) (dC k) v S G5) O.nx

/-! ### what is walked -/
/-- the items, and the lists that must stay -/
abbrev DI := Env → Hv → R (List VV × List (Nat × VO))
def stays (G : Hv) : List (Nat × VO) → Bool
  | [] => true
  | (i, o) :: r => decide (G[i]? = some o) && stays G r
/-- a sequence that is walked: its items, and the list that must stay -/
def seqOf (G : Hv) (v : VV) : Option (List VV × List (Nat × VO)) := match v with
  | .tup xs => some (xs, [])
  | .str s => some (s.map fun c => .str [c], [])
  | .ref i => match G[i]? with
    | some (.lst xs) => some (xs, [(i, .lst xs)])
    | some (.flst xs) => some (xs, [(i, .flst xs)])
    | _ => none
  | _ => none
def iSeq (a : DE) : DI := fun S G => (a S G).bind fun x G1 => ofP (seqOf G1 x) G1
/-- a number that is not too great (asked so that a kernel does not count) -/
def mid (i : Int) : Bool := Nat.ble i.natAbs 4611686018427387903
/-- range(j), range(i, j) -/
def rangeOf1 (vs : List VV) : Option (List VV × List (Nat × VO)) := match vs with
  | [.int j] => if mid j = true then some (upTo 0 j.toNat, []) else none
  | _ => none
def rangeOf2 (vs : List VV) : Option (List VV × List (Nat × VO)) := match vs with
  | [.int i, .int j] => if mid i = true ∧ mid j = true then some (upTo i (j - i).toNat, []) else none
  | _ => none
def iRange1 (a : DA) : DI := fun S G => (a S G).bind fun vs G1 => ofP (rangeOf1 vs) G1
def iRange2 (a : DA) : DI := fun S G => (a S G).bind fun vs G1 => ofP (rangeOf2 vs) G1
def num : Int → List VV → List VV
  | _, [] => []
  | n, x :: xs => .tup [.int n, x] :: num (n + 1) xs
def enumOf (G : Hv) (vs : List VV) : Option (List VV × List (Nat × VO)) := match vs with
  | [x] => match seqOf G x with
    | some p => some (num 0 p.1, p.2)
    | none => none
  | _ => none
def iEnum (a : DA) : DI := fun S G => (a S G).bind fun vs G1 => ofP (enumOf G1 vs) G1
def zipV : List VV → List VV → List VV
  | x :: xs, y :: ys => .tup [x, y] :: zipV xs ys
  | _, _ => []
def zipOf (G : Hv) (vs : List VV) : Option (List VV × List (Nat × VO)) := match vs with
  | [x, y] => match seqOf G x, seqOf G y with
    | some p, some q => some (zipV p.1 q.1, p.2 ++ q.2)
    | _, _ => none
  | _ => none
def iZip (a : DA) : DI := fun S G => (a S G).bind fun vs G1 => ofP (zipOf G1 vs) G1
def forL (chk : List (Nat × VO)) (g : DG) (b : DS) : List VV → DS
  | [] => fun S G => if stays G chk then .nx S G else .bad
  | x :: r => fun S G => if stays G chk then gRun (g x S G) (fun S1 G1 => match b S1 G1 with
      | .nx S2 G2 => forL chk g b r S2 G2
      | .ct S2 G2 => forL chk g b r S2 G2
      | .bk S2 G2 => .nx S2 G2
      | o => o) else .bad
def sFor (it : DI) (g : DG) (b : DS) : DS := fun S G => (it S G).st S fun p G1 => forL p.2 g b p.1 S G1
/-- while, so many turns at most -/
def whileN (t : DT) (b : DS) : Nat → DS
  | 0 => sBad
  | n + 1 => fun S G => (t S G).st S fun c G1 => if c then (match b S G1 with
    | .nx S2 G2 => whileN t b n S2 G2
    | .ct S2 G2 => whileN t b n S2 G2
    | .bk S2 G2 => .nx S2 G2
    | o => o) else .nx S G1
def wipe (S : Env) : List Nat → Env
  | [] => S
  | v :: vs => (wipe S vs).set v none
/-- [e for x in it if t]: D the new list -/
def lcL (chk : List (Nat × VO)) (g : DG) (t : DT) (e : DE) (vs : List Nat) (S0 : Env) (D : Nat) : List VV → Hv → R VV
  | [], G => if stays G chk then .ok (.ref D) G else .bad
  | x :: r, G => if stays G chk then (match g x S0 G with
    | .nx S1 G1 => match t S1 G1 with
      | .ok true G2 => match e S1 G2 with
        | .ok y G3 => match G3[D]? with
          | some (.lst acc) => if acc.length < LIM then lcL chk g t e vs S0 D r (G3.set D (.lst (acc ++ [y]))) else .bad
          | _ => .bad
        | _ => .bad
      | .ok false G2 => lcL chk g t e vs S0 D r G2
      | _ => .bad
    | _ => .bad) else .bad
def tYes : DT := fun _ G => .ok true G
def dLc (vs : List Nat) (it : DI) (g : DG) (t : DT) (e : DE) : DE := fun S G => (it S G).bind fun p G1 => lcL p.2 g t e vs (wipe S vs) G1.length p.1 (G1 ++ [.lst []])

/-! ### a def: its body, then what is no longer reached is dropped -/
mutual
def closedV (n : Nat) : VV → Bool
  | .ref i => decide (i < n)
  | .tup xs => closedL n xs
  | .exc _ fs => closedF n fs
  | .clo _ xs => closedL n xs
  | _ => true
def closedL (n : Nat) : List VV → Bool
  | [] => true
  | x :: xs => closedV n x && closedL n xs
def closedF (n : Nat) : List (Nat × VV) → Bool
  | [] => true
  | (_, x) :: xs => closedV n x && closedF n xs
end
def closedK (n : Nat) : List (VV × VV) → Bool
  | [] => true
  | (k, x) :: xs => closedV n k && (closedV n x && closedK n xs)
def closedO (n : Nat) : VO → Bool
  | .lst xs => closedL n xs
  | .flst xs => closedL n xs
  | .dic kvs => closedK n kvs
  | .ins _ fs => closedF n fs
/-- each object is as it was, or reaches only so far -/
def closedG (n : Nat) : Hv → Hv → Bool
  | o :: G, o1 :: G1 => (decide (o = o1) || closedO n o1) && closedG n G G1
  | [], [] => true
  | _, _ => false
def gcR (G : Hv) (r : R VV) : R VV := match r with
  | .ok v G1 => if closedV G.length v && closedG G.length G (G1.take G.length) then .ok v (G1.take G.length) else .ok v G1
  | r => r
/-! a def whose arguments name no object runs by itself: its objects are laid behind -/
mutual
def shV (n : Nat) : VV → VV
  | .ref i => .ref (n + i)
  | .tup xs => .tup (shL n xs)
  | .exc c fs => .exc c (shF n fs)
  | .clo c xs => .clo c (shL n xs)
  | v => v
def shL (n : Nat) : List VV → List VV
  | [] => []
  | x :: xs => shV n x :: shL n xs
def shF (n : Nat) : List (Nat × VV) → List (Nat × VV)
  | [] => []
  | (c, x) :: xs => (c, shV n x) :: shF n xs
end
def shK (n : Nat) : List (VV × VV) → List (VV × VV)
  | [] => []
  | (c, x) :: xs => (c, shV n x) :: shK n xs
def shO (n : Nat) : VO → VO
  | .lst xs => .lst (shL n xs)
  | .flst xs => .flst (shL n xs)
  | .dic kvs => .dic (shK n kvs)
  | .ins c fs => .ins c (shF n fs)
def reloc (G : Hv) (r : R VV) : R VV := match r with
  | .ok v G1 => .ok (shV G.length v) (G ++ G1.map (shO G.length))
  | .exn v G1 => .exn (shV G.length v) (G ++ G1.map (shO G.length))
  | .bad => .bad
def start (n : Nat) (vs : List VV) : Env := vs.map some ++ List.replicate (n - vs.length) none
def outR (o : O) : R VV := match o with
  | .nx _ G => .ok .non G
  | .rt v G => .ok v G
  | .exn x _ G => .exn x G
  | _ => .bad
/-- a def of so many parameters and names -/
def dDef (k n : Nat) (b : DS) : Fn := fun vs G => if vs.length = k then (if closedL 0 vs then reloc G (gcR [] (outR (b (start n vs) []))) else gcR G (outR (b (start n vs) G))) else .bad
def fBad : Fn := fun _ _ => .bad
end DL
end S_Sem
section S_Sem2
/-! Sem2: more of the subset: bits, counts, sets of numbers that are sorted, two clauses in a comprehension, defaults. Plain Lean. -/
set_option linter.all false
namespace DL
def oShl (x y : VV) (G : Hv) : Option (VV × Hv) := match x, y with
  | .int i, .int j => if i.natAbs.log2 < 100000 ∧ 0 ≤ j ∧ Nat.ble j.toNat 100000 = true then some (.int (i * 2 ^ j.toNat), G) else none
  | _, _ => none
def oShr (x y : VV) (G : Hv) : Option (VV × Hv) := match x, y with
  | .int i, .int j => if 0 ≤ j then some (.int (i / 2 ^ j.toNat), G) else none
  | _, _ => none
def oBand (x y : VV) (G : Hv) : Option (VV × Hv) := match x, y with
  | .int i, .int j => if 0 ≤ i ∧ 0 ≤ j then some (.int ((i.toNat &&& j.toNat : Nat) : Int), G) else none
  | _, _ => none
def oBor (x y : VV) (G : Hv) : Option (VV × Hv) := match x, y with
  | .int i, .int j => if 0 ≤ i ∧ 0 ≤ j then some (.int ((i.toNat ||| j.toNat : Nat) : Int), G) else none
  | _, _ => none
def oBxor (x y : VV) (G : Hv) : Option (VV × Hv) := match x, y with
  | .int i, .int j => if 0 ≤ i ∧ 0 ≤ j then some (.int ((i.toNat ^^^ j.toNat : Nat) : Int), G) else none
  | _, _ => none
/-- a text of one sign, so many times -/
def oMulS (x y : VV) (G : Hv) : Option (VV × Hv) := match x, y with
  | .str [c], .int k => if Nat.ble k.natAbs 1000 = true then some (.str (List.replicate k.toNat c), G) else none
  | _, _ => none
/-- list.count(k), whole numbers -/
def mCount : Mt := fun x vs G => match vs with
  | [.int k] => match asList G x with
    | some xs => (asInts xs).map fun is => (.int (is.count k : Nat), G)
    | none => none
  | _ => none
/-- isinstance(x, C), x an instance of the class c itself -/
def isC (c : Nat) (G : Hv) (x : VV) : Bool := match x with
  | .ref i => match G[i]? with
    | some (.ins d _) => decide (c = d)
    | _ => false
  | _ => false
def dIsC (c : Nat) (a : DE) : DE := fun S G => (a S G).bind fun x G1 => if isC c G1 x then .ok (.bl true) G1 else .bad
def insI (k : Int) : List Int → List Int
  | [] => [k]
  | x :: r => if k < x then k :: x :: r else if k = x then x :: r else x :: insI k r
/-- the numbers ascending, each once -/
def sortU : List Int → List Int
  | [] => []
  | x :: r => insI x (sortU r)
/-- sorted(set(e)), e a list of whole numbers, fewer than 64 of them -/
def oSortSet (G : Hv) (x : VV) : Option (VV × Hv) := match asList G x with
  | some xs => match asInts xs with
    | some is => if is.length < 4000 ∧ (sortU is).length < 64 then some (newL G ((sortU is).map VV.int)) else none
    | none => none
  | none => none
def dSortSet (a : DE) : DE := fun S G => (a S G).bind fun x G1 => ofO (oSortSet G1 x)
def lcK (r : R VV) (f : Hv → R VV) : R VV := match r with
  | .ok _ G => f G
  | _ => .bad
/-- [e for x in it if t for y in it1 if t1] -/
def lc2L (chk : List (Nat × VO)) (g : DG) (t : DT) (it1 : DI) (g1 : DG) (t1 : DT) (e : DE) (vs vs1 : List Nat) (S0 : Env) (D : Nat) : List VV → Hv → R VV
  | [], G => if stays G chk then .ok (.ref D) G else .bad
  | x :: r, G => if stays G chk then (match g x S0 G with
    | .nx S1 G1 => match t S1 G1 with
      | .ok true G2 => match it1 S1 G2 with
        | .ok p G3 => lcK (lcL p.2 g1 t1 e vs1 (wipe S1 vs1) D p.1 G3) fun G4 => lc2L chk g t it1 g1 t1 e vs vs1 S0 D r G4
        | _ => .bad
      | .ok false G2 => lc2L chk g t it1 g1 t1 e vs vs1 S0 D r G2
      | _ => .bad
    | _ => .bad) else .bad
def dLc2 (vs vs1 : List Nat) (it : DI) (g : DG) (t : DT) (it1 : DI) (g1 : DG) (t1 : DT) (e : DE) : DE := fun S G => (it S G).bind fun p G1 => lc2L p.2 g t it1 g1 t1 e vs vs1 (wipe S vs) G1.length p.1 (G1 ++ [.lst []])
end DL
end S_Sem2
section S_Rules1
set_option Elab.async false
set_option linter.all false
set_option maxRecDepth 100000
set_option maxHeartbeats 2000000
/-! Rules1: what the values of Sem stand for in the hand layer; expressions. -/
namespace DL
open PySem PySem.Spec PyProof.Rows L2
abbrev St := L2.St

/-! ### names -/
def dig : Nat → Nat → List Nat
  | 0, _ => []
  | k + 1, n => if n = 0 then [] else n % 256 :: dig k (n / 256)
def nameOf (n : Nat) : Str := ⟨(dig n n).toArray⟩
def undig : List Nat → Nat
  | [] => 0
  | d :: r => d + 256 * undig r
theorem undig_dig : ∀ (k n : Nat), n ≤ k → undig (dig k n) = n
  | 0, n, h => by
    have : n = 0 := by omega
    subst this; rfl
  | k + 1, n, h => by
    unfold dig
    by_cases h0 : n = 0
    · rw [if_pos h0, h0]; rfl
    · rw [if_neg h0]
      show n % 256 + 256 * undig (dig k (n / 256)) = n
      rw [undig_dig k (n / 256) (by omega)]
      omega
theorem nameOf_inj {m n : Nat} (h : nameOf m = nameOf n) : m = n := by
  have h1 : dig m m = dig n n := by
    have := congrArg (fun s : Str => s.cps.toList) h
    simpa [nameOf] using this
  rw [← undig_dig m m (Nat.le_refl _), ← undig_dig n n (Nat.le_refl _), h1]

/-- where one stands: the written part, the module's names, the exceptions that are held -/
structure RC where
  K : PySem.W.Frag
  mg : Str → Option Value
  ep : List (Addr × Obj)
abbrev rc (X : Cx) (ep : List (Addr × Obj)) : RC := ⟨X.K, X.mg, ep⟩

def TupAt (K : PySem.W.Frag) (H : Hp) (a : Addr) (ys : List V) : Prop := H a = some (.tup ys) ∨
  ∃ (o : Obj) (its : Array Value) (n : Nat), K.lookup a = some o ∧ o.cls = .type "tuple" ∧ o.data = .seq its n ∧ its.size ≤ sizeLine ∧ Vals ys its.toList
theorem TupAt.sq {K : PySem.W.Frag} {H : Hp} {a : Addr} {ys : List V} (h : TupAt K H a ys) : SqT K H a ys := by
  rcases h with h | h
  · exact .inl (.inl h)
  · exact .inr h
def sOk (s : List Nat) : Bool := s.all fun c => decide (c < 1114112)
abbrev mkS (s : List Nat) : Str := ⟨s.toArray⟩
mutual
def RV (C : RC) (as : List Addr) (H : Hp) : VV → V → Prop
  | .non, v => v = .non
  | .bl b, v => v = .bl b
  | .int i, v => v = .int i
  | .str s, v => v = .str (mkS s) ∧ sOk s = true
  | .ref i, v => ∃ a, as[i]? = some a ∧ v = .ref a
  | .tup xs, v => ∃ a ys, v = .ref a ∧ TupAt C.K H a ys ∧ RVs C as H xs ys
  | .exc _ _, _ => False
  | .clo _ _, _ => False
  | .cls c, v => ∃ a, C.mg (nameOf c) = some (.ref a) ∧ v = .ref a
def RVs (C : RC) (as : List Addr) (H : Hp) : List VV → List V → Prop
  | [], ys => ys = []
  | x :: xs, ys => ∃ y zs, ys = y :: zs ∧ RV C as H x y ∧ RVs C as H xs zs
end
def RFs (C : RC) (as : List Addr) (H : Hp) : List (Nat × VV) → List (Str × V) → Prop
  | [], ys => ys = []
  | (n, x) :: xs, ys => ∃ y zs, ys = (nameOf n, y) :: zs ∧ RV C as H x y ∧ RFs C as H xs zs
/-- a key of a dict -/
def RK : VV → Key → Prop
  | .int i, k => k = .inl i
  | .str s, k => k = .inr (mkS s) ∧ sOk s = true
  | _, _ => False
def RKs (C : RC) (as : List Addr) (H : Hp) : List (VV × VV) → List (Key × V) → Prop
  | [], ys => ys = []
  | (n, x) :: xs, ys => ∃ k y zs, ys = (k, y) :: zs ∧ RK n k ∧ RV C as H x y ∧ RKs C as H xs zs
def RO (C : RC) (as : List Addr) (H : Hp) : VO → HO → Prop
  | .lst xs, o => ∃ ys, o = .lst ys ∧ RVs C as H xs ys
  | .flst xs, o => ∃ ob ys, o = .frz ob (.lst ys) ∧ RVs C as H xs ys
  | .dic kvs, o => ∃ ys, o = .dK ys ∧ RKs C as H kvs ys
  | .ins c fs, o => ∃ Ca dx ys, C.mg (nameOf c) = some (.ref Ca) ∧ o = .ins Ca dx ys ∧ RFs C as H fs ys
structure RelG (C : RC) (as : List Addr) (G : Hv) (H : Hp) : Prop where
  len : as.length = G.length
  nd : as.Nodup
  ob : ∀ (i : Nat) (o : VO), G[i]? = some o → ∃ a h, as[i]? = some a ∧ H a = some h ∧ RO C as H o h
structure Ext (as : List Addr) (H : Hp) (as' : List Addr) (H' : Hp) : Prop where
  pre : ∃ bs, as' = as ++ bs
  tup : ∀ a ys, H a = some (.tup ys) → H' a = some (.tup ys)
  fr : ∀ a o, H a = some o → a ∉ as → H' a = some o
  nw : ∀ a, a ∈ as' → a ∈ as ∨ H a = none
theorem Ext.refl {as : List Addr} {H : Hp} : Ext as H as H := ⟨⟨[], by simp⟩, fun _ _ e => e, fun _ _ e _ => e, fun _ h => .inl h⟩
theorem Ext.trans {as bs cs : List Addr} {H H1 H2 : Hp} (a : Ext as H bs H1) (b : Ext bs H1 cs H2) : Ext as H cs H2 := by
  obtain ⟨⟨x, rfl⟩, t1, f1, n1⟩ := a
  obtain ⟨⟨y, rfl⟩, t2, f2, n2⟩ := b
  have back : ∀ a, H1 a = none → H a = none ∨ a ∈ as := fun a h => by
    by_cases m : a ∈ as
    · exact .inr m
    · refine .inl ?_
      cases q : H a with
      | none => rfl
      | some o => rw [f1 a o q m] at h; cases h
  refine ⟨⟨x ++ y, by simp⟩, fun a ys e => t2 _ _ (t1 _ _ e), fun a o e m => f2 a o (f1 a o e m) fun z => ?_, fun a h => ?_⟩
  · rcases n1 a z with z | z
    · exact m z
    · rw [z] at e; cases e
  · rcases n2 a h with z | z
    · exact n1 a z
    · exact (back a z).symm
theorem Ext.at {as as' : List Addr} {H H' : Hp} (e : Ext as H as' H') {i : Nat} {a : Addr} (h : as[i]? = some a) : as'[i]? = some a := by
  obtain ⟨⟨x, rfl⟩, _, _, _⟩ := e
  rw [List.getElem?_append_left (List.getElem?_eq_some_iff.mp h).1]
  exact h
section
variable {C : RC} {as as' : List Addr} {H H' : Hp}
theorem TupAt.mono {K : PySem.W.Frag} (t : ∀ a ys, H a = some (.tup ys) → H' a = some (.tup ys)) {a : Addr} {ys : List V} (h : TupAt K H a ys) : TupAt K H' a ys := by
  rcases h with h | h
  · exact .inl (t _ _ h)
  · exact .inr h
mutual
theorem RV.mono (e : Ext as H as' H') : ∀ {x : VV} {v : V}, RV C as H x v → RV C as' H' x v
  | .non, _, h => by rw [RV] at h ⊢; exact h
  | .bl _, _, h => by rw [RV] at h ⊢; exact h
  | .int _, _, h => by rw [RV] at h ⊢; exact h
  | .str _, _, h => by rw [RV] at h ⊢; exact h
  | .ref i, _, h => by
    rw [RV] at h ⊢
    obtain ⟨a, h1, h2⟩ := h
    exact ⟨a, e.at h1, h2⟩
  | .tup xs, _, h => by
    rw [RV] at h ⊢
    obtain ⟨a, ys, h1, h2, h3⟩ := h
    exact ⟨a, ys, h1, h2.mono e.tup, RVs.mono e h3⟩
  | .exc _ _, _, h => by rw [RV] at h; exact h.elim
  | .clo _ _, _, h => by rw [RV] at h; exact h.elim
  | .cls _, _, h => by rw [RV] at h ⊢; exact h
theorem RVs.mono (e : Ext as H as' H') : ∀ {x : List VV} {v : List V}, RVs C as H x v → RVs C as' H' x v
  | [], _, h => by rw [RVs] at h ⊢; exact h
  | x :: xs, _, h => by
    rw [RVs] at h ⊢
    obtain ⟨y, zs, h1, h2, h3⟩ := h
    exact ⟨y, zs, h1, RV.mono e h2, RVs.mono e h3⟩
end
theorem RFs.mono (e : Ext as H as' H') : ∀ {x : List (Nat × VV)} {v : List (Str × V)}, RFs C as H x v → RFs C as' H' x v
  | [], _, h => h
  | (n, x) :: xs, _, h => by
    obtain ⟨y, zs, h1, h2, h3⟩ := h
    exact ⟨y, zs, h1, h2.mono e, RFs.mono e h3⟩
theorem RKs.mono (e : Ext as H as' H') : ∀ {x : List (VV × VV)} {v : List (Key × V)}, RKs C as H x v → RKs C as' H' x v
  | [], _, h => h
  | (n, x) :: xs, _, h => by
    obtain ⟨k, y, zs, h1, hk, h2, h3⟩ := h
    exact ⟨k, y, zs, h1, hk, h2.mono e, RKs.mono e h3⟩
theorem RO.mono (e : Ext as H as' H') : ∀ {o : VO} {h : HO}, RO C as H o h → RO C as' H' o h
  | .lst xs, _, h => by
    obtain ⟨ys, h1, h2⟩ := h
    exact ⟨ys, h1, h2.mono e⟩
  | .flst xs, _, h => by
    obtain ⟨ob, ys, h1, h2⟩ := h
    exact ⟨ob, ys, h1, h2.mono e⟩
  | .dic xs, _, h => by
    obtain ⟨ys, h1, h2⟩ := h
    exact ⟨ys, h1, h2.mono e⟩
  | .ins c fs, _, h => by
    obtain ⟨Ca, dx, ys, h1, h2, h3⟩ := h
    exact ⟨Ca, dx, ys, h1, h2, h3.mono e⟩
theorem RVs.length : ∀ {x : List VV} {v : List V}, RVs C as H x v → x.length = v.length
  | [], _, h => by rw [RVs] at h; subst h; rfl
  | x :: xs, _, h => by
    rw [RVs] at h
    obtain ⟨y, zs, rfl, _, h3⟩ := h
    simp [RVs.length h3]
theorem RVs.get : ∀ {x : List VV} {v : List V} {i : Nat} {y : VV}, RVs C as H x v → x[i]? = some y → ∃ u, v[i]? = some u ∧ RV C as H y u
  | [], _, _, _, _, e => by simp at e
  | x :: xs, _, 0, y, h, e => by
    rw [RVs] at h
    obtain ⟨z, zs, rfl, h2, _⟩ := h
    simp at e; subst e
    exact ⟨z, rfl, h2⟩
  | x :: xs, _, i + 1, y, h, e => by
    rw [RVs] at h
    obtain ⟨z, zs, rfl, _, h3⟩ := h
    obtain ⟨u, h4, h5⟩ := RVs.get (i := i) h3 (by simpa using e)
    exact ⟨u, by simpa using h4, h5⟩
theorem RVs.nil : RVs C as H [] [] := by rw [RVs]
theorem RVs.cons {x : VV} {xs : List VV} {v : V} {vs : List V} (h : RV C as H x v) (t : RVs C as H xs vs) : RVs C as H (x :: xs) (v :: vs) := by
  rw [RVs]; exact ⟨v, vs, rfl, h, t⟩
theorem RVs.append : ∀ {x y : List VV} {v w : List V}, RVs C as H x v → RVs C as H y w → RVs C as H (x ++ y) (v ++ w)
  | [], _, _, _, h, h' => by rw [RVs] at h; subst h; exact h'
  | x :: xs, _, _, _, h, h' => by
    rw [RVs] at h
    obtain ⟨z, zs, rfl, h2, h3⟩ := h
    exact .cons h2 (RVs.append h3 h')
theorem RVs.take : ∀ (n : Nat) {x : List VV} {v : List V}, RVs C as H x v → RVs C as H (x.take n) (v.take n)
  | 0, _, _, _ => by simpa using RVs.nil
  | n + 1, [], _, h => by rw [RVs] at h; subst h; exact RVs.nil
  | n + 1, x :: xs, _, h => by
    rw [RVs] at h
    obtain ⟨z, zs, rfl, h2, h3⟩ := h
    exact .cons h2 (RVs.take n h3)
theorem RVs.drop : ∀ (n : Nat) {x : List VV} {v : List V}, RVs C as H x v → RVs C as H (x.drop n) (v.drop n)
  | 0, _, _, h => h
  | n + 1, [], _, h => by rw [RVs] at h; subst h; exact RVs.nil
  | n + 1, x :: xs, _, h => by
    rw [RVs] at h
    obtain ⟨z, zs, rfl, h2, h3⟩ := h
    exact RVs.drop n h3
theorem RVs.set {x : VV} {u : V} (r : RV C as H x u) : ∀ (i : Nat) {xs : List VV} {vs : List V}, RVs C as H xs vs → RVs C as H (xs.set i x) (vs.set i u)
  | _, [], _, h => by rw [RVs] at h; subst h; exact RVs.nil
  | 0, y :: xs, _, h => by
    rw [RVs] at h
    obtain ⟨z, zs, rfl, h2, h3⟩ := h
    exact .cons r h3
  | i + 1, y :: xs, _, h => by
    rw [RVs] at h
    obtain ⟨z, zs, rfl, h2, h3⟩ := h
    exact .cons h2 (RVs.set r i h3)
theorem RVs.dropLast {xs : List VV} {vs : List V} (h : RVs C as H xs vs) : RVs C as H xs.dropLast vs.dropLast := by
  rw [List.dropLast_eq_take, List.dropLast_eq_take, ← h.length]
  exact h.take _
/-! the heap grows -/
theorem RelG.notIn {G : Hv} (r : RelG C as G H) {p : Addr} (hp : H p = none) : p ∉ as := fun hm => by
  obtain ⟨i, hi⟩ := List.getElem?_of_mem hm
  have hlt : i < G.length := by rw [← r.len]; exact (List.getElem?_eq_some_iff.mp hi).1
  obtain ⟨a, h, h1, h2, _⟩ := r.ob i G[i] (List.getElem?_eq_getElem hlt)
  rw [hi] at h1
  cases h1
  rw [hp] at h2
  cases h2
theorem Ext.wr {p : Addr} {o : HO} (hp : ∀ ys, H p ≠ some (.tup ys)) (hs : p ∈ as ∨ H p = none) : Ext as H as (upd H p o) := by
  refine ⟨⟨[], by simp⟩, fun a ys e => ?_, fun a u e m => ?_, fun a h => .inl h⟩
  · rw [upd_ne]
    · exact e
    · rintro rfl; exact hp _ e
  · rw [upd_ne]
    · exact e
    · rintro rfl
      rcases hs with h | h
      · exact m h
      · rw [h] at e; cases e
theorem Ext.side {p : Addr} {o : HO} (hp : H p = none) : Ext as H as (upd H p o) := Ext.wr (fun ys => by rw [hp]; simp) (.inr hp)
theorem Ext.new {p : Addr} {o : HO} (hp : H p = none) : Ext as H (as ++ [p]) (upd H p o) := by
  refine ⟨⟨[p], rfl⟩, fun a ys e => ?_, fun a u e m => ?_, fun a h => ?_⟩
  · rw [upd_ne]
    · exact e
    · rintro rfl; rw [hp] at e; cases e
  · rw [upd_ne]
    · exact e
    · rintro rfl; rw [hp] at e; cases e
  · rcases List.mem_append.mp h with h | h
    · exact .inl h
    · exact .inr (by rw [List.mem_singleton.mp h]; exact hp)
/-- something that is not told in G is laid at a free place -/
theorem RelG.side {G : Hv} (r : RelG C as G H) {p : Addr} {o : HO} (hp : H p = none) : RelG C as G (upd H p o) := by
  have e : Ext as H as (L2.upd H p o) := Ext.side hp
  refine ⟨r.len, r.nd, fun i v hv => ?_⟩
  obtain ⟨a, h, h1, h2, h3⟩ := r.ob i v hv
  refine ⟨a, h, h1, ?_, h3.mono e⟩
  rw [upd_ne (ne_of_none h2 hp)]
  exact h2
/-- a new object -/
theorem RelG.new {G : Hv} (r : RelG C as G H) {p : Addr} {o : VO} {ho : HO} (hp : H p = none) (h : RO C as H o ho) : RelG C (as ++ [p]) (G ++ [o]) (upd H p ho) := by
  have e : Ext as H (as ++ [p]) (L2.upd H p ho) := Ext.new hp
  refine ⟨by simp [r.len], ?_, fun i v hv => ?_⟩
  · rw [List.nodup_append]
    refine ⟨r.nd, by simp, fun a ha b hb => ?_⟩
    have : b = p := by simpa using hb
    subst this
    rintro rfl
    exact r.notIn hp ha
  · by_cases hi : i < G.length
    · rw [List.getElem?_append_left hi] at hv
      obtain ⟨a, h', h1, h2, h3⟩ := r.ob i v hv
      refine ⟨a, h', ?_, ?_, h3.mono e⟩
      · rw [List.getElem?_append_left (by rw [r.len]; exact hi)]; exact h1
      · rw [upd_ne (ne_of_none h2 hp)]; exact h2
    · rw [List.getElem?_append_right (by omega)] at hv
      have hi0 : i = G.length := by
        have := (List.getElem?_eq_some_iff.mp hv).1
        simp at this
        omega
      subst hi0
      simp at hv
      subst hv
      refine ⟨p, ho, ?_, upd_same, h.mono e⟩
      rw [← r.len]
      simp
theorem RelG.newAt {G : Hv} (r : RelG C as G H) {p : Addr} : (as ++ [p])[G.length]? = some p := by
  rw [← r.len]; simp
/-- an object is written -/
theorem RelG.write {G : Hv} (r : RelG C as G H) {i : Nat} {a : Addr} {o : VO} {ho : HO} (hi : as[i]? = some a) (nt : ∀ ys, H a ≠ some (.tup ys)) (h : RO C as H o ho) : RelG C as (G.set i o) (upd H a ho) := by
  have e : Ext as H as (L2.upd H a ho) := Ext.wr nt (.inl (List.mem_of_getElem? hi))
  refine ⟨by simp [r.len], r.nd, fun j v hv => ?_⟩
  by_cases hj : j = i
  · subst hj
    rw [List.getElem?_set_self' ] at hv
    have hlt : j < G.length := by rw [← r.len]; exact (List.getElem?_eq_some_iff.mp hi).1
    rw [List.getElem?_eq_getElem hlt] at hv
    simp at hv
    subst hv
    exact ⟨a, ho, hi, upd_same, h.mono e⟩
  · rw [List.getElem?_set_ne (Ne.symm hj)] at hv
    obtain ⟨b, h', h1, h2, h3⟩ := r.ob j v hv
    refine ⟨b, h', h1, ?_, h3.mono e⟩
    rw [upd_ne]
    · exact h2
    · rintro rfl
      obtain ⟨k1, e1⟩ := List.getElem?_eq_some_iff.mp hi
      obtain ⟨k2, e2⟩ := List.getElem?_eq_some_iff.mp h1
      exact hj ((List.getElem_inj r.nd).mp (e2.trans e1.symm))
theorem RelG.at {G : Hv} (r : RelG C as G H) {i : Nat} {o : VO} (h : G[i]? = some o) {a : Addr} (ha : as[i]? = some a) : ∃ ho, H a = some ho ∧ RO C as H o ho := by
  obtain ⟨b, ho, h1, h2, h3⟩ := r.ob i o h
  rw [ha] at h1
  cases h1
  exact ⟨ho, h2, h3⟩
end

/-! ### readings -/
/-- an exception, as it lies -/
def RX (C : RC) (as : List Addr) (H : Hp) : VV → Value → Option Addr → Prop
  | .exc c fs, cls, d => ∃ Ca, C.mg (nameOf c) = some (.ref Ca) ∧ cls = .ref Ca ∧ ((fs = [] ∧ d = none) ∨ ∃ dd ys, d = some dd ∧ H dd = some (.xd ys) ∧ RFs C as H fs ys)
  | _, _, _ => False
def RS (C : RC) (as : List Addr) (H : Hp) (S : Env) (σ : St) : Prop := S.length = σ.length ∧ ∀ (i : Nat) (x : VV), S[i]? = some (some x) → ∃ v, σ[i]? = some (some v) ∧ RV C as H x v
theorem RS.mono {C : RC} {as as' : List Addr} {H H' : Hp} (e : Ext as H as' H') {S : Env} {σ : St} (h : RS C as H S σ) : RS C as' H' S σ :=
  ⟨h.1, fun i x hx => let ⟨v, h1, h2⟩ := h.2 i x hx; ⟨v, h1, h2.mono e⟩⟩
theorem RS.set {C : RC} {as : List Addr} {H : Hp} {S : Env} {σ : St} (h : RS C as H S σ) (i : Nat) {x : VV} {v : V} (r : RV C as H x v) : RS C as H (S.set i (some x)) (σ.set i (some v)) := by
  refine ⟨by simp [h.1], fun j y hy => ?_⟩
  by_cases hj : j = i
  · subst hj
    rw [List.getElem?_set_self'] at hy ⊢
    cases e : S[j]? with
    | none => rw [e] at hy; simp at hy
    | some z =>
      rw [e] at hy
      simp at hy
      subst hy
      have hlt : j < σ.length := by rw [← h.1]; exact (List.getElem?_eq_some_iff.mp e).1
      exact ⟨v, by rw [List.getElem?_eq_getElem hlt]; rfl, r⟩
  · rw [List.getElem?_set_ne (Ne.symm hj)] at hy ⊢
    exact h.2 j y hy
theorem RS.none {C : RC} {as : List Addr} {H : Hp} {S : Env} {σ : St} (h : RS C as H S σ) (i : Nat) (o : Option V) : RS C as H (S.set i .none) (σ.set i o) := by
  refine ⟨by simp [h.1], fun j y hy => ?_⟩
  by_cases hj : j = i
  · subst hj
    rw [List.getElem?_set_self'] at hy
    cases e : S[j]? with
    | none => rw [e] at hy; simp at hy
    | some z => rw [e] at hy; simp at hy
  · rw [List.getElem?_set_ne (Ne.symm hj)] at hy ⊢
    exact h.2 j y hy

section
variable (C : RC) (W : WX)
/-- what is wanted of a result: RR relates the answers -/
def tR {α β : Type} (RR : List Addr → Hp → α → β → Prop) (r : R α) (as : List Addr) (H : Hp) (σ : St) (Q : β → Hp → Prop) : Prop := match r with
  | .ok v G => ∀ as' H' v', Ext as H as' H' → RelG C as' G H' → RR as' H' v v' → Q v' H'
  | .exn x G => ∀ as' H' cls d, Ext as H as' H' → RelG C as' G H' → RX C as' H' x cls d → W cls d σ H'
  | .bad => False
def tD {α β : Type} (RR : List Addr → Hp → α → β → Prop) (d : Env → Hv → R α) : St → Hp → (β → Hp → Prop) → Prop := fun σ H Q => ∃ as G S, RelG C as G H ∧ RS C as H S σ ∧ tR C W RR (d S G) as H σ Q
def rEq' {α : Type} : List Addr → Hp → α → α → Prop := fun _ _ x y => x = y
abbrev tDE (d : DE) : TE := tD C W (RV C) d
abbrev tDT (d : DT) : TT := tD C W rEq' d
abbrev tDA (d : DA) : TA := tD C W (RVs C) d
/-- what is wanted of a statement's end -/
def tO (o : O) (as : List Addr) (H : Hp) (D : L2.Ends) : Prop := match o with
  | .nx S G => ∀ as' H' σ', Ext as H as' H' → RelG C as' G H' → RS C as' H' S σ' → D.nx σ' H'
  | .rt v G => ∀ as' H' v', Ext as H as' H' → RelG C as' G H' → RV C as' H' v v' → D.rt v' H'
  | .bk S G => ∀ as' H' σ', Ext as H as' H' → RelG C as' G H' → RS C as' H' S σ' → D.bk σ' H'
  | .ct S G => ∀ as' H' σ', Ext as H as' H' → RelG C as' G H' → RS C as' H' S σ' → D.ct σ' H'
  | .exn x S G => ∀ as' H' σ' cls d, Ext as H as' H' → RelG C as' G H' → RS C as' H' S σ' → RX C as' H' x cls d → W cls d σ' H'
  | .bad => False
def tDS (d : DS) : TS := fun D σ H => ∃ as G S, RelG C as G H ∧ RS C as H S σ ∧ tO C W (d S G) as H D
def tDG (d : DG) : TG := fun v σ H Q => ∃ as G S x, RelG C as G H ∧ RS C as H S σ ∧ RV C as H x v ∧ tO C W (d x S G) as H { nx := Q, rt := fun _ _ => False }
end
/-- an expression has this denotation -/
abbrev SndE (X : Cx) (ep : List (Addr × Obj)) (W : WX) (e : Expr) (d : DE) : Prop := PE X e (tDE (rc X ep) W d)
abbrev SndT (X : Cx) (ep : List (Addr × Obj)) (W : WX) (e : Expr) (d : DT) : Prop := PT X e (tDT (rc X ep) W d)
abbrev SndW (X : Cx) (ep : List (Addr × Obj)) (W : WX) (e : Expr) (d : DT) : Prop := PW X e (tDT (rc X ep) W d)
abbrev SndA (X : Cx) (ep : List (Addr × Obj)) (W : WX) (es : List Expr) (d : DA) : Prop := PA X es (tDA (rc X ep) W d)
abbrev SndS (X : Cx) (ep : List (Addr × Obj)) (W : WX) (s : Stmt) (d : DS) : Prop := PS X s (tDS (rc X ep) W d)
abbrev SndSs (X : Cx) (ep : List (Addr × Obj)) (W : WX) (s : List Stmt) (d : DS) : Prop := PSs X s (tDS (rc X ep) W d)
abbrev SndG (X : Cx) (ep : List (Addr × Obj)) (W : WX) (e : Expr) (d : DG) : Prop := PG X e (tDG (rc X ep) W d)

section
variable {C : RC} {W : WX} {α β γ δ : Type} {RR : List Addr → Hp → α → β → Prop} {RR' : List Addr → Hp → γ → δ → Prop}
theorem tR.step {r : R α} {as as1 : List Addr} {H H1 : Hp} {σ : St} {Q : β → Hp → Prop} (e : Ext as H as1 H1) (h : tR C W RR r as H σ Q) : tR C W RR r as1 H1 σ Q := by
  cases r with
  | ok v G => exact fun as' H' v' e' rg rv => h as' H' v' (e.trans e') rg rv
  | exn x G => exact fun as' H' cls d e' rg rx => h as' H' cls d (e.trans e') rg rx
  | bad => exact h
/-- first d, then f -/
theorem tD.bind {d : Env → Hv → R α} {f : α → Hv → R γ} {as : List Addr} {G : Hv} {S : Env} {σ : St} {H : Hp} {Q : δ → Hp → Prop} {Q1 : β → Hp → Prop} (rg : RelG C as G H) (rs : RS C as H S σ) (h : tR C W RR' ((d S G).bind f) as H σ Q)
    (k : ∀ x G1 as1 H1 x', Ext as H as1 H1 → RelG C as1 G1 H1 → RS C as1 H1 S σ → RR as1 H1 x x' → tR C W RR' (f x G1) as1 H1 σ Q → Q1 x' H1) : tD C W RR d σ H Q1 := by
  refine ⟨as, G, S, rg, rs, ?_⟩
  cases e : d S G with
  | ok x G1 =>
    rw [e] at h
    exact fun as1 H1 x' e1 rg1 rx => k x G1 as1 H1 x' e1 rg1 (rs.mono e1) rx (tR.step e1 h)
  | exn x G1 =>
    rw [e] at h
    exact h
  | bad =>
    rw [e] at h
    exact h
theorem tR.ok {v : α} {G : Hv} {as as1 : List Addr} {H H1 : Hp} {σ : St} {Q : β → Hp → Prop} {v' : β} (h : tR C W RR (.ok v G) as H σ Q) (e : Ext as H as1 H1) (rg : RelG C as1 G H1) (rv : RR as1 H1 v v') : Q v' H1 := h as1 H1 v' e rg rv
end
theorem _root_.L2.PE.imp {X : Cx} {e : Expr} {t t' : TE} (h : PE X e t) (i : ∀ σ H Q, t' σ H Q → t σ H Q) : PE X e t' := ⟨fun pins s σ H Q I q => h.run pins s σ H Q I (i σ H Q q)⟩
theorem _root_.L2.PT.imp {X : Cx} {e : Expr} {t t' : TT} (h : PT X e t) (i : ∀ σ H Q, t' σ H Q → t σ H Q) : PT X e t' := ⟨fun pins s σ H Q I q => h.run pins s σ H Q I (i σ H Q q)⟩
theorem _root_.L2.PW.imp {X : Cx} {e : Expr} {t t' : TT} (h : PW X e t) (i : ∀ σ H Q, t' σ H Q → t σ H Q) : PW X e t' := ⟨fun w pins s σ H Q I q => h.run w pins s σ H Q I (i σ H Q q)⟩
theorem _root_.L2.PA.imp {X : Cx} {e : List Expr} {t t' : TA} (h : PA X e t) (i : ∀ σ H Q, t' σ H Q → t σ H Q) : PA X e t' := ⟨fun p pins s σ H Q I q => h.run p pins s σ H Q I (i σ H Q q)⟩
theorem _root_.L2.PS.imp {X : Cx} {e : Stmt} {t t' : TS} (h : PS X e t) (i : ∀ D σ H, t' D σ H → t D σ H) : PS X e t' := ⟨fun pins s σ H D I q => h.run pins s σ H D I (i D σ H q)⟩
theorem _root_.L2.PSs.imp {X : Cx} {e : List Stmt} {t t' : TS} (h : PSs X e t) (i : ∀ D σ H, t' D σ H → t D σ H) : PSs X e t' := ⟨fun pins s σ H D I q => h.run pins s σ H D I (i D σ H q)⟩
theorem _root_.L2.PG.imp {X : Cx} {e : Expr} {t t' : TG} (h : PG X e t) (i : ∀ v σ H Q, t' v σ H Q → t v σ H Q) : PG X e t' := ⟨fun pins s σ H v u Q I r q => h.run pins s σ H v u Q I r (i v σ H Q q)⟩

/-! ### constants, names -/
section
variable {X : Cx} {ep : List (Addr × Obj)} {W : WX}
theorem se_bad {e : Expr} : SndE X ep W e dBad := ⟨fun _ _ _ _ _ _ ⟨_, _, _, _, _, h⟩ => h.elim⟩
theorem se_non {j pos} : SndE X ep W (.Constant .none j pos) (dC .non) := pe_non.imp fun σ H Q ⟨as, G, S, rg, rs, h⟩ => h as H .non .refl rg (by rw [RV])
theorem se_bl {b j pos} : SndE X ep W (.Constant (.bool b) j pos) (dC (.bl b)) := pe_bl.imp fun σ H Q ⟨as, G, S, rg, rs, h⟩ => h as H (.bl b) .refl rg (by rw [RV])
theorem se_int {i j pos} : SndE X ep W (.Constant (.int i) j pos) (dC (.int i)) := pe_int.imp fun σ H Q ⟨as, G, S, rg, rs, h⟩ => h as H (.int i) .refl rg (by rw [RV])
theorem se_str {s : List Nat} {x : Str} {j pos} (e : x = mkS s := by first | rfl | decide +kernel) (ok : sOk s = true := by decide +kernel) : SndE X ep W (.Constant (.str x) j pos) (dC (.str s)) := by
  subst e
  exact pe_str.imp fun σ H Q ⟨as, G, S, rg, rs, h⟩ => h as H (.str (mkS s)) .refl rg (by rw [RV]; exact ⟨rfl, ok⟩)
theorem sv (i : Nat) {x : Str} {pos : Pos} (hN : X.N[i]? = some x := by rfl) (hv : Vis X.env.scope x := by first | exact .inl rfl | exact .inr (.inl rfl) | exact .inr (.inr rfl)) (hd : (x == ("__debug__" : Str)) = false := by decide)
    (hcd : (x == ("__classdict__" : Str)) = false := by decide) : SndE X ep W (.Name x pos) (dVar i) := (pe_var hN hv hd hcd).imp fun σ H Q ⟨as, G, S, rg, rs, h⟩ => by
  cases e : S[i]? with
  | none => rw [dVar, e] at h; exact h.elim
  | some o =>
    cases o with
    | none => rw [dVar, e] at h; exact h.elim
    | some x =>
      rw [dVar, e] at h
      obtain ⟨v, h1, h2⟩ := rs.2 i x e
      exact ⟨v, h1, h as H v .refl rg h2⟩
/-- a constant of the module -/
structure GlobOk (K : PySem.W.Frag) (mg : Str → Option Value) (x : Str) (c : VV) : Prop where
  ex : ∃ u v, mg x = some u ∧ RelV v u ∧ ∀ as H, RV ⟨K, mg, []⟩ as H c v
end
end DL
end S_Rules1
section S_Rules2
set_option Elab.async false
set_option linter.all false
set_option maxRecDepth 100000
set_option maxHeartbeats 2000000
/-! Rules2: operators, comparisons, tests, displays, subscripts. -/
namespace DL
open PySem PySem.Spec PyProof.Rows L2

/-! ### values -/
section
variable {C : RC} {as : List Addr} {H : Hp}
theorem RV.int {i : Int} {v : V} (h : RV C as H (.int i) v) : v = .int i := by rw [RV] at h; exact h
theorem RV.bl {i : Bool} {v : V} (h : RV C as H (.bl i) v) : v = .bl i := by rw [RV] at h; exact h
theorem RV.non {v : V} (h : RV C as H .non v) : v = .non := by rw [RV] at h; exact h
theorem RV.str {s : List Nat} {v : V} (h : RV C as H (.str s) v) : v = .str (mkS s) := by rw [RV] at h; exact h.1
theorem RV.sok {s : List Nat} {v : V} (h : RV C as H (.str s) v) : sOk s = true := by rw [RV] at h; exact h.2
theorem RV.tup {xs : List VV} {v : V} (h : RV C as H (.tup xs) v) : ∃ a ys, v = .ref a ∧ TupAt C.K H a ys ∧ RVs C as H xs ys := by rw [RV] at h; exact h
theorem RV.ref {i : Nat} {v : V} (h : RV C as H (.ref i) v) : ∃ a, as[i]? = some a ∧ v = .ref a := by rw [RV] at h; exact h
theorem RV.mkInt {i : Int} : RV C as H (.int i) (.int i) := by rw [RV]
theorem RV.mkBl {i : Bool} : RV C as H (.bl i) (.bl i) := by rw [RV]
theorem RV.mkNon : RV C as H .non .non := by rw [RV]
theorem RV.mkStr {s : List Nat} (h : sOk s = true) : RV C as H (.str s) (.str (mkS s)) := by rw [RV]; exact ⟨rfl, h⟩
theorem RV.mkTup {xs : List VV} {a : Addr} {ys : List V} (h : TupAt C.K H a ys) (r : RVs C as H xs ys) : RV C as H (.tup xs) (.ref a) := by rw [RV]; exact ⟨a, ys, rfl, h, r⟩
theorem RV.mkRef {i : Nat} {a : Addr} (h : as[i]? = some a) : RV C as H (.ref i) (.ref a) := by rw [RV]; exact ⟨a, h, rfl⟩
/-- a tracked list -/
theorem RV.lst {G : Hv} {i : Nat} {xs : List VV} {v : V} (rg : RelG C as G H) (h : RV C as H (.ref i) v) (e : G[i]? = some (.lst xs)) : ∃ a ys, as[i]? = some a ∧ v = .ref a ∧ H a = some (.lst ys) ∧ RVs C as H xs ys := by
  obtain ⟨a, ha, hv⟩ := h.ref
  obtain ⟨ho, h1, ys, h2, h3⟩ := rg.at e ha
  subst h2
  exact ⟨a, ys, ha, hv, h1, h3⟩
/-- a list that is read -/
theorem RV.lstR {K : PySem.W.Frag} {G : Hv} {xs : List VV} {x : VV} {v : V} (rg : RelG C as G H) (h : RV C as H x v) (e : asListR G x = some xs) : ∃ a ys, v = .ref a ∧ SqL K H a ys ∧ RVs C as H xs ys := by
  cases x with
  | ref i =>
    obtain ⟨a, ha, hv⟩ := h.ref
    unfold asListR at e
    simp only at e
    cases q : G[i]? with
    | none => rw [q] at e; cases e
    | some o =>
      rw [q] at e
      obtain ⟨ho, h1, h2⟩ := rg.at q ha
      cases o with
      | lst zs =>
        cases e
        obtain ⟨ys, rfl, h3⟩ := h2
        exact ⟨a, ys, hv, SqL.of h1, h3⟩
      | flst zs =>
        cases e
        obtain ⟨ob, ys, rfl, h3⟩ := h2
        exact ⟨a, ys, hv, .inl (.inr ⟨ob, h1⟩), h3⟩
      | dic _ => cases e
      | ins _ _ => cases e
  | _ => cases e
theorem RV.seq {G : Hv} {xs : List VV} {x : VV} {v : V} (rg : RelG C as G H) (h : RV C as H x v) (e : asSeq G x = some xs) : ∃ a ys, v = .ref a ∧ (SqL C.K H a ys ∨ SqT C.K H a ys) ∧ RVs C as H xs ys := by
  cases x with
  | tup zs =>
    cases e
    obtain ⟨a, ys, h1, h2, h3⟩ := h.tup
    exact ⟨a, ys, h1, .inr h2.sq, h3⟩
  | ref i =>
    obtain ⟨a, ys, h1, h2, h3⟩ := RV.lstR (K := C.K) rg h (show asListR G (.ref i) = some xs from e)
    exact ⟨a, ys, h1, .inl h2, h3⟩
  | _ => cases e
end
theorem lim : LIM = sizeLine := by rw [sizeLine_eq]
theorem mkS_len (s : List Nat) : (mkS s).length = s.length := by simp [mkS, Str.length]
theorem mkS_app (a b : List Nat) : (mkS a ++ mkS b : Str) = mkS (a ++ b) := by
  show Str.append (mkS a) (mkS b) = _
  simp [Str.append, mkS]
theorem mkS_inj {a b : List Nat} (h : mkS a = mkS b) : a = b := by
  have := congrArg (fun s : Str => s.cps.toList) h
  simpa [mkS] using this
theorem sOk_app {a b : List Nat} (h : sOk a = true) (h' : sOk b = true) : sOk (a ++ b) = true := by
  unfold sOk at *
  rw [List.all_append, h, h']; rfl

/-! ### two-place operators -/
/-- an answer by values -/
def oR (C : RC) (o : Option (VV × Hv)) (as : List Addr) (H : Hp) (Q : VK) : Prop := match o with
  | some (v, G) => ∀ as' H' v', Ext as H as' H' → RelG C as' G H' → RV C as' H' v v' → Q v' H'
  | none => False
def rD (C : RC) (f : VV → VV → Hv → Option (VV × Hv)) : R2 := fun x' y' H Q => ∃ as G x y, RelG C as G H ∧ RV C as H x x' ∧ RV C as H y y' ∧ oR C (f x y G) as H Q
theorem tR_ofO {C : RC} {W : WX} {o : Option (VV × Hv)} {as : List Addr} {H : Hp} {σ : St} {Q : VK} (h : tR C W (RV C) (ofO o) as H σ Q) : oR C o as H Q := by
  cases o with
  | none => exact h
  | some p => exact h
section
variable {X : Cx} {ep : List (Addr × Obj)} {W : WX} {a b c : Expr} {da db dc : DE} {pos : Pos}
theorem se_bin {op : Operator} {f : VV → VV → Hv → Option (VV × Hv)} (ho : OpR X (binaryOp op) (rD (rc X ep) f)) (ha : SndE X ep W a da) (hb : SndE X ep W b db) : SndE X ep W (.BinOp a op b pos) (dBin f da db) :=
  (pe_op ho ha hb).imp fun σ H Q ⟨as, G, S, rg, rs, h⟩ =>
    tD.bind rg rs h fun x G1 as1 H1 x' e1 rg1 rs1 rx h1 => tD.bind rg1 rs1 h1 fun y G2 as2 H2 y' e2 rg2 rs2 ry h2 => ⟨as2, G2, x, y, rg2, rx.mono e2, ry, tR_ofO h2⟩
theorem so_oAdd : OpR X (binaryOp .Add) (rD (rc X ep) oAdd) := by
  intro pins s σ H x' y' v u Q I rx ry ⟨as, G, x, y, rg, hx, hy, h⟩
  unfold oAdd at h
  split at h
  · exact op_add pins s σ H _ _ v u Q I rx ry ⟨_, _, hx.int, hy.int, h _ _ _ .refl rg .mkInt⟩
  · rename_i s1 s2
    split at h
    · rename_i hl
      have := h _ _ _ .refl rg (.mkStr (sOk_app hx.sok hy.sok))
      refine op_add_str pins s σ H _ _ v u Q I rx ry ⟨_, _, hx.str, hy.str, by rw [mkS_len, mkS_len, ← lim]; exact hl, ?_⟩
      rw [mkS_app]; exact this
    · exact h.elim
  · rename_i xs ys
    split at h
    · rename_i hl
      obtain ⟨a, vs, e1, t1, r1⟩ := hx.tup
      obtain ⟨b, ws, e2, t2, r2⟩ := hy.tup
      have l1 := r1.length
      have l2 := r2.length
      refine op_catA pins s σ H _ _ v u Q I rx ry ⟨a, b, vs, ws, e1, e2, t1.sq, t2.sq, by rw [← l1, ← l2, ← lim]; exact hl, fun e => ?_, fun ne e => ?_, fun n1 n2 p hp => ?_⟩
      · subst e
        have : xs = [] := by cases xs; rfl; simp at l1
        subst this
        exact h _ _ _ .refl rg (.mkTup t2 r2)
      · subst e
        have : ys = [] := by cases ys; rfl; simp at l2
        subst this
        rw [List.append_nil] at h
        exact h _ _ _ .refl rg (.mkTup t1 r1)
      · have e : Ext as H as (upd H p (.tup (vs ++ ws))) := Ext.side hp
        exact h as _ _ e (rg.side hp) (.mkTup (.inl upd_same) ((r1.append r2).mono e))
    · exact h.elim
  · rename_i i j
    split at h
    · rename_i xs ys ei ej
      split at h
      · rename_i hl
        obtain ⟨a, vs, h1, h2, h3, r1⟩ := RV.lst rg hx ei
        obtain ⟨b, ws, h4, h5, h6, r2⟩ := RV.lst rg hy ej
        refine op_cat pins s σ H _ _ v u Q I rx ry ⟨a, b, vs, ws, h2, h5, h3, h6, by rw [← r1.length, ← r2.length, ← lim]; exact hl, fun p hp => ?_⟩
        have e : Ext as H (as ++ [p]) (upd H p (.lst (vs ++ ws))) := Ext.new hp
        exact h _ _ _ e (rg.new hp ⟨_, rfl, r1.append r2⟩) (.mkRef rg.newAt)
      · exact h.elim
    · exact h.elim
  · exact h.elim
theorem so_oSub : OpR X (binaryOp .Sub) (rD (rc X ep) oSub) := by
  intro pins s σ H x' y' v u Q I rx ry ⟨as, G, x, y, rg, hx, hy, h⟩
  unfold oSub at h
  split at h
  · exact op_sub pins s σ H _ _ v u Q I rx ry ⟨_, _, hx.int, hy.int, h _ _ _ .refl rg .mkInt⟩
  · exact h.elim
theorem mulOk {i j : Int} (h : MulOk i j) : IntMulOk i j := by
  have b : ∀ x : Int, Builtin.Int.intBits x ≤ x.natAbs.log2 + 1 := fun x => by
    unfold Builtin.Int.intBits
    split <;> omega
  have h1 := b i
  have h2 := b j
  have h3 : i.natAbs.log2 + j.natAbs.log2 < 100000000 := h
  have e : bitsLine = 134217728 := by decide
  unfold IntMulOk
  intro z
  rw [Bool.and_eq_true] at z
  have z2 := z.2
  unfold Builtin.Int.intTooBig at z2
  have z3 := of_decide_eq_true z2
  rw [e] at z3
  omega
theorem op_mulG : OpR X (binaryOp .Mult) (rI (fun i j => MulOk i j) fun i j => .int (i * j)) := opI fun _ _ _ _ _ _ _ hc q => mul_int q (mulOk hc)
theorem repL_eq {C : RC} {as : List Addr} {H : Hp} {xs : List VV} {ys : List V} (r : RVs C as H xs ys) : ∀ n, RVs C as H (repL xs n) (List.replicate n ys).flatten
  | 0 => by simpa [repL] using RVs.nil
  | n + 1 => by
    rw [repL, List.replicate_succ, List.flatten_cons]
    exact r.append (repL_eq r n)
theorem so_oMul : OpR X (binaryOp .Mult) (rD (rc X ep) oMul) := by
  intro pins s σ H x' y' v u Q I rx ry ⟨as, G, x, y, rg, hx, hy, h⟩
  unfold oMul at h
  split at h
  · split at h
    · rename_i hl
      exact op_mulG pins s σ H _ _ v u Q I rx ry ⟨_, _, hx.int, hy.int, hl, h _ _ _ .refl rg .mkInt⟩
    · exact h.elim
  · split at h
    · rename_i xs ei
      split at h
      · rename_i hl
        obtain ⟨a, vs, h1, h2, h3, r1⟩ := RV.lst rg hx ei
        refine op_rep pins s σ H _ _ v u Q I rx ry ⟨a, _, vs, h2, hy.int, h3, hl.1, hl.2.1, by rw [← r1.length, ← lim]; exact hl.2.2, fun p hp => ?_⟩
        exact h _ _ _ (Ext.new hp) (rg.new hp ⟨_, rfl, repL_eq r1 _⟩) (.mkRef rg.newAt)
      · exact h.elim
    · exact h.elim
  · exact h.elim
theorem so_oFdiv : OpR X (binaryOp .FloorDiv) (rD (rc X ep) oFdiv) := by
  intro pins s σ H x' y' v u Q I rx ry ⟨as, G, x, y, rg, hx, hy, h⟩
  unfold oFdiv at h
  split at h
  · split at h
    · rename_i hl
      exact op_fdiv pins s σ H _ _ v u Q I rx ry ⟨_, _, hx.int, hy.int, hl, h _ _ _ .refl rg .mkInt⟩
    · exact h.elim
  · exact h.elim
theorem so_oMod : OpR X (binaryOp .Mod) (rD (rc X ep) oMod) := by
  intro pins s σ H x' y' v u Q I rx ry ⟨as, G, x, y, rg, hx, hy, h⟩
  unfold oMod at h
  split at h
  · split at h
    · rename_i hl
      exact op_mod pins s σ H _ _ v u Q I rx ry ⟨_, _, hx.int, hy.int, hl, h _ _ _ .refl rg .mkInt⟩
    · exact h.elim
  · exact h.elim
theorem so_oPow : OpR X (binaryOp .Pow) (rD (rc X ep) oPow) := by
  intro pins s σ H x' y' v u Q I rx ry ⟨as, G, x, y, rg, hx, hy, h⟩
  unfold oPow at h
  split at h
  · split at h
    · rename_i hl
      exact op_pow pins s σ H _ _ v u Q I rx ry ⟨_, _, hx.int, hy.int, ⟨hl.1, by omega, hl.2.2⟩, h _ _ _ .refl rg .mkInt⟩
    · exact h.elim
  · exact h.elim

/-! ### comparisons -/
def rC (C : RC) (f : Hv → VV → VV → Option Bool) : R2 := fun x' y' H Q => ∃ as G x y b, RelG C as G H ∧ RV C as H x x' ∧ RV C as H y y' ∧ f G x y = some b ∧ Q (.bl b) H
theorem tR_ofB {C : RC} {W : WX} {o : Option Bool} {as : List Addr} {G : Hv} {H : Hp} {σ : St} {Q : VK} (rg : RelG C as G H) (h : tR C W (RV C) (ofP (o.map VV.bl) G) as H σ Q) : ∃ b, o = some b ∧ Q (.bl b) H := by
  cases o with
  | none => exact h.elim
  | some b => exact ⟨b, rfl, h _ _ _ .refl rg .mkBl⟩
theorem se_cmp {op : CmpOp} {f : Hv → VV → VV → Option Bool} (ho : OpR X (compareOp op) (rC (rc X ep) f)) (ha : SndE X ep W a da) (hb : SndE X ep W b db) (hm : behindInMarks op b = false := by first | rfl | exact nobehind _ (by decide) (by decide)) :
    SndE X ep W (.Compare a [op] [b] pos) (dCmp f da db) :=
  (pe_cmpR ho ha hb hm).imp fun σ H Q ⟨as, G, S, rg, rs, h⟩ =>
    tD.bind rg rs h fun x G1 as1 H1 x' e1 rg1 rs1 rx h1 => tD.bind rg1 rs1 h1 fun y G2 as2 H2 y' e2 rg2 rs2 ry h2 => by
      obtain ⟨b, e, q⟩ := tR_ofB rg2 h2
      exact ⟨as2, G2, x, y, b, rg2, rx.mono e2, ry, e, q⟩
theorem so_cmpI {op : CmpOp} {p : Int → Int → Bool} (ho : OpR X (compareOp op) (rI0 fun i j => .bl (p i j))) : OpR X (compareOp op) (rC (rc X ep) fun _ x y => cmpI p x y) := by
  intro pins s σ H x' y' v u Q I rx ry ⟨as, G, x, y, b, rg, hx, hy, h, q⟩
  unfold cmpI at h
  dsimp only at h
  split at h
  · cases h
    exact ho pins s σ H _ _ v u Q I rx ry ⟨_, _, hx.int, hy.int, q⟩
  · cases h
theorem so_cLt : OpR X (compareOp .Lt) (rC (rc X ep) cLt) := so_cmpI op_lt
theorem so_cLe : OpR X (compareOp .LtE) (rC (rc X ep) cLe) := so_cmpI op_le
theorem so_cGt : OpR X (compareOp .Gt) (rC (rc X ep) cGt) := so_cmpI op_gt
theorem so_cGe : OpR X (compareOp .GtE) (rC (rc X ep) cGe) := so_cmpI op_ge
/-! equality of data -/
mutual
def pdOf : PD → PyData
  | .non => .none
  | .bl b => .bool b
  | .int i => .int i
  | .str s => .str (mkS s)
  | .lst xs => .list (pdOfs xs)
  | .tup xs => .tuple (pdOfs xs)
def pdOfs : List PD → List PyData
  | [] => []
  | x :: xs => pdOf x :: pdOfs xs
end
theorem b2i_eq (b : Bool) : DL.b2i b = if b then 1 else 0 := rfl
mutual
theorem eqv_pd : ∀ (x y : PD), PyData.eqv (pdOf x) (pdOf y) = PD.eqv x y
  | .non, y => by cases y <;> rfl
  | .bl a, y => by cases y <;> simp [pdOf, PyData.eqv, PD.eqv, DL.b2i] <;> rfl
  | .int a, y => by cases y <;> simp [pdOf, PyData.eqv, PD.eqv, DL.b2i] <;> rfl
  | .str a, y => by
    cases y <;> simp [pdOf, PyData.eqv, PD.eqv]
    rename_i b
    by_cases h : a = b
    · subst h; simp
    · have : ¬ mkS a = mkS b := fun e => h (mkS_inj e)
      simp [h]
  | .lst a, y => by
    cases y <;> simp [pdOf, PyData.eqv, PD.eqv]
    exact eqv_pds a _
  | .tup a, y => by
    cases y <;> simp [pdOf, PyData.eqv, PD.eqv]
    exact eqv_pds a _
theorem eqv_pds : ∀ (x y : List PD), PyData.eqvAll (pdOfs x) (pdOfs y) = eqvL x y
  | [], y => by cases y <;> rfl
  | a :: x, y => by
    cases y with
    | nil => rfl
    | cons b y =>
      show (PyData.eqv (pdOf a) (pdOf b) && PyData.eqvAll (pdOfs x) (pdOfs y)) = (PD.eqv a b && eqvL x y)
      rw [eqv_pd a b, eqv_pds x y]
end
/-- data read off the heap -/
theorem toPD_dp {C : RC} {as : List Addr} {G : Hv} {H : Hp} (rg : RelG C as G H) : ∀ (n : Nat), (∀ (x : VV) (v : V) (d : PD), RV C as H x v → toPD G n x = some d → Dp C.K H v (pdOf d) ∧ (pdOf d).canLay0 = true ∧ (pdOf d).depth ≤ n) ∧
    (∀ (xs : List VV) (vs : List V) (ds : List PD), RVs C as H xs vs → mapO (toPD G n) xs = some ds → DpAll C.K H vs (pdOfs ds) ∧ PyData.canLayAll0 (pdOfs ds) = true ∧ PyData.depthAll (pdOfs ds) ≤ n)
  | 0 => by
    have h1 : ∀ (x : VV) (v : V) (d : PD), RV C as H x v → toPD G 0 x = some d → Dp C.K H v (pdOf d) ∧ (pdOf d).canLay0 = true ∧ (pdOf d).depth ≤ 0 := fun x v d _ e => by cases e
    refine ⟨h1, fun xs vs ds r e => ?_⟩
    cases xs with
    | nil =>
      cases e
      rw [RVs] at r; subst r
      exact ⟨.nil, rfl, Nat.le_refl _⟩
    | cons x xs => simp [mapO, toPD] at e
  | n + 1 => by
    have ih := (toPD_dp rg n).2
    have one : ∀ (x : VV) (v : V) (d : PD), RV C as H x v → toPD G (n + 1) x = some d → Dp C.K H v (pdOf d) ∧ (pdOf d).canLay0 = true ∧ (pdOf d).depth ≤ n + 1 := fun x v d r e => by
      unfold toPD at e
      cases x with
      | non => cases e; rw [r.non]; exact ⟨.non, rfl, Nat.zero_le _⟩
      | bl b => cases e; rw [r.bl]; exact ⟨.bl b, rfl, Nat.zero_le _⟩
      | int b => cases e; rw [r.int]; exact ⟨.int b, rfl, Nat.zero_le _⟩
      | str b =>
        cases e
        have ok := r.sok
        rw [r.str]
        refine ⟨.str _, ?_, Nat.zero_le _⟩
        show PyData.strOk (mkS b) = true
        unfold PyData.strOk
        show (b.toArray.all fun c => decide (c < 0x110000)) = true
        rw [List.all_toArray]
        exact ok
      | tup xs =>
        simp only at e
        cases q : mapO (toPD G n) xs with
        | none => rw [q] at e; cases e
        | some ds =>
          rw [q] at e
          cases e
          obtain ⟨a, ys, rfl, t, r2⟩ := r.tup
          obtain ⟨h1, h2, h3⟩ := ih xs ys ds r2 q
          exact ⟨.tup t.sq h1, h2, Nat.succ_le_succ h3⟩
      | ref i =>
        simp only at e
        cases q : G[i]? with
        | none => rw [q] at e; cases e
        | some o =>
          rw [q] at e
          cases o with
          | lst xs =>
            simp only at e
            cases q2 : mapO (toPD G n) xs with
            | none => rw [q2] at e; cases e
            | some ds =>
              rw [q2] at e
              cases e
              obtain ⟨a, ys, _, rfl, t, r2⟩ := RV.lst rg r q
              obtain ⟨h1, h2, h3⟩ := ih xs ys ds r2 q2
              exact ⟨.lst (SqL.of t) h1, h2, Nat.succ_le_succ h3⟩
          | _ => cases e
      | _ => cases e
    refine ⟨one, fun xs => ?_⟩
    induction xs with
    | nil =>
      intro vs ds r e
      cases e
      rw [RVs] at r; subst r
      exact ⟨.nil, rfl, Nat.zero_le _⟩
    | cons x xs ihx =>
      intro vs ds r e
      rw [RVs] at r
      obtain ⟨y, zs, rfl, r1, r2⟩ := r
      unfold mapO at e
      cases q : toPD G (n + 1) x with
      | none => rw [q] at e; cases e
      | some d =>
        rw [q] at e
        cases q2 : mapO (toPD G (n + 1)) xs with
        | none => rw [q2] at e; cases e
        | some ds' =>
          rw [q2] at e
          cases e
          obtain ⟨h1, h2, h3⟩ := one x y d r1 q
          obtain ⟨k1, k2, k3⟩ := ihx zs ds' r2 q2
          refine ⟨.cons h1 k1, ?_, ?_⟩
          · show ((pdOf d).canLay0 && PyData.canLayAll0 (pdOfs ds')) = true
            rw [h2, k2]; rfl
          · show max (pdOf d).depth (PyData.depthAll (pdOfs ds')) ≤ n + 1
            omega
theorem shaped_pd {d : PyData} (h1 : d.canLay0 = true) (h2 : d.depth ≤ DEPTH) : SeqAt.shaped d = true := by
  unfold SeqAt.shaped
  rw [h1]
  have : d.depth ≤ 64 := Nat.le_trans h2 (by decide)
  simp [this]
theorem so_cEq (hu : X.A.units + 64 < cLine) : OpR X (compareOp .Eq) (rC (rc X ep) cEq) := by
  intro pins s σ H x' y' v u Q I rx ry ⟨as, G, x, y, b, rg, hx, hy, h, q⟩
  unfold cEq oEq at h
  split at h
  · rename_i d e hd he
    cases h
    obtain ⟨k1, k2, k3⟩ := (toPD_dp rg DEPTH).1 x x' d hx hd
    obtain ⟨l1, l2, l3⟩ := (toPD_dp rg DEPTH).1 y y' e hy he
    exact op_eqD hu pins s σ H _ _ v u Q I rx ry ⟨_, _, k1, l1, shaped_pd k2 k3, shaped_pd l2 l3, by rw [eqv_pd]; exact q⟩
  · cases h
theorem so_cNe (hu : X.A.units + 64 < cLine) : OpR X (compareOp .NotEq) (rC (rc X ep) cNe) := by
  intro pins s σ H x' y' v u Q I rx ry ⟨as, G, x, y, b, rg, hx, hy, h, q⟩
  unfold cNe oEq at h
  split at h
  · rename_i d e hd he
    cases h
    obtain ⟨k1, k2, k3⟩ := (toPD_dp rg DEPTH).1 x x' d hx hd
    obtain ⟨l1, l2, l3⟩ := (toPD_dp rg DEPTH).1 y y' e hy he
    exact op_neD hu pins s σ H _ _ v u Q I rx ry ⟨_, _, k1, l1, shaped_pd k2 k3, shaped_pd l2 l3, by rw [eqv_pd]; exact q⟩
  · cases h
end
end DL
end S_Rules2
section S_Rules3
set_option Elab.async false
set_option linter.all false
set_option maxRecDepth 100000
set_option maxHeartbeats 2000000
/-! Rules3: in, chains, tests, displays, subscripts, slices. -/
namespace DL
open PySem PySem.Spec PyProof.Rows L2
section
variable {X : Cx} {ep : List (Addr × Obj)} {W : WX} {a b c : Expr} {da db dc : DE} {pos : Pos}
theorem Dp_seq {C : RC} {as : List Addr} {G : Hv} {H : Hp} (rg : RelG C as G H) {y : VV} {v : V} {xs : List VV} {ds : List PD} (h : RV C as H y v) (e : asSeq G y = some xs) (e2 : mapO (toPD G DEPTH) xs = some ds) :
    (Dp C.K H v (.list (pdOfs ds)) ∨ Dp C.K H v (.tuple (pdOfs ds))) ∧ PyData.canLayAll0 (pdOfs ds) = true ∧ PyData.depthAll (pdOfs ds) ≤ DEPTH := by
  obtain ⟨a, ys, rfl, h1, r⟩ := RV.seq rg h e
  obtain ⟨k1, k2, k3⟩ := (toPD_dp rg DEPTH).2 xs ys ds r e2
  refine ⟨?_, k2, k3⟩
  rcases h1 with h1 | h1
  · exact .inl (.lst h1 k1)
  · exact .inr (.tup h1 k1)
theorem any_pds (d : PD) : ∀ ds : List PD, ((pdOfs ds).any fun z => PyData.eqv z (pdOf d)) = ds.any fun z => PD.eqv z d
  | [] => rfl
  | x :: r => by
    show (PyData.eqv (pdOf x) (pdOf d) || (pdOfs r).any fun z => PyData.eqv z (pdOf d)) = (PD.eqv x d || r.any fun z => PD.eqv z d)
    rw [eqv_pd, any_pds d r]
theorem room_in {A : Around} {ds : List PyData} {d : PyData} (h : PyData.depthAll ds ≤ DEPTH) (hu : A.units + 64 < cLine) : A.units + 1 + min (PyData.depthAll ds) d.depth < cLine := by
  have h2 : min (PyData.depthAll ds) d.depth ≤ PyData.depthAll ds := Nat.min_le_left _ _
  have h3 : DEPTH = 12 := rfl
  omega
theorem so_cIn (hu : X.A.units + 64 < cLine) : OpR X (compareOp .In) (rC (rc X ep) cIn) := by
  intro pins s σ H x' y' v u Q I rx ry ⟨as, G, x, y, b, rg, hx, hy, h, q⟩
  unfold cIn oIn at h
  split at h
  · cases h
    exact op_in_sign pins s σ H _ _ v u Q I rx ry ⟨_, _, hx.str, hy.str, by simpa using q⟩
  · split at h
    · rename_i xs e1
      split at h
      · rename_i d ds e2 e3
        cases h
        obtain ⟨k1, k2, k3⟩ := (toPD_dp rg DEPTH).1 x x' d hx e2
        obtain ⟨l1, l2, l3⟩ := Dp_seq rg hy e1 e3
        obtain ⟨bs, r1⟩ := Dp.reads I (pdOf d) x' v k1 rx
        rw [← any_pds] at q
        rcases l1 with l1 | l1
        · obtain ⟨cs, r2⟩ := Dp.reads I _ y' u l1 ry
          exact SeqAt.in_list_reads r2 r1 l2 k2 (room_in l3 hu) ⟨.bl _, H, I, rfl, q⟩
        · obtain ⟨cs, r2⟩ := Dp.reads I _ y' u l1 ry
          exact SeqAt.in_tuple_reads r2 r1 l2 k2 (room_in l3 hu) ⟨.bl _, H, I, rfl, q⟩
      · cases h
    · cases h
theorem so_cNin (hu : X.A.units + 64 < cLine) : OpR X (compareOp .NotIn) (rC (rc X ep) cNin) := by
  intro pins s σ H x' y' v u Q I rx ry ⟨as, G, x, y, b, rg, hx, hy, h, q⟩
  unfold cNin oIn at h
  split at h
  · cases h
    exact op_notIn_sign pins s σ H _ _ v u Q I rx ry ⟨_, _, hx.str, hy.str, by simpa using q⟩
  · split at h
    · rename_i xs e1
      split at h
      · rename_i d ds e2 e3
        cases h
        obtain ⟨k1, k2, k3⟩ := (toPD_dp rg DEPTH).1 x x' d hx e2
        obtain ⟨l1, l2, l3⟩ := Dp_seq rg hy e1 e3
        obtain ⟨bs, r1⟩ := Dp.reads I (pdOf d) x' v k1 rx
        rw [← any_pds] at q
        rcases l1 with l1 | l1
        · obtain ⟨cs, r2⟩ := Dp.reads I _ y' u l1 ry
          exact SeqAt.notIn_list_reads r2 r1 l2 k2 (room_in l3 hu) ⟨.bl _, H, I, rfl, q⟩
        · obtain ⟨cs, r2⟩ := Dp.reads I _ y' u l1 ry
          exact SeqAt.notIn_tuple_reads r2 r1 l2 k2 (room_in l3 hu) ⟨.bl _, H, I, rfl, q⟩
      · cases h
    · cases h
theorem isN_iff {C : RC} {as : List Addr} {H : Hp} {x : VV} {v : V} (h : RV C as H x v) : decide (v = .non) = isN x := by
  cases x with
  | non => rw [h.non]; rfl
  | bl _ => rw [h.bl]; rfl
  | int _ => rw [h.int]; rfl
  | str _ => rw [h.str]; rfl
  | ref _ => obtain ⟨a, _, rfl⟩ := h.ref; rfl
  | tup _ => obtain ⟨a, _, rfl, _⟩ := h.tup; rfl
  | exc _ _ => rw [RV] at h; exact h.elim
  | clo _ _ => rw [RV] at h; exact h.elim
  | cls _ => rw [RV] at h; obtain ⟨a, _, rfl⟩ := h; rfl
theorem se_isN {j pos'} (ha : SndE X ep W a da) : SndE X ep W (.Compare a [.Is] [.Constant .none j pos'] pos) (dIsN da) :=
  (pe_cmp (pc_isN ha)).imp fun σ H Q ⟨as, G, S, rg, rs, h⟩ =>
    tD.bind rg rs h fun x G1 as1 H1 x' e1 rg1 rs1 rx h1 => by
      rw [isN_iff rx]
      exact h1 _ _ _ .refl rg1 .mkBl
theorem se_notN {j pos'} (ha : SndE X ep W a da) : SndE X ep W (.Compare a [.IsNot] [.Constant .none j pos'] pos) (dNotN da) :=
  (pe_cmp (pc_notN ha)).imp fun σ H Q ⟨as, G, S, rg, rs, h⟩ =>
    tD.bind rg rs h fun x G1 as1 H1 x' e1 rg1 rs1 rx h1 => by
      rw [isN_iff rx]
      exact h1 _ _ _ .refl rg1 .mkBl
/-! tests -/
theorem asB_rv {C : RC} {as : List Addr} {H : Hp} {x : VV} {v : V} {b : Bool} (h : RV C as H x v) (e : asB x = some b) : v = .bl b := by
  cases x <;> cases e
  exact h.bl
theorem tV_bind {da : DE} {σ : St} {H : Hp} {Q : Bool → Hp → Prop} {as : List Addr} {G : Hv} {S : Env} {C : RC} (rg : RelG C as G H) (rs : RS C as H S σ) (h : tR C W rEq' (tV da S G) as H σ Q) : tD C W (RV C) da σ H fun x H1 => ∃ c, x = .bl c ∧ Q c H1 :=
  tD.bind rg rs h fun x G1 as1 H1 x' e1 rg1 rs1 rx h1 => by
    cases e : asB x with
    | none => rw [e] at h1; exact h1.elim
    | some b =>
      rw [e] at h1
      exact ⟨b, asB_rv rx e, h1 _ _ b .refl rg1 rfl⟩
theorem st_val {e : Expr} {d : DE} (h : SndE X ep W e d) (he : ∀ whole, isTrue e X.env whole = (do let v ← whole; standAt e.pos; holding [v] (truthy v)) := by intro _; rfl) : SndT X ep W e (tV d) :=
  (pt_val h he).imp fun σ H Q ⟨as, G, S, rg, rs, h⟩ => tV_bind rg rs h
theorem st_cmp {op : CmpOp} {f : Hv → VV → VV → Option Bool} (ho : OpR X (compareOp op) (rC (rc X ep) f)) (ha : SndE X ep W a da) (hb : SndE X ep W b db) (hm : behindInMarks op b = false := by first | rfl | exact nobehind _ (by decide) (by decide)) :
    SndT X ep W (.Compare a [op] [b] pos) (tV (dCmp f da db)) :=
  (pt_cmpR ho ha hb hm).imp fun σ H Q ⟨as, G, S, rg, rs, h⟩ => by
    obtain ⟨as', G', S', rg', rs', h'⟩ := tV_bind rg rs h
    refine tD.bind rg' rs' h' fun x G1 as1 H1 x' e1 rg1 rs1 rx h1 => tD.bind rg1 rs1 h1 fun y G2 as2 H2 y' e2 rg2 rs2 ry h2 => ?_
    obtain ⟨b, e, q⟩ := tR_ofB rg2 h2
    exact ⟨as2, G2, x, y, b, rg2, rx.mono e2, ry, e, q⟩
theorem st_isN {j pos'} (ha : SndE X ep W a da) : SndT X ep W (.Compare a [.Is] [.Constant .none j pos'] pos) (tV (dIsN da)) :=
  (pt_cmp (pc_isN ha)).imp fun σ H Q ⟨as, G, S, rg, rs, h⟩ => by
    obtain ⟨as', G', S', rg', rs', h'⟩ := tV_bind rg rs h
    refine tD.bind rg' rs' h' fun x G1 as1 H1 x' e1 rg1 rs1 rx h1 => ?_
    rw [isN_iff rx]
    exact h1 _ _ _ .refl rg1 .mkBl
theorem st_notN {j pos'} (ha : SndE X ep W a da) : SndT X ep W (.Compare a [.IsNot] [.Constant .none j pos'] pos) (tV (dNotN da)) :=
  (pt_cmp (pc_notN ha)).imp fun σ H Q ⟨as, G, S, rg, rs, h⟩ => by
    obtain ⟨as', G', S', rg', rs', h'⟩ := tV_bind rg rs h
    refine tD.bind rg' rs' h' fun x G1 as1 H1 x' e1 rg1 rs1 rx h1 => ?_
    rw [isN_iff rx]
    exact h1 _ _ _ .refl rg1 .mkBl
/-! a < b < c -/
theorem chain_go {σ : St} {H : Hp} {Q : VK} {as : List Addr} {G : Hv} {S : Env} {C : RC} {f g : Hv → VV → VV → Option Bool} (rg : RelG C as G H) (rs : RS C as H S σ) (h : tR C W (RV C) (dChain f g da db dc S G) as H σ Q) :
    tChain (rC C f) (rC C g) (tDE C W da) (tDE C W db) (tDE C W dc) σ H Q :=
  tD.bind rg rs h fun x G1 as1 H1 x' e1 rg1 rs1 rx h1 => tD.bind rg1 rs1 h1 fun y G2 as2 H2 y' e2 rg2 rs2 ry h2 => by
    cases e : f G2 x y with
    | none => rw [e] at h2; exact h2.elim
    | some b =>
      rw [e] at h2
      refine ⟨as2, G2, x, y, b, rg2, rx.mono e2, ry, e, b, rfl, ?_⟩
      cases b with
      | true =>
        rw [if_pos rfl]
        refine tD.bind rg2 rs2 h2 fun z G3 as3 H3 z' e3 rg3 rs3 rz h3 => ?_
        obtain ⟨b2, e4, q⟩ := tR_ofB rg3 h3
        exact ⟨as3, G3, y, z, b2, rg3, ry.mono e3, rz, e4, q⟩
      | false =>
        rw [if_neg Bool.false_ne_true]
        exact h2 _ _ _ .refl rg2 .mkBl
theorem se_chain {op op' : CmpOp} {f g : Hv → VV → VV → Option Bool} (ho : OpR X (compareOp op) (rC (rc X ep) f)) (ho' : OpR X (compareOp op') (rC (rc X ep) g)) (ha : SndE X ep W a da) (hb : SndE X ep W b db) (hc : SndE X ep W c dc) (hm : lastMarks [op, op'] [b, c] = false := by with_unfolding_all rfl) :
    SndE X ep W (.Compare a [op, op'] [b, c] pos) (dChain f g da db dc) :=
  (pe_chain ho ho' ha hb hc hm).imp fun σ H Q ⟨as, G, S, rg, rs, h⟩ => chain_go rg rs h
theorem st_chain {op op' : CmpOp} {f g : Hv → VV → VV → Option Bool} (ho : OpR X (compareOp op) (rC (rc X ep) f)) (ho' : OpR X (compareOp op') (rC (rc X ep) g)) (ha : SndE X ep W a da) (hb : SndE X ep W b db) (hc : SndE X ep W c dc) (hm : lastMarks [op, op'] [b, c] = false := by with_unfolding_all rfl) :
    SndT X ep W (.Compare a [op, op'] [b, c] pos) (tV (dChain f g da db dc)) :=
  (pt_chain ho ho' ha hb hc hm).imp fun σ H Q ⟨as, G, S, rg, rs, h⟩ => by
    obtain ⟨as', G', S', rg', rs', h'⟩ := tV_bind rg rs h
    exact chain_go rg' rs' h'
/-! and, or, not in tests -/
variable {ta tb : DT} {rest : List Expr}
theorem st_and1 (ha : SndT X ep W a ta) : SndW X ep W (.BoolOp .And [a] pos) ta := pw_and1 ha
theorem st_or1 (ha : SndT X ep W a ta) : SndW X ep W (.BoolOp .Or [a] pos) ta := pw_or1 ha
theorem st_and (ha : SndT X ep W a ta) (hb : SndW X ep W (.BoolOp .And (b :: rest) pos) tb) : SndW X ep W (.BoolOp .And (a :: b :: rest) pos) (DL.tAnd ta tb) :=
  (pw_and ha hb).imp fun σ H Q ⟨as, G, S, rg, rs, h⟩ => tD.bind rg rs h fun x G1 as1 H1 x' e1 rg1 rs1 rx h1 => by
    cases (show x = x' from rx)
    cases x with
    | true => exact ⟨as1, G1, S, rg1, rs1, h1⟩
    | false => exact h1 _ _ _ .refl rg1 rfl
theorem st_or (ha : SndT X ep W a ta) (hb : SndW X ep W (.BoolOp .Or (b :: rest) pos) tb) : SndW X ep W (.BoolOp .Or (a :: b :: rest) pos) (DL.tOr ta tb) :=
  (pw_or ha hb).imp fun σ H Q ⟨as, G, S, rg, rs, h⟩ => tD.bind rg rs h fun x G1 as1 H1 x' e1 rg1 rs1 rx h1 => by
    cases (show x = x' from rx)
    cases x with
    | false => exact ⟨as1, G1, S, rg1, rs1, h1⟩
    | true => exact h1 _ _ _ .refl rg1 rfl
theorem st_pt {e : Expr} {d : DT} (h : SndW X ep W e d) : SndT X ep W e d := PW.pt h
theorem st_not (ha : SndT X ep W a ta) : SndT X ep W (.UnaryOp .Not a pos) (DL.tNot ta) :=
  (pt_not ha).imp fun σ H Q ⟨as, G, S, rg, rs, h⟩ => tD.bind rg rs h fun x G1 as1 H1 x' e1 rg1 rs1 rx h1 => by
    cases (show x = x' from rx)
    exact h1 _ _ _ .refl rg1 rfl
/-! and, or, not as values -/
theorem se_one {op} {d : DE} (h : SndE X ep W a d) : SndE X ep W (.BoolOp op [a] pos) d := pe_one h
theorem se_and (ha : SndE X ep W a da) (hb : SndE X ep W (.BoolOp .And (b :: rest) pos) db) : SndE X ep W (.BoolOp .And (a :: b :: rest) pos) (dAnd da db) :=
  (pe_and ha hb).imp fun σ H Q ⟨as, G, S, rg, rs, h⟩ => tD.bind rg rs h fun x G1 as1 H1 x' e1 rg1 rs1 rx h1 => by
    cases x with
    | bl k =>
      refine ⟨k, rx.bl, ?_⟩
      cases k with
      | true => exact ⟨as1, G1, S, rg1, rs1, h1⟩
      | false => exact h1 _ _ _ .refl rg1 .mkBl
    | _ => exact h1.elim
theorem se_or (ha : SndE X ep W a da) (hb : SndE X ep W (.BoolOp .Or (b :: rest) pos) db) : SndE X ep W (.BoolOp .Or (a :: b :: rest) pos) (dOr da db) :=
  (pe_or ha hb).imp fun σ H Q ⟨as, G, S, rg, rs, h⟩ => tD.bind rg rs h fun x G1 as1 H1 x' e1 rg1 rs1 rx h1 => by
    cases x with
    | bl k =>
      refine ⟨k, rx.bl, ?_⟩
      cases k with
      | false => exact ⟨as1, G1, S, rg1, rs1, h1⟩
      | true => exact h1 _ _ _ .refl rg1 .mkBl
    | _ => exact h1.elim
theorem se_not (ha : SndE X ep W a da) : SndE X ep W (.UnaryOp .Not a pos) (dNot da) :=
  (pe_not ha).imp fun σ H Q ⟨as, G, S, rg, rs, h⟩ => tD.bind rg rs h fun x G1 as1 H1 x' e1 rg1 rs1 rx h1 => by
    cases x with
    | bl k => exact ⟨k, rx.bl, h1 _ _ _ .refl rg1 .mkBl⟩
    | _ => exact h1.elim
theorem se_if (hc : SndT X ep W c ta) (ha : SndE X ep W a da) (hb : SndE X ep W b db) : SndE X ep W (.IfExp c a b pos) (dIf ta da db) :=
  (pe_ifExp hc ha hb).imp fun σ H Q ⟨as, G, S, rg, rs, h⟩ => tD.bind rg rs h fun x G1 as1 H1 x' e1 rg1 rs1 rx h1 => by
    cases (show x = x' from rx)
    cases x with
    | true => exact ⟨as1, G1, S, rg1, rs1, h1⟩
    | false => exact ⟨as1, G1, S, rg1, rs1, h1⟩
theorem se_neg (ha : SndE X ep W a da) : SndE X ep W (.UnaryOp .USub a pos) (dUn oNeg da) :=
  (pe_un un_neg ha).imp fun σ H Q ⟨as, G, S, rg, rs, h⟩ => tD.bind rg rs h fun x G1 as1 H1 x' e1 rg1 rs1 rx h1 => by
    cases x with
    | int i => exact ⟨i, rx.int, h1 _ _ _ .refl rg1 .mkInt⟩
    | _ => exact h1.elim
/-! ### arguments, displays -/
variable {dr : DA} {es : List Expr}
theorem sa_nil : SndA X ep W [] aNil := pa_nil.imp fun σ H Q ⟨as, G, S, rg, rs, h⟩ => h _ _ _ .refl rg .nil
theorem sa_cons {e : Expr} {d : DE} (ha : SndE X ep W e d) (hr : SndA X ep W es dr) (hs : starEach (e :: es) X.env = (false, eval e X.env) :: starEach es X.env := by rfl) : SndA X ep W (e :: es) (aCons d dr) :=
  (pa_cons ha hr hs).imp fun σ H Q ⟨as, G, S, rg, rs, h⟩ => tD.bind rg rs h fun x G1 as1 H1 x' e1 rg1 rs1 rx h1 => tD.bind rg1 rs1 h1 fun xs G2 as2 H2 xs' e2 rg2 rs2 rxs h2 =>
    h2 _ _ _ .refl rg2 (.cons (rx.mono e2) rxs)
theorem se_tup {x1} (h : SndA X ep W es dr) : SndE X ep W (.Tuple es x1 pos) (dTup dr) :=
  (pe_tup h).imp fun σ H Q ⟨as, G, S, rg, rs, h⟩ => tD.bind rg rs h fun xs G1 as1 H1 xs' e1 rg1 rs1 rx h1 => by
    split at h1
    · rename_i hl
      refine ⟨by rw [← rx.length, ← lim]; exact hl, fun p hp => ?_⟩
      have e : Ext as1 H1 as1 (upd H1 p (.tup xs')) := Ext.side hp
      exact h1 _ _ _ e (rg1.side hp) (.mkTup (.inl upd_same) (rx.mono e))
    · exact h1.elim
theorem se_lst (h : SndA X ep W es dr) : SndE X ep W (.List es pos) (dLst dr) :=
  (pe_lst h).imp fun σ H Q ⟨as, G, S, rg, rs, h⟩ => tD.bind rg rs h fun xs G1 as1 H1 xs' e1 rg1 rs1 rx h1 => by
    split at h1
    · rename_i hl
      exact ⟨by rw [← rx.length, ← lim]; exact hl, fun p hp => h1 _ _ _ (Ext.new hp) (rg1.new hp ⟨_, rfl, rx⟩) (.mkRef rg1.newAt)⟩
    · exact h1.elim
theorem se_dic0 : SndE X ep W (.Dict [] [] pos) dDic0 :=
  pe_dnewK.imp fun σ H Q ⟨as, G, S, rg, rs, h⟩ d hd => h _ _ _ (Ext.new hd) (rg.new hd ⟨_, rfl, rfl⟩) (.mkRef rg.newAt)
/-! ### subscripts, slices -/
theorem ixN_eq (n : Nat) (i : Int) : DL.ixN n i = L2.ixN n i := rfl
theorem atI_eq {α : Type} (xs : List α) (i : Int) : DL.atI xs i = L2.atI xs i := by
  unfold DL.atI L2.atI
  rw [ixN_eq]
  cases L2.ixN xs.length i <;> rfl
theorem RVs.atI {C : RC} {as : List Addr} {H : Hp} {xs : List VV} {ys : List V} {i : Int} {x : VV} (r : RVs C as H xs ys) (e : DL.atI xs i = some x) : ∃ v, L2.atI ys i = some v ∧ RV C as H x v := by
  rw [atI_eq] at e
  unfold L2.atI at e ⊢
  rw [← r.length]
  cases q : L2.ixN xs.length i with
  | none => rw [q] at e; cases e
  | some j =>
    rw [q] at e
    exact r.get e
theorem so_ix : IxR X (fun x' y' H Q => ∃ as G x y z, RelG (rc X ep) as G H ∧ RV (rc X ep) as H x x' ∧ RV (rc X ep) as H y y' ∧ oIx G x y = some z ∧ ∀ z', RV (rc X ep) as H z z' → Q z' H) := by
  intro value slice pins s σ H x' y' v u Q I rx ry ⟨as, G, x, y, z, rg, hx, hy, h, q⟩ hs
  unfold oIx at h
  cases y with
  | int i =>
    have hi := hy.int
    subst hi
    have seq : ∀ (hq : (match asSeq G x with | some xs => DL.atI xs i | none => none) = some z), wpAny (model X.prog X.w) X.A (subscriptTail value slice v u) (EP X pins σ Q) X.xe s := fun hq => by
      cases e1 : asSeq G x with
      | none => rw [e1] at hq; cases hq
      | some xs =>
        rw [e1] at hq
        obtain ⟨a, ys, rfl, h1, r⟩ := RV.seq rg hx e1
        obtain ⟨z', e2, rz⟩ := r.atI hq
        rcases h1 with h1 | h1
        · exact ix_list value slice pins s σ H _ _ v u Q I rx ry ⟨a, ys, i, z', rfl, rfl, h1, e2, q _ rz⟩ hs
        · exact ix_tup value slice pins s σ H _ _ v u Q I rx ry ⟨a, ys, i, z', rfl, rfl, h1, e2, q _ rz⟩ hs
    cases x with
    | str t =>
      simp only at h
      split at h
      · rename_i hl
        cases e : DL.atI t i with
        | none => rw [e] at h; cases h
        | some c =>
          rw [e] at h
          cases h
          have hk := hx.sok
          have ec : L2.atI t i = some c := by rw [← atI_eq]; exact e
          have oc : sOk [c] = true := by
            unfold sOk at hk ⊢
            rw [List.all_eq_true] at hk
            have hm : c ∈ t := by
              unfold L2.atI at ec
              cases q2 : L2.ixN t.length i with
              | none => rw [q2] at ec; cases ec
              | some j => rw [q2] at ec; exact List.mem_of_getElem? ec
            simpa using hk c hm
          have hv := hx.str
          subst hv
          refine ix_str value slice pins s σ H _ _ v u Q I rx ry ⟨_, _, c, rfl, rfl, by rw [mkS_len, ← lim]; exact hl, ?_, q _ (.mkStr oc)⟩ hs
          simpa [mkS] using ec
      · cases h
    | _ => exact seq h
  | _ => cases h
theorem se_ix (ha : SndE X ep W a da) (hb : SndE X ep W b db) (hs : PlainIx b := by exact fun _ _ => rfl) : SndE X ep W (.Subscript a b pos) (dIx da db) :=
  (pe_ix so_ix ha hb hs).imp fun σ H Q ⟨as, G, S, rg, rs, h⟩ => tD.bind rg rs h fun x G1 as1 H1 x' e1 rg1 rs1 rx h1 => tD.bind rg1 rs1 h1 fun y G2 as2 H2 y' e2 rg2 rs2 ry h2 => by
    cases e : oIx G2 x y with
    | none => rw [e] at h2; exact h2.elim
    | some z =>
      rw [e] at h2
      exact ⟨as2, G2, x, y, z, rg2, rx.mono e2, ry, e, fun z' rz => h2 _ _ _ .refl rg2 rz⟩
theorem sIx_eq (n d : Nat) (o : Option Int) : DL.sIx n d o = HT.sIx n d o := by cases o <;> rfl
theorem RVs.cut {C : RC} {as : List Addr} {H : Hp} {xs : List VV} {ys : List V} (r : RVs C as H xs ys) (lo hi : Option Int) : RVs C as H (DL.cut xs lo hi) (cutV ys lo hi) := by
  unfold DL.cut cutV
  rw [sIx_eq, sIx_eq, r.length]
  exact (r.drop _).take _
theorem cut_whole {α : Type} {xs : List α} {lo hi : Option Int} (h : HT.sIx xs.length 0 lo = 0 ∧ HT.sIx xs.length xs.length hi = xs.length) : DL.cut xs lo hi = xs := by
  unfold DL.cut
  rw [sIx_eq, sIx_eq, h.1, h.2]
  simp
theorem so_slice : SlR X (fun x' lo hi H Q => ∃ as G x, RelG (rc X ep) as G H ∧ RV (rc X ep) as H x x' ∧ oR (rc X ep) (oSlice x lo hi G) as H Q) := by
  intro pins s σ H x' v vl vu lo hi sl Q I rx hsl pl pu ⟨as, G, x, rg, hx, h⟩
  unfold oSlice at h
  have lst : ∀ (hq : oR (rc X ep) (match asListR G x with | some xs => some (newL G (DL.cut xs lo hi)) | none => none) as H Q),
      ∃ T id, typeLookup (.type T) "__getitem__" = pure (some (.builtin id)) ∧ s.TypeIs v T ∧ wpAny (model X.prog X.w) X.A (getItem v (.ref sl)) (EP X pins σ Q) X.xe s := fun hq => by
    cases e1 : asListR G x with
    | none => rw [e1] at hq; exact hq.elim
    | some xs =>
      rw [e1] at hq
      obtain ⟨a, ys, rfl, h1, r⟩ := RV.lstR (K := X.K) rg hx e1
      exact sl_list pins s σ H _ v vl vu lo hi sl Q I rx hsl pl pu ⟨a, ys, rfl, h1, fun p hp => hq _ _ _ (Ext.new hp) (rg.new hp ⟨_, rfl, r.cut lo hi⟩) (.mkRef rg.newAt)⟩
  cases x with
  | str t =>
    simp only at h
    split at h
    · rename_i hl
      have ok : sOk (DL.cut t lo hi) = true := by
        have hk := hx.sok
        unfold sOk DL.cut at *
        rw [List.all_eq_true] at *
        exact fun c hc => hk c (List.mem_of_mem_drop (List.mem_of_mem_take hc))
      have hv := hx.str
      subst hv
      refine sl_str pins s σ H _ v vl vu lo hi sl Q I rx hsl pl pu ⟨_, rfl, by rw [mkS_len, ← lim]; exact hl, ?_⟩
      have := h _ _ _ .refl rg (.mkStr ok)
      unfold cutS
      rw [mkS_len]
      unfold DL.cut mkS at this
      rw [sIx_eq, sIx_eq] at this
      simpa [mkS] using this
    · exact h.elim
  | tup xs =>
    obtain ⟨a, ys, rfl, t, r⟩ := hx.tup
    refine sl_tupA pins s σ H _ v vl vu lo hi sl Q I rx hsl pl pu ⟨a, ys, rfl, t.sq, fun hw => ?_, fun _ p hp => ?_⟩
    · have h' : oR (rc X ep) (some (.tup (DL.cut xs lo hi), G)) as H Q := h
      rw [← r.length] at hw
      rw [cut_whole hw] at h'
      exact h' _ _ _ .refl rg (.mkTup t r)
    · have e : Ext as H as (upd H p (.tup (cutV ys lo hi))) := Ext.side hp
      exact h _ _ _ e (rg.side hp) (.mkTup (.inl upd_same) ((r.cut lo hi).mono e))
  | _ => exact lst h
abbrev SndO (X : Cx) (ep : List (Addr × Obj)) (W : WX) (e : Option Expr) (d : DO) : Prop := L2.PO X e (tD (rc X ep) W rEq' d)
theorem so_none : SndO X ep W none oNone := ⟨fun pins s σ H Q I ⟨as, G, S, rg, rs, h⟩ => po_none.run pins s σ H Q I (h _ _ _ .refl rg rfl)⟩
theorem so_some (ha : SndE X ep W a da) : SndO X ep W (some a) (oSome da) := ⟨fun pins s σ H Q I ⟨as, G, S, rg, rs, h⟩ => (po_some ha).run pins s σ H Q I (tD.bind rg rs h fun x G1 as1 H1 x' e1 rg1 rs1 rx h1 => by
    cases x with
    | int i => exact ⟨i, rx.int, h1 _ _ _ .refl rg1 rfl⟩
    | _ => exact h1.elim)⟩
theorem se_slice {lo hi : Option Expr} {dl dh : DO} {p2 : Pos} (ha : SndE X ep W a da) (hl : SndO X ep W lo dl) (hh : SndO X ep W hi dh) : SndE X ep W (.Subscript a (.Slice lo hi none p2) pos) (dSl da dl dh) :=
  (pe_slice so_slice ha hl hh).imp fun σ H Q ⟨as, G, S, rg, rs, h⟩ => tD.bind rg rs h fun x G1 as1 H1 x' e1 rg1 rs1 rx h1 => tD.bind rg1 rs1 h1 fun l G2 as2 H2 l' e2 rg2 rs2 rl h2 => by
    cases (show l = l' from rl)
    refine tD.bind rg2 rs2 h2 fun u G3 as3 H3 u' e3 rg3 rs3 ru h3 => ?_
    cases (show u = u' from ru)
    exact ⟨as3, G3, x, rg3, rx.mono (e2.trans e3), tR_ofO h3⟩
end
end DL
end S_Rules3
section S_Rules4
set_option Elab.async false
set_option linter.all false
set_option maxRecDepth 100000
set_option maxHeartbeats 2000000
/-! Rules4: fields, calls. -/
namespace DL
open PySem PySem.Spec PyProof.Rows L2
section
variable {C : RC} {as : List Addr} {H : Hp}
theorem RFs.look (f : Nat) : ∀ {fs : List (Nat × VV)} {ys : List (Str × V)}, RFs C as H fs ys → match look f fs with
    | some x => ∃ v, ys.lookup (nameOf f) = some v ∧ RV C as H x v
    | none => ys.lookup (nameOf f) = none
  | [], _, h => by cases h; rfl
  | (g, x) :: fs, _, h => by
    obtain ⟨y, zs, rfl, r, t⟩ := h
    unfold DL.look
    by_cases e : f = g
    · subst e
      rw [if_pos rfl]
      exact ⟨y, by simp [List.lookup], r⟩
    · rw [if_neg e]
      have ne : (nameOf f == nameOf g) = false := by
        rw [beq_eq_false_iff_ne]
        exact fun q => e (nameOf_inj q)
      have ih := RFs.look f t
      rw [List.lookup_cons, ne]
      exact ih
theorem RFs.length : ∀ {fs : List (Nat × VV)} {ys : List (Str × V)}, RFs C as H fs ys → fs.length = ys.length
  | [], _, h => by cases h; rfl
  | (g, x) :: fs, _, h => by
    obtain ⟨y, zs, rfl, r, t⟩ := h
    simp [RFs.length t]
theorem RFs.put (f : Nat) {x : VV} {v : V} (rx : RV C as H x v) : ∀ {fs : List (Nat × VV)} {ys : List (Str × V)}, RFs C as H fs ys → RFs C as H (DL.put f x fs) (putF (nameOf f) v ys)
  | [], _, h => by
    cases h
    exact ⟨v, [], rfl, rx, rfl⟩
  | (g, y) :: fs, _, h => by
    obtain ⟨y', zs, rfl, r, t⟩ := h
    unfold DL.put putF
    by_cases e : g = f
    · subst e
      rw [if_pos rfl, if_pos rfl]
      exact ⟨v, zs, rfl, rx, t⟩
    · rw [if_neg e, if_neg (fun q => e (nameOf_inj q))]
      exact ⟨y', _, rfl, r, RFs.put f rx t⟩
theorem RV.ins {G : Hv} {i : Nat} {c : Nat} {fs : List (Nat × VV)} {v : V} (rg : RelG C as G H) (h : RV C as H (.ref i) v) (e : G[i]? = some (.ins c fs)) : ∃ a Ca dx ys, as[i]? = some a ∧ v = .ref a ∧ C.mg (nameOf c) = some (.ref Ca) ∧ H a = some (.ins Ca dx ys) ∧ RFs C as H fs ys := by
  obtain ⟨a, ha, hv⟩ := h.ref
  obtain ⟨ho, h1, Ca, dx, ys, h2, h3, h4⟩ := rg.at e ha
  subst h3
  exact ⟨a, Ca, dx, ys, ha, hv, h2, h1, h4⟩
end
/-- a class of one's own: its place, what reading and writing ask -/
structure ClsOk (K : PySem.W.Frag) (mg : Str → Option Value) (c : Nat) (Ca : Addr) : Prop where
  mg : mg (nameOf c) = some (.ref Ca)
  cl : Cls K Ca
section
variable {X : Cx} {ep : List (Addr × Obj)} {W : WX} {a b : Expr} {da db : DE} {pos : Pos} {c f : Nat} {Ca : Addr}
theorem se_fld {x : Str} (T : ClsOk X.K X.mg c Ca) (n : NoAttr X.K Ca x) (hx : nameOf f = x) (ha : SndE X ep W a da) (hb : attributeBase a x X.env (eval a X.env) = eval a X.env := by rfl) : SndE X ep W (.Attribute a x pos) (dFld c f da) :=
  (pe_fld ha hb).imp fun σ H Q ⟨as, G, S, rg, rs, h⟩ => tD.bind rg rs h fun x G1 as1 H1 x' e1 rg1 rs1 rx h1 => by
    cases e : oFld c f G1 x with
    | none => rw [e] at h1; exact h1.elim
    | some z =>
      rw [e] at h1
      unfold oFld at e
      cases x with
      | ref i =>
        simp only at e
        cases q : G1[i]? with
        | none => rw [q] at e; cases e
        | some o =>
          rw [q] at e
          cases o with
          | ins d fs =>
            simp only at e
            split at e
            · rename_i hc
              subst hc
              obtain ⟨p, C2, dx, ys, _, hv, hm, hH, hf⟩ := RV.ins rg1 rx q
              have hC : C2 = Ca := by
                have h3 : X.mg (nameOf c) = some (.ref C2) := hm
                rw [T.mg] at h3
                cases h3; rfl
              subst hC
              have hl := hf.look f
              rw [e] at hl
              obtain ⟨v, h4, h5⟩ := hl
              rw [hx] at h4
              exact ⟨p, C2, dx, ys, v, hv, hH, T.cl, n, h4, h1 _ _ _ .refl rg1 h5⟩
            · cases e
          | _ => cases e
      | _ => cases e
/-! ### a def -/
/-- what is wanted of a def's end -/
def tF (C : RC) (r : R VV) (as : List Addr) (H : Hp) (Q : VK) (E : XK) : Prop := match r with
  | .ok v G => ∀ as' H' v', Ext as H as' H' → RelG C as' G H' → RV C as' H' v v' → Q v' H'
  | .exn x G => ∀ as' H' cls d, Ext as H as' H' → RelG C as' G H' → RX C as' H' x cls d → E cls d H'
  | .bad => False
def spD (K : PySem.W.Frag) (mg : Str → Option Value) (k : Nat) (fn : Fn) : Sp := fun vs H Q E => vs.length = k ∧ ∃ as G xs, RelG ⟨K, mg, []⟩ as G H ∧ RVs ⟨K, mg, []⟩ as H xs vs ∧ tF ⟨K, mg, []⟩ (fn xs G) as H Q E
/-- the def at f does what fn does -/
abbrev FnD (P : Program) (w : World) (K : PySem.W.Frag) (mg : Str → Option Value) (base : Heap) (k : Nat) (f : Addr) (fd : FuncData) (ps : List Str) (fn : Fn) : Prop :=
  FnOk P w K mg base (L2.CX P w) k f fd ps (spD K mg ps.length fn)
/-- a def's place, how it is called, what it does -/
def FdAt (K : PySem.W.Frag) (f : Addr) (fd : FuncData) : Prop := ∃ oc od osl, K.lookup f = some ⟨oc, od, .func fd, osl⟩
structure DefOk (P : Program) (w : World) (K : PySem.W.Frag) (mg : Str → Option Value) (base : Heap) (k : Nat) (f : Addr) (ps : List Str) (fn : Fn) : Prop where
  ex : ∃ fd, FnD P w K mg base k f fd ps fn ∧ Binds K fd ps [] ∧ FdAt K f fd
  kp : PySem.W.keepIn K (.ref f) = true
  ar : ∀ vs G, vs.length ≠ ps.length → fn vs G = .bad
theorem tF_of {C : RC} {W : WX} {r : R VV} {as : List Addr} {H : Hp} {σ : St} {Q : VK} (h : tR C W (RV C) r as H σ Q) : tF C r as H Q fun cls d H' => W cls d σ H' := by
  cases r with
  | ok v G => exact h
  | exn x G => exact h
  | bad => exact h
theorem tF_no {C : RC} {W : WX} {r : R VV} {as : List Addr} {H : Hp} {σ : St} {Q : VK} (h : tR C W (RV C) (noX r) as H σ Q) : tF C r as H Q E0 := by
  cases r with
  | ok v G => exact h
  | exn x G => exact h.elim
  | bad => exact h
theorem RVs.length_eq {C : RC} {as : List Addr} {H : Hp} {xs : List VV} {vs : List V} (r : RVs C as H xs vs) {n : Nat} (h : xs.length = n) : vs.length = n := by rw [← r.length]; exact h
/-- the promise, from what is wanted -/
theorem spD_of {K : PySem.W.Frag} {mg : Str → Option Value} {k : Nat} {fn : Fn} (ar : ∀ vs G, vs.length ≠ k → fn vs G = .bad) {as : List Addr} {G : Hv} {H : Hp} {xs : List VV} {vs : List V} {Q : VK} {E : XK} (rg : RelG ⟨K, mg, []⟩ as G H) (r : RVs ⟨K, mg, []⟩ as H xs vs)
    (h : tF ⟨K, mg, []⟩ (fn xs G) as H Q E) : spD K mg k fn vs H Q E := by
  refine ⟨r.length_eq ?_, as, G, xs, rg, r, h⟩
  by_cases e : xs.length = k
  · exact e
  · rw [ar xs G e] at h
    exact h.elim
variable {k : Nat} {g : Addr} {ps : List Str} {fn : Fn} {es : List Expr} {dr : DA} {p apos : Pos} {e : Expr}
/-- f(..): as many arguments as parameters -/
theorem se_call {x : Str} (F : DefOk X.prog X.w X.K X.mg X.base k g ps fn) (hg : Gl X x) (hm : X.mg x = some (.ref g)) (hr : Room k X.A) (tk : Takes X W) (ha : SndA X [] W (e :: es) dr) (hdb : (x == ("__debug__" : Str)) = false := by decide)
    (he : starEach (e :: es) X.env = (false, eval e X.env) :: starEach es X.env := by rfl) (hpl : (backTo pos (starEach es X.env)).any (·.1) = false := by rfl) :
    SndE X [] W (.Call (.Name x p) (e :: es) [] pos) (dCall fn dr) := by
  obtain ⟨⟨fd, F1, F2, _⟩, kp, ar⟩ := F
  refine (pe_callSD (E := fun σ cls d H' => W cls d σ H') F1 hr hg hm kp F2 (.nil : Vals [] []) (fun σ => L2.passAt tk σ) ha hdb he hpl).imp fun σ H Q ⟨as, G, S, rg, rs, h⟩ => ?_
  refine tD.bind rg rs h fun xs G1 as1 H1 vs e1 rg1 rs1 rxs h1 => ?_
  simp only [List.append_nil]
  exact spD_of ar rg1 rxs (tF_of h1)
/-- f(b = .., a = ..) is told by the def's own row -/
theorem se_call0 {x : Str} (F : DefOk X.prog X.w X.K X.mg X.base k g [] fn) (hg : Gl X x) (hm : X.mg x = some (.ref g)) (hr : Room k X.A) (tk : Takes X W) (hdb : (x == ("__debug__" : Str)) = false := by decide) :
    SndE X [] W (.Call (.Name x p) [] [] pos) (dCall fn aNil) := by
  obtain ⟨⟨fd, F1, F2, _⟩, kp, ar⟩ := F
  refine ⟨fun pins s σ H Q I h => ?_⟩
  obtain ⟨as, G, S, rg, rs, h⟩ := h
  refine wpAny_Call_Name_kw (ld_glob I hg hm ?_ hdb)
  refine PySem.W.callWith_K0 I.kIn kp (run_fnSD (E := fun σ cls d H' => W cls d σ H') (us := []) (vs := []) F1 hr F2 (.nil : Vals [] []) (L2.passAt tk σ) I .nil ?_)
  exact spD_of ar rg .nil (tF_of h)
/-- o.m(..) -/
theorem isIns_rv {C : RC} {as : List Addr} {G : Hv} {H : Hp} {x : VV} {v : V} {c m : Nat} (rg : RelG C as G H) (h : RV C as H x v) (e : isIns c m G x = true) : ∃ a Ca dx ys, v = .ref a ∧ C.mg (nameOf c) = some (.ref Ca) ∧ H a = some (.ins Ca dx ys) ∧ ys.lookup (nameOf m) = none := by
  cases x with
  | ref i =>
    unfold isIns at e
    simp only at e
    cases q : G[i]? with
    | none => rw [q] at e; cases e
    | some o =>
      rw [q] at e
      cases o with
      | ins d fs =>
        simp only [Bool.and_eq_true, decide_eq_true_eq] at e
        obtain ⟨hc, hl⟩ := e
        subst hc
        obtain ⟨p, C2, dx, ys, _, hv, hm, hH, hf⟩ := RV.ins rg h q
        have hk := hf.look m
        cases q2 : look m fs with
        | some z => rw [q2] at hl; cases hl
        | none =>
          rw [q2] at hk
          exact ⟨p, C2, dx, ys, hv, hm, hH, hk⟩
      | _ => cases e
  | _ => cases e
theorem ClsOk.same (T : ClsOk X.K X.mg c Ca) {Cb : Addr} (h : X.mg (nameOf c) = some (.ref Cb)) : Cb = Ca := by
  rw [T.mg] at h
  cases h; rfl
theorem se_meth {x : Str} {m : Nat} {o : Expr} {d : DE} {pl : Sem Bool} (F : DefOk X.prog X.w X.K X.mg X.base k g ps fn) (T : ClsOk X.K X.mg c Ca) (hm : Meth X.K Ca x g) (hx : nameOf m = x) (hr : Room k X.A) (tk : Takes X W) (ho : SndE X [] W o d) (ha : SndA X [] W (e :: es) dr)
    (hst : starEach (e :: es) X.env = (false, eval e X.env) :: starEach es X.env := by rfl) (hpl : (backTo pos (starEach es X.env)).any (·.1) = false := by rfl)
    (ht : eval (.Call (.Attribute o x apos) (e :: es) [] pos) X.env = (do
      let ov ← eval o X.env
      standAt apos.atName
      let (f, first) ← holding [ov] (getMethod ov x pl)
      callWith pos f first (backTo pos (starEach (e :: es) X.env)) (backToKw pos (keywordEach [] X.env))) := by rfl) :
    SndE X [] W (.Call (.Attribute o x apos) (e :: es) [] pos) (dMeth c m fn d dr) := by
  obtain ⟨⟨fd, F1, F2, _⟩, kp, ar⟩ := F
  refine ⟨fun pins s σ H Q I h => ?_⟩
  obtain ⟨as, G, S, rg, rs, h⟩ := h
  have hd : tDE (rc X []) W d σ H fun x' H1 => ∃ a Cb dx ys, x' = .ref a ∧ X.mg (nameOf c) = some (.ref Cb) ∧ H1 a = some (.ins Cb dx ys) ∧ ys.lookup (nameOf m) = none ∧ tDA (rc X []) W dr σ H1 fun vs H2 => spD X.K X.mg ps.length fn (x' :: vs) H2 Q fun cls d H' => W cls d σ H' :=
    tD.bind rg rs h fun u G1 as1 H1 u' e1 rg1 rs1 ru h1 => by
      split at h1
      · rename_i hi
        obtain ⟨a, Cb, dx, ys, hv, hc, hH, hl⟩ := isIns_rv rg1 ru hi
        exact ⟨a, Cb, dx, ys, hv, hc, hH, hl, tD.bind rg1 rs1 h1 fun xs G2 as2 H2 vs e2 rg2 rs2 rxs h2 => spD_of ar rg2 (.cons (ru.mono e2) rxs) (tF_of h2)⟩
      · exact h1.elim
  refine PySem.W.methodCall_KW (pl := pl) (thn (ho.run pins s σ H _ I hd) fun u s1 ⟨x', H1, I1, rx, a, Cb, dx, ys, ex, hc, ea, l, q⟩ => ?_) ht
  have hC := T.same hc
  subst hC ex hx
  obtain rfl : u = Value.ref a := rx
  refine getmeth_ok I1 ea T.cl hm l ?_
  refine PySem.W.callWith_K (first := [.ref a]) (h₀ := X.base) I.ok.mod.kin hm.kp (thn (ha.run pos pins s1 σ H1 _ I1 q) fun us s2 ⟨vs, H2, I2, r, q2⟩ => ⟨I2.kIn, ?_⟩) hst hpl
  exact run_fnSD (E := fun σ cls d H' => W cls d σ H') (us := .ref a :: us) (vs := .ref a :: vs) F1 hr F2 (.nil : Vals [] []) (L2.passAt tk σ) I2 (.cons rfl r) (by simpa using q2)
theorem se_meth0 {x : Str} {m : Nat} {o : Expr} {d : DE} {pl : Sem Bool} (F : DefOk X.prog X.w X.K X.mg X.base k g ps fn) (T : ClsOk X.K X.mg c Ca) (hm : Meth X.K Ca x g) (hx : nameOf m = x) (hr : Room k X.A) (tk : Takes X W) (ho : SndE X [] W o d)
    (ht : eval (.Call (.Attribute o x apos) [] [] pos) X.env = (do
      let ov ← eval o X.env
      standAt apos.atName
      let (f, first) ← holding [ov] (getMethod ov x pl)
      callWith pos f first (backTo pos (starEach [] X.env)) (backToKw pos (keywordEach [] X.env))) := by rfl) :
    SndE X [] W (.Call (.Attribute o x apos) [] [] pos) (dMeth c m fn d aNil) := by
  obtain ⟨⟨fd, F1, F2, _⟩, kp, ar⟩ := F
  refine ⟨fun pins s σ H Q I h => ?_⟩
  obtain ⟨as, G, S, rg, rs, h⟩ := h
  have hd : tDE (rc X []) W d σ H fun x' H1 => ∃ a Cb dx ys, x' = .ref a ∧ X.mg (nameOf c) = some (.ref Cb) ∧ H1 a = some (.ins Cb dx ys) ∧ ys.lookup (nameOf m) = none ∧ spD X.K X.mg ps.length fn [x'] H1 Q fun cls d H' => W cls d σ H' :=
    tD.bind rg rs h fun u G1 as1 H1 u' e1 rg1 rs1 ru h1 => by
      split at h1
      · rename_i hi
        obtain ⟨a, Cb, dx, ys, hv, hc, hH, hl⟩ := isIns_rv rg1 ru hi
        exact ⟨a, Cb, dx, ys, hv, hc, hH, hl, spD_of ar rg1 (.cons ru .nil) (tF_of h1)⟩
      · exact h1.elim
  refine PySem.W.methodCall_KW (pl := pl) (thn (ho.run pins s σ H _ I hd) fun u s1 ⟨x', H1, I1, rx, a, Cb, dx, ys, ex, hc, ea, l, q⟩ => ?_) ht
  have hC := T.same hc
  subst hC ex hx
  obtain rfl : u = Value.ref a := rx
  refine getmeth_ok I1 ea T.cl hm l ?_
  exact PySem.W.callWith_K0 (first := [.ref a]) I1.kIn hm.kp (run_fnSD (E := fun σ cls d H' => W cls d σ H') (us := [.ref a]) (vs := [.ref a]) F1 hr F2 (.nil : Vals [] []) (L2.passAt tk σ) I1 (.cons rfl .nil) (by simpa using q))
/-- o.p, a property -/
theorem se_prop {x : Str} {m : Nat} {o : Expr} {d : DE} {pp : Addr} (F : DefOk X.prog X.w X.K X.mg X.base k g ps fn) (T : ClsOk X.K X.mg c Ca) (hp : PropOf X.K Ca x pp g) (hr : Room (k + 1) X.A) (ho : SndE X [] W o d) (hb : attributeBase o x X.env (eval o X.env) = eval o X.env := by rfl) :
    SndE X [] W (.Attribute o x pos) (dProp c m fn d) := by
  obtain ⟨⟨fd, F1, F2, _⟩, kp, ar⟩ := F
  refine (pe_prop ho T.cl hp F1 hr F2 (.nil : Vals [] []) (passL (X := X.nox)) hb).imp fun σ H Q ⟨as, G, S, rg, rs, h⟩ => tD.bind rg rs h fun u G1 as1 H1 u' e1 rg1 rs1 ru h1 => ?_
  split at h1
  · rename_i hi
    obtain ⟨a, Cb, dx, ys, hv, hc, hH, hl⟩ := isIns_rv rg1 ru hi
    have hC := T.same hc
    subst hC hv
    exact ⟨a, dx, ys, rfl, hH, spD_of ar rg1 (.cons ru .nil) (tF_no h1)⟩
  · exact h1.elim
/-- C(..) -/
theorem make_go {as : List Addr} {G1 : Hv} {H1 : Hp} {xs : List VV} {vs : List V} {σ : St} {Q : VK} (T : ClsOk X.K X.mg c Ca) (ar : ∀ vs G, vs.length ≠ ps.length → fn vs G = .bad) (rg1 : RelG (rc X []) as G1 H1) (rxs : RVs (rc X []) as H1 xs vs)
    (h1 : tR (rc X []) W (RV (rc X [])) ((noX (fn (.ref G1.length :: xs) (G1 ++ [.ins c []]))).bind fun u G2 => if isN u then .ok (.ref G1.length) G2 else .bad) as H1 σ Q) :
    ∀ x dx, H1 x = none → H1 dx = none → dx ≠ x → spD X.K X.mg ps.length fn (.ref x :: (vs ++ [])) (upd (upd H1 dx (.own x)) x (.ins Ca dx [])) (fun v H2 => v = .non ∧ Q (.ref x) H2) E0 := fun x dx hx hdx ne => by
  rw [List.append_nil]
  have r2 : RelG (rc X []) as G1 (upd H1 dx (.own x)) := rg1.side hdx
  have hx2 : (upd H1 dx (.own x)) x = none := by rw [upd_ne (Ne.symm ne)]; exact hx
  have e1 : Ext as H1 as (upd H1 dx (.own x)) := Ext.side hdx
  have e2 : Ext as (upd H1 dx (.own x)) (as ++ [x]) (upd (upd H1 dx (.own x)) x (.ins Ca dx [])) := Ext.new hx2
  have r3 : RelG (rc X []) (as ++ [x]) (G1 ++ [.ins c []]) (upd (upd H1 dx (.own x)) x (.ins Ca dx [])) := r2.new hx2 ⟨Ca, dx, [], T.mg, rfl, rfl⟩
  have rx : RV (rc X []) (as ++ [x]) (upd (upd H1 dx (.own x)) x (.ins Ca dx [])) (.ref G1.length) (.ref x) := .mkRef rg1.newAt
  refine spD_of ar r3 (.cons rx (rxs.mono (e1.trans e2))) ?_
  cases q : fn (.ref G1.length :: xs) (G1 ++ [.ins c []]) with
  | bad => rw [q] at h1; exact h1.elim
  | exn y G2 => rw [q] at h1; exact h1.elim
  | ok u G2 =>
    rw [q] at h1
    simp only [noX_ok, R.bind_ok] at h1
    split at h1
    · rename_i hu
      refine fun as' H' v' e3 rg' rv => ?_
      have hv : v' = .non := by
        have := isN_iff rv
        rw [hu] at this
        exact of_decide_eq_true this
      exact ⟨hv, h1 as' H' (.ref x) ((e1.trans e2).trans e3) rg' (rx.mono e3)⟩
    · exact h1.elim
theorem se_make {x : Str} (F : DefOk X.prog X.w X.K X.mg X.base k g ps fn) (T : ClsOk X.K X.mg c Ca) (M : Mk X.K Ca g) (hx : nameOf c = x) (hg : Gl X x) (hr : Room (k + 1) X.A) (ha : SndA X [] W (e :: es) dr) (hdb : (x == ("__debug__" : Str)) = false := by decide)
    (he : starEach (e :: es) X.env = (false, eval e X.env) :: starEach es X.env := by rfl) (hpl : (backTo pos (starEach es X.env)).any (·.1) = false := by rfl) :
    SndE X [] W (.Call (.Name x p) (e :: es) [] pos) (dMake c fn dr) := by
  obtain ⟨⟨fd, F1, F2, _⟩, kp, ar⟩ := F
  refine (pe_make M F1 hr hg (hx ▸ T.mg) F2 (.nil : Vals [] []) passL ha hdb he hpl).imp fun σ H Q ⟨as, G, S, rg, rs, h⟩ => ?_
  refine tD.bind rg rs h fun xs G1 as1 H1 vs e1 rg1 rs1 rxs h1 => ?_
  exact make_go T ar rg1 rxs h1
theorem se_make0 {x : Str} (F : DefOk X.prog X.w X.K X.mg X.base k g ps fn) (T : ClsOk X.K X.mg c Ca) (M : Mk X.K Ca g) (hx : nameOf c = x) (hg : Gl X x) (hr : Room (k + 1) X.A) (hdb : (x == ("__debug__" : Str)) = false := by decide) :
    SndE X [] W (.Call (.Name x p) [] [] pos) (dMake c fn aNil) := by
  obtain ⟨⟨fd, F1, F2, _⟩, kp, ar⟩ := F
  refine (pe_make0 M F1 hr hg (hx ▸ T.mg) F2 (.nil : Vals [] []) passL hdb).imp fun σ H Q ⟨as, G, S, rg, rs, h⟩ => ?_
  exact make_go T ar rg .nil h
end
end DL
end S_Rules4
section S_Rules5
set_option Elab.async false
set_option linter.all false
set_option maxRecDepth 100000
set_option maxHeartbeats 2000000
/-! Rules5: built-ins, methods of built-in types. -/
namespace DL
open PySem PySem.Spec PyProof.Rows L2
/-- the built-ins' names are the built-ins' own -/
structure BF (mg : Str → Option Value) : Prop where
  len : mg "len" = none
  abs : mg "abs" = none
  int : mg "int" = none
  str : mg "str" = none
  divmod : mg "divmod" = none
  list : mg "list" = none
  tuple : mg "tuple" = none
  sum : mg "sum" = none
  all : mg "all" = none
  any : mg "any" = none
  repr : mg "repr" = none
  isinstance : mg "isinstance" = none
  min : mg "min" = none
  max : mg "max" = none
  range : mg "range" = none
  enumerate : mg "enumerate" = none
  zip : mg "zip" = none
  sorted : mg "sorted" = none
  set : mg "set" = none
  dict : mg "dict" = none
  bool : mg "bool" = none
def rB (C : RC) (f : Bt) : List V → Hp → VK → Prop := fun vs' H Q => ∃ as G vs, RelG C as G H ∧ RVs C as H vs vs' ∧ oR C (f vs G) as H Q
section
variable {C : RC} {as : List Addr} {H : Hp}
theorem RVs.one {x : VV} {vs : List V} (h : RVs C as H [x] vs) : ∃ v, vs = [v] ∧ RV C as H x v := by
  rw [RVs] at h
  obtain ⟨v, zs, rfl, r, t⟩ := h
  rw [RVs] at t
  subst t
  exact ⟨v, rfl, r⟩
theorem RVs.two {x y : VV} {vs : List V} (h : RVs C as H [x, y] vs) : ∃ v w, vs = [v, w] ∧ RV C as H x v ∧ RV C as H y w := by
  rw [RVs] at h
  obtain ⟨v, zs, rfl, r, t⟩ := h
  obtain ⟨w, rfl, r2⟩ := t.one
  exact ⟨v, w, rfl, r, r2⟩
theorem RVs.ints : ∀ {xs : List VV} {is : List Int} {vs : List V}, RVs C as H xs vs → asInts xs = some is → vs = is.map V.int
  | [], _, _, h, e => by cases e; rw [RVs] at h; exact h
  | x :: xs, is, _, h, e => by
    rw [RVs] at h
    obtain ⟨v, zs, rfl, r, t⟩ := h
    cases x with
    | int i =>
      unfold asInts at e
      cases q : asInts xs with
      | none => rw [q] at e; cases e
      | some js =>
        rw [q] at e
        cases e
        rw [r.int, RVs.ints t q]; rfl
    | _ => cases e
theorem RVs.bls : ∀ {xs : List VV} {is : List Bool} {vs : List V}, RVs C as H xs vs → asBls xs = some is → vs = is.map V.bl
  | [], _, _, h, e => by cases e; rw [RVs] at h; exact h
  | x :: xs, is, _, h, e => by
    rw [RVs] at h
    obtain ⟨v, zs, rfl, r, t⟩ := h
    cases x with
    | bl i =>
      unfold asBls at e
      cases q : asBls xs with
      | none => rw [q] at e; cases e
      | some js =>
        rw [q] at e
        cases e
        rw [r.bl, RVs.bls t q]; rfl
    | _ => cases e
theorem RVs.strs : ∀ {xs : List VV} {is : List (List Nat)} {vs : List V}, RVs C as H xs vs → asStrs xs = some is → vs = (is.map mkS).map V.str ∧ ∀ s ∈ is, sOk s = true
  | [], _, _, h, e => by cases e; rw [RVs] at h; exact ⟨h, fun _ z => nomatch z⟩
  | x :: xs, is, _, h, e => by
    rw [RVs] at h
    obtain ⟨v, zs, rfl, r, t⟩ := h
    cases x with
    | str i =>
      unfold asStrs at e
      cases q : asStrs xs with
      | none => rw [q] at e; cases e
      | some js =>
        rw [q] at e
        cases e
        obtain ⟨h1, h2⟩ := RVs.strs t q
        rw [r.str, h1]
        refine ⟨rfl, fun s hs => ?_⟩
        rcases List.mem_cons.mp hs with rfl | hs
        · exact r.sok
        · exact h2 s hs
    | _ => cases e
theorem RVs.mkStrs : ∀ {ss : List (List Nat)}, (∀ s ∈ ss, sOk s = true) → RVs C as H (ss.map VV.str) ((ss.map mkS).map V.str)
  | [], _ => .nil
  | s :: ss, h => .cons (.mkStr (h s List.mem_cons_self)) (RVs.mkStrs fun t ht => h t (List.mem_cons_of_mem _ ht))
theorem RVs.upTo (lo : Int) : ∀ n, RVs C as H (DL.upTo lo n) ((List.range n).map fun (i : Nat) => V.int (lo + (i : Int)))
  | 0 => .nil
  | n + 1 => by
    rw [List.range_succ_eq_map, List.map_cons]
    refine .cons (by rw [show lo + ((0 : Nat) : Int) = lo by simp]; exact .mkInt) ?_
    have := RVs.upTo (lo + 1) n
    rw [List.map_map]
    have e : ((fun i : Nat => V.int (lo + (i : Int))) ∘ Nat.succ) = fun i : Nat => V.int (lo + 1 + (i : Int)) := by
      funext i
      show V.int (lo + ((i + 1 : Nat) : Int)) = _
      congr 1
      omega
    rw [e]
    exact this
end
section
variable {X : Cx} {ep : List (Addr × Obj)} {W : WX} {a e : Expr} {da : DE} {dr : DA} {es : List Expr} {pos p : Pos}
theorem se_b {id : String} {x : Str} {f : Bt} (hc : CallR X (.builtin id) (rB (rc X ep) f)) (hm : X.mg x = none) (hv : bootBuiltins x = some (.builtin id)) (hg : Gl X x) (ha : SndA X ep W (e :: es) dr) (hn : x ≠ "__name__" := by decide) (hdb : (x == ("__debug__" : Str)) = false := by decide)
    (he : starEach (e :: es) X.env = (false, eval e X.env) :: starEach es X.env := by rfl) (hpl : (backTo pos (starEach es X.env)).any (·.1) = false := by rfl) : SndE X ep W (.Call (.Name x p) (e :: es) [] pos) (dB f dr) :=
  (pe_callB hc hg hm hv ha hn hdb he hpl).imp fun σ H Q ⟨as, G, S, rg, rs, h⟩ => tD.bind rg rs h fun xs G1 as1 H1 vs e1 rg1 rs1 rxs h1 => ⟨as1, G1, xs, rg1, rxs, tR_ofO h1⟩
theorem se_ty {id : String} {x : Str} {f : Bt} (hc : CallR X (.type id) (rB (rc X ep) f)) (hm : X.mg x = none) (hv : bootBuiltins x = some (.type id)) (hg : Gl X x) (ha : SndA X ep W (e :: es) dr) (hn : x ≠ "__name__" := by decide) (hdb : (x == ("__debug__" : Str)) = false := by decide)
    (he : starEach (e :: es) X.env = (false, eval e X.env) :: starEach es X.env := by rfl) (hpl : (backTo pos (starEach es X.env)).any (·.1) = false := by rfl) : SndE X ep W (.Call (.Name x p) (e :: es) [] pos) (dB f dr) :=
  (pe_callTy hc hg hm hv ha hn hdb he hpl).imp fun σ H Q ⟨as, G, S, rg, rs, h⟩ => tD.bind rg rs h fun xs G1 as1 H1 vs e1 rg1 rs1 rxs h1 => ⟨as1, G1, xs, rg1, rxs, tR_ofO h1⟩
theorem sb_len : CallR X (.builtin "len") (rB (rc X ep) bLen) := by
  intro pins s σ H vs' us Q I r ⟨as, G, vs, rg, rv, h⟩
  unfold bLen at h
  split at h
  · rename_i t
    split at h
    · rename_i hl
      obtain ⟨v, rfl, r1⟩ := rv.one
      have := h _ _ _ .refl rg .mkInt
      refine call_len_str pins s σ H _ us Q I r ⟨_, by rw [r1.str], by rw [mkS_len, ← lim]; exact hl, ?_⟩
      rw [mkS_len]; exact this
    · exact h.elim
  · rename_i x _
    obtain ⟨v, rfl, r1⟩ := rv.one
    cases q : asSeq G x with
    | none => rw [q] at h; exact h.elim
    | some xs =>
      rw [q] at h
      obtain ⟨a, ys, rfl, h1, r2⟩ := RV.seq rg r1 q
      refine call_len_seq pins s σ H _ us Q I r ⟨a, ys, rfl, h1, ?_⟩
      rw [← r2.length]
      exact h _ _ _ .refl rg .mkInt
  · exact h.elim
theorem sb_abs : CallR X (.builtin "abs") (rB (rc X ep) bAbs) := by
  intro pins s σ H vs' us Q I r ⟨as, G, vs, rg, rv, h⟩
  unfold bAbs at h
  split at h
  · obtain ⟨v, rfl, r1⟩ := rv.one
    exact call_abs pins s σ H _ us Q I r ⟨_, by rw [r1.int], h _ _ _ .refl rg .mkInt⟩
  · exact h.elim
theorem sb_max2 (hc : X.calm = true) : CallR X (.builtin "max") (rB (rc X ep) bMax2) := by
  intro pins s σ H vs' us Q I r ⟨as, G, vs, rg, rv, h⟩
  unfold bMax2 at h
  split at h
  · obtain ⟨v, w, rfl, r1, r2⟩ := rv.two
    exact call_max2 hc pins s σ H _ us Q I r ⟨_, _, by rw [r1.int, r2.int], h _ _ _ .refl rg .mkInt⟩
  · exact h.elim
theorem sb_min2 (hc : X.calm = true) : CallR X (.builtin "min") (rB (rc X ep) bMin2) := by
  intro pins s σ H vs' us Q I r ⟨as, G, vs, rg, rv, h⟩
  unfold bMin2 at h
  split at h
  · obtain ⟨v, w, rfl, r1, r2⟩ := rv.two
    exact call_min2 hc pins s σ H _ us Q I r ⟨_, _, by rw [r1.int, r2.int], h _ _ _ .refl rg .mkInt⟩
  · exact h.elim
theorem digText : ∀ c : Nat, 48 ≤ c → c ≤ 57 → PySem.intText? (mkS [c]) = some ((c - 48 : Nat) : Int) := by
  intro c h1 h2
  obtain ⟨k, rfl⟩ : ∃ k, c = 48 + k := ⟨c - 48, by omega⟩
  have hk : k < 10 := by omega
  have : ∀ k, k < 10 → PySem.intText? (mkS [48 + k]) = some ((48 + k - 48 : Nat) : Int) := by decide +kernel
  exact this k hk
theorem sb_int : CallR X (.type "int") (rB (rc X ep) bInt) := by
  intro pins s σ H vs' us Q I r ⟨as, G, vs, rg, rv, h⟩
  unfold bInt at h
  split at h
  · obtain ⟨v, rfl, r1⟩ := rv.one
    exact call_int1 pins s σ H _ us Q I r (.inl ⟨_, by rw [r1.int], h _ _ _ .refl rg .mkInt⟩)
  · obtain ⟨v, rfl, r1⟩ := rv.one
    exact call_int1 pins s σ H _ us Q I r (.inr ⟨_, by rw [r1.bl], h _ _ _ .refl rg .mkInt⟩)
  · rename_i c
    split at h
    · rename_i hl
      obtain ⟨v, rfl, r1⟩ := rv.one
      exact call_int_str pins s σ H _ us Q I r ⟨_, _, by rw [r1.str], digText c hl.1 hl.2, by rw [mkS_len]; simp, h _ _ _ .refl rg .mkInt⟩
    · exact h.elim
  · exact h.elim
theorem strDig : ∀ i : Int, 0 ≤ i → i < 10 → (toString i : String) = String.ofList [Char.ofNat (48 + i.toNat)] := by
  intro i h1 h2
  obtain ⟨k, rfl⟩ : ∃ k : Nat, i = k := ⟨i.toNat, by omega⟩
  have hk : k < 10 := by omega
  have : ∀ k : Nat, k < 10 → (toString (k : Int) : String) = String.ofList [Char.ofNat (48 + (k : Int).toNat)] := by decide +kernel
  exact this k hk
theorem strDig2 : ∀ i : Int, 0 ≤ i → i < 10 → (Str.ofString (toString i) : Str) = mkS [48 + i.toNat] := by
  intro i h1 h2
  obtain ⟨k, rfl⟩ : ∃ k : Nat, i = k := ⟨i.toNat, by omega⟩
  have hk : k < 10 := by omega
  have : ∀ k : Nat, k < 10 → (Str.ofString (toString (k : Int)) : Str) = mkS [48 + (k : Int).toNat] := by decide +kernel
  exact this k hk
theorem sb_str : CallR X (.type "str") (rB (rc X ep) bStr) := by
  intro pins s σ H vs' us Q I r ⟨as, G, vs, rg, rv, h⟩
  unfold bStr at h
  split at h
  · rename_i i
    split at h
    · rename_i hl
      obtain ⟨v, rfl, r1⟩ := rv.one
      have ok : sOk [48 + i.toNat] = true := by
        simp only [sOk, List.all_cons, List.all_nil, Bool.and_true, decide_eq_true_eq]
        omega
      have := h _ _ _ .refl rg (.mkStr ok)
      have hz : i.natAbs.log2 < 1920 := by
        have h0 : i.natAbs < 2 ^ 4 := by omega
        have := PySem.Flt.log2_lt_of (k := 4) (by decide) h0
        omega
      refine call_str_int pins s σ H _ us Q I r ⟨i, by rw [r1.int], hz, ?_⟩
      have e := strDig2 i hl.1 hl.2
      show Q (.str (Str.ofString (toString i))) H
      rw [e]; exact this
    · exact h.elim
  · exact h.elim
theorem sb_divmod : CallR X (.builtin "divmod") (rB (rc X ep) bDivmod) := by
  intro pins s σ H vs' us Q I r ⟨as, G, vs, rg, rv, h⟩
  unfold bDivmod at h
  split at h
  · rename_i i j
    split at h
    · rename_i hl
      obtain ⟨v, w, rfl, r1, r2⟩ := rv.two
      refine call_divmod pins s σ H _ us Q I r ⟨_, _, by rw [r1.int, r2.int], hl, fun p hp => ?_⟩
      have e : Ext as H as (upd H p (.tup [.int (i / j), .int (i % j)])) := Ext.side hp
      exact h _ _ _ e (rg.side hp) (.mkTup (.inl upd_same) (.cons .mkInt (.cons .mkInt .nil)))
    · exact h.elim
  · exact h.elim
theorem sb_list : CallR X (.type "list") (rB (rc X ep) bList) := by
  intro pins s σ H vs' us Q I r ⟨as, G, vs, rg, rv, h⟩
  unfold bList at h
  split at h
  · rename_i x
    obtain ⟨v, rfl, r1⟩ := rv.one
    cases q : asSeq G x with
    | none => rw [q] at h; exact h.elim
    | some xs =>
      rw [q] at h
      obtain ⟨a, ys, rfl, h1, r2⟩ := RV.seq rg r1 q
      exact call_list_of pins s σ H _ us Q I r ⟨a, ys, rfl, h1, fun l hl => h _ _ _ (Ext.new hl) (rg.new hl ⟨_, rfl, r2⟩) (.mkRef rg.newAt)⟩
  · exact h.elim
theorem sb_tuple : CallR X (.type "tuple") (rB (rc X ep) bTuple) := by
  intro pins s σ H vs' us Q I r ⟨as, G, vs, rg, rv, h⟩
  unfold bTuple at h
  split at h
  · rename_i x
    obtain ⟨v, rfl, r1⟩ := rv.one
    cases q : asSeq G x with
    | none => rw [q] at h; exact h.elim
    | some xs =>
      rw [q] at h
      cases x with
      | tup zs =>
        cases q
        obtain ⟨a, ys, rfl, t, r2⟩ := r1.tup
        exact call_tuple_of pins s σ H _ us Q I r ⟨a, ys, rfl, .inr ⟨t.sq, h _ _ _ .refl rg (.mkTup t r2)⟩⟩
      | ref i =>
        obtain ⟨a, ys, rfl, h1, r2⟩ := RV.lstR (K := X.K) rg r1 (show asListR G (.ref i) = some xs from q)
        refine call_tuple_of pins s σ H _ us Q I r ⟨a, ys, rfl, .inl ⟨h1, fun l hl => ?_⟩⟩
        have e : Ext as H as (upd H l (.tup ys)) := Ext.side hl
        exact h _ _ _ e (rg.side hl) (.mkTup (.inl upd_same) (r2.mono e))
      | _ => cases q
  · exact h.elim
theorem sb_sum (hc : X.calm = true) : CallR X (.builtin "sum") (rB (rc X ep) bSum) := by
  intro pins s σ H vs' us Q I r ⟨as, G, vs, rg, rv, h⟩
  unfold bSum at h
  split at h
  · rename_i x
    obtain ⟨v, rfl, r1⟩ := rv.one
    cases q : asListR G x with
    | none => rw [q] at h; exact h.elim
    | some xs =>
      rw [q] at h
      cases q2 : asInts xs with
      | none => simp only [q2] at h; exact h.elim
      | some is =>
        simp only [q2] at h
        obtain ⟨a, ys, rfl, h1, r2⟩ := RV.lstR (K := X.K) rg r1 q
        rw [r2.ints q2] at h1
        exact cr_sum hc pins s σ H _ us Q I r ⟨a, is, rfl, h1, h _ _ _ .refl rg .mkInt⟩
  · exact h.elim
theorem sb_all (hc : X.calm = true) : CallR X (.builtin "all") (rB (rc X ep) bAll) := by
  intro pins s σ H vs' us Q I r ⟨as, G, vs, rg, rv, h⟩
  unfold bAll at h
  split at h
  · rename_i x
    obtain ⟨v, rfl, r1⟩ := rv.one
    cases q : asListR G x with
    | none => rw [q] at h; exact h.elim
    | some xs =>
      rw [q] at h
      cases q2 : asBls xs with
      | none => simp only [q2] at h; exact h.elim
      | some is =>
        simp only [q2] at h
        obtain ⟨a, ys, rfl, h1, r2⟩ := RV.lstR (K := X.K) rg r1 q
        rw [r2.bls q2] at h1
        exact cr_all hc pins s σ H _ us Q I r ⟨a, is, rfl, h1, h _ _ _ .refl rg .mkBl⟩
  · exact h.elim
theorem sb_any (hc : X.calm = true) : CallR X (.builtin "any") (rB (rc X ep) bAny) := by
  intro pins s σ H vs' us Q I r ⟨as, G, vs, rg, rv, h⟩
  unfold bAny at h
  split at h
  · rename_i x
    obtain ⟨v, rfl, r1⟩ := rv.one
    cases q : asListR G x with
    | none => rw [q] at h; exact h.elim
    | some xs =>
      rw [q] at h
      cases q2 : asBls xs with
      | none => simp only [q2] at h; exact h.elim
      | some is =>
        simp only [q2] at h
        obtain ⟨a, ys, rfl, h1, r2⟩ := RV.lstR (K := X.K) rg r1 q
        rw [r2.bls q2] at h1
        exact cr_any hc pins s σ H _ us Q I r ⟨a, is, rfl, h1, h _ _ _ .refl rg .mkBl⟩
  · exact h.elim
theorem sb_reprB : CallR X (.builtin "repr") (rB (rc X ep) bReprB) := by
  intro pins s σ H vs' us Q I r ⟨as, G, vs, rg, rv, h⟩
  unfold bReprB at h
  split at h
  · obtain ⟨v, rfl, r1⟩ := rv.one
    have hv := r1.bl
    subst hv
    obtain ⟨u, rfl, ru⟩ := r.one
    cases ru
    have := h _ _ _ .refl rg (.mkStr (by decide))
    exact PySem.P.repr_of_bool ⟨.str _, H, I.tok _, ⟨_, rfl⟩, this⟩
  · obtain ⟨v, rfl, r1⟩ := rv.one
    have hv := r1.bl
    subst hv
    obtain ⟨u, rfl, ru⟩ := r.one
    cases ru
    have := h _ _ _ .refl rg (.mkStr (by decide))
    exact PySem.P.repr_of_bool ⟨.str _, H, I.tok _, ⟨_, rfl⟩, this⟩
  · exact h.elim
/-! isinstance -/
def tyVal : Ty → String
  | .int => "int"
  | .bool => "bool"
  | .str => "str"
  | .tuple => "tuple"
theorem kit_ty (t : String) (T : Ty) (b : Bool) (h : (match T with
    | .int => t == "int" || t == "bool"
    | .bool => t == "bool"
    | .str => t == "str"
    | .tuple => t == "tuple") = b) (ht : t ∈ ["NoneType", "bool", "int", "str", "tuple", "list", "dict"]) (K : PySem.W.Frag) : PySem.W.kitOne K (.type t) (.type (tyVal T)) = some b := by
  subst h
  simp only [List.mem_cons, List.not_mem_nil, or_false] at ht
  rcases ht with rfl | rfl | rfl | rfl | rfl | rfl | rfl <;> cases T <;> first | rfl | decide +kernel
theorem isTy_rv {C : RC} {as : List Addr} {G : Hv} {H : Hp} {x : VV} {v : V} {T : Ty} {b : Bool} (rg : RelG C as G H) (r : RV C as H x v) (e : isTy G T x = some b) : ∃ t, TyX C.K H v (.type t) ∧ PySem.W.kitOne C.K (.type t) (.type (tyVal T)) = some b := by
  cases x with
  | non =>
    rw [r.non]
    exact ⟨_, .base .non, kit_ty "NoneType" T b (by cases T <;> cases e <;> rfl) (by simp) _⟩
  | bl k =>
    rw [r.bl]
    exact ⟨_, .base (.bl k), kit_ty "bool" T b (by cases T <;> cases e <;> rfl) (by simp) _⟩
  | int k =>
    rw [r.int]
    exact ⟨_, .base (.int k), kit_ty "int" T b (by cases T <;> cases e <;> rfl) (by simp) _⟩
  | str k =>
    rw [r.str]
    exact ⟨_, .base (.str _), kit_ty "str" T b (by cases T <;> cases e <;> rfl) (by simp) _⟩
  | tup xs =>
    obtain ⟨a, ys, rfl, t, _⟩ := r.tup
    have k := kit_ty "tuple" T b (by cases T <;> cases e <;> rfl) (by simp) C.K
    rcases t with t | ⟨o, its, n, h1, h2, _⟩
    · exact ⟨_, .base (.tup t), k⟩
    · exact ⟨_, .kTuple h1 h2, k⟩
  | ref i =>
    obtain ⟨a, ha, rfl⟩ := r.ref
    cases q : G[i]? with
    | none => exfalso; cases T <;> simp [isTy, q] at e
    | some o =>
      obtain ⟨ho, h1, h2⟩ := rg.at q ha
      cases o with
      | lst zs =>
        obtain ⟨ys, rfl, _⟩ := h2
        exact ⟨_, .base (.lst h1), kit_ty "list" T b (by cases T <;> simp [isTy, q] at e <;> subst e <;> rfl) (by simp) _⟩
      | flst zs =>
        obtain ⟨ob, ys, rfl, _⟩ := h2
        exact ⟨_, .base (.frz h1), kit_ty "list" T b (by cases T <;> simp [isTy, q] at e <;> subst e <;> rfl) (by simp) _⟩
      | dic zs =>
        obtain ⟨ys, rfl, _⟩ := h2
        exact ⟨_, .base (.dK h1), kit_ty "dict" T b (by cases T <;> simp [isTy, q] at e <;> subst e <;> rfl) (by simp) _⟩
      | ins _ _ => exfalso; cases T <;> simp [isTy, q] at e
  | _ => exfalso; cases T <;> simp [isTy] at e
theorem se_isi {tn : Str} (T : Ty) (hmi : X.mg "isinstance" = none) (hmt : X.mg tn = none) (hv : bootBuiltins tn = some (.type (tyVal T))) (hgi : Gl X "isinstance") (hgt : Gl X tn) {p2 : Pos} (ha : SndE X ep W a da) (hn : tn ≠ "__name__" := by decide) (hdb : (tn == ("__debug__" : Str)) = false := by decide)
    (he : starEach [a, .Name tn p2] X.env = (false, eval a X.env) :: starEach [.Name tn p2] X.env := by rfl) (he2 : starEach [.Name tn p2] X.env = (false, eval (.Name tn p2) X.env) :: starEach [] X.env := by rfl) (hpl : (backTo pos (starEach [.Name tn p2] X.env)).any (·.1) = false := by rfl) :
    SndE X ep W (.Call (.Name "isinstance" p) [a, .Name tn p2] [] pos) (dIsi T da) :=
  (pe_callB call_isi hgi hmi (by decide +kernel) (pa_cons ha (pa_cons (pe_bltn (v := .ty (tyVal T)) hgt hmt hv rfl hn hdb) pa_nil he2) he) (by decide) (by decide) he hpl).imp fun σ H Q ⟨as, G, S, rg, rs, h⟩ => tD.bind rg rs h fun x G1 as1 H1 x' e1 rg1 rs1 rx h1 => by
    cases e : isTy G1 T x with
    | none => rw [e] at h1; exact h1.elim
    | some b =>
      rw [e] at h1
      obtain ⟨t, h2, h3⟩ := isTy_rv rg1 rx e
      exact ⟨x', .ty (tyVal T), .type t, .type (tyVal T), b, rfl, .ty _, h2, h3, h1 _ _ _ .refl rg1 .mkBl⟩
/-! ### methods of built-in types -/
def rM (C : RC) (f : Mt) : V → List V → Hp → VK → Prop := fun x' vs' H Q => ∃ as G x vs, RelG C as G H ∧ RV C as H x x' ∧ RVs C as H vs vs' ∧ oR C (f x vs G) as H Q
def rtN : Rt → String
  | .lst => "list"
  | .str => "str"
  | .dic => "dict"
theorem isRt_rv {C : RC} {as : List Addr} {G : Hv} {H : Hp} {x : VV} {v : V} {T : Rt} (rg : RelG C as G H) (r : RV C as H x v) (e : isRt T G x = true) : tyV C.K (rtN T) v H := by
  unfold isRt at e
  split at e
  · rw [r.str]; exact rfl
  · split at e
    · rename_i q
      obtain ⟨a, ys, _, rfl, h1, _⟩ := RV.lst rg r q
      exact .inl ⟨rfl, ys, SqL.of h1⟩
    · cases e
  · split at e
    · rename_i q
      obtain ⟨a, ha, rfl⟩ := r.ref
      obtain ⟨ho, h1, ys, rfl, _⟩ := rg.at q ha
      exact .inr (.inr (.inl ⟨rfl, .inl ⟨ys, h1⟩⟩))
    · cases e
  · cases e
theorem se_m {id : String} {x : Str} {f : Mt} {o : Expr} {d : DE} {apos : Pos} (T : Rt) (pa : PlainAttrs (rtN T)) (slot : Slot (rtN T) x id) (hty : typeOf (.builtin id) = pure (.type "method_descriptor")) (hm : MtR X id (rM (rc X ep) f)) (ho : SndE X ep W o d) (ha : SndA X ep W (e :: es) dr)
    (hbase : attributeBase o x X.env (eval o X.env) = eval o X.env := by rfl)
    (hfew : ((backTo pos (starEach (e :: es) X.env)).all (fun x => !x.1) && (backToKw pos (keywordEach [] X.env)).all (fun x => x.1.isSome) && decide ((e :: es).length + ([] : List Keyword).length + (if ([] : List Keyword).isEmpty then 0 else 1) < 30)) = true := by rfl)
    (hline : (apos.endLine == pos.line) = true := by rfl) (hs : starEach (e :: es) X.env = (false, eval e X.env) :: starEach es X.env := by rfl) (hpl : (backTo pos (starEach es X.env)).any (·.1) = false := by rfl) :
    SndE X ep W (.Call (.Attribute o x apos) (e :: es) [] pos) (dM T f d dr) :=
  (pe_bm pa slot hty hm ho ha hbase hfew hline hs hpl).imp fun σ H Q ⟨as, G, S, rg, rs, h⟩ => tD.bind rg rs h fun x G1 as1 H1 x' e1 rg1 rs1 rx h1 => by
    split at h1
    · rename_i hi
      exact ⟨isRt_rv rg1 rx hi, tD.bind rg1 rs1 h1 fun xs G2 as2 H2 vs e2 rg2 rs2 rxs h2 => ⟨as2, G2, x, xs, rg2, rx.mono e2, rxs, tR_ofO h2⟩⟩
    · exact h1.elim
theorem se_m0 {id : String} {x : Str} {f : Mt} {o : Expr} {d : DE} {apos : Pos} (T : Rt) (pa : PlainAttrs (rtN T)) (slot : Slot (rtN T) x id) (hty : typeOf (.builtin id) = pure (.type "method_descriptor")) (hm : MtR X id (rM (rc X ep) f)) (ho : SndE X ep W o d)
    (hbase : attributeBase o x X.env (eval o X.env) = eval o X.env := by rfl) (hline : (apos.endLine == pos.line) = true := by rfl) :
    SndE X ep W (.Call (.Attribute o x apos) [] [] pos) (dM T f d aNil) :=
  (pe_bm0 pa slot hty hm ho hbase hline).imp fun σ H Q ⟨as, G, S, rg, rs, h⟩ => tD.bind rg rs h fun x G1 as1 H1 x' e1 rg1 rs1 rx h1 => by
    split at h1
    · rename_i hi
      exact ⟨isRt_rv rg1 rx hi, as1, G1, x, [], rg1, rx, .nil, tR_ofO h1⟩
    · exact h1.elim
theorem sm_append : MtR X "list.append" (rM (rc X ep) mAppend) := by
  intro pins s σ H x' vs' v us Q I rx rv ⟨as, G, x, vs, rg, hx, hv, h⟩
  unfold mAppend at h
  split at h
  · rename_i i y
    split at h
    · rename_i xs q
      split at h
      · rename_i hl
        obtain ⟨a, ys, ha, rfl, h1, r1⟩ := RV.lst rg hx q
        obtain ⟨w, rfl, ry⟩ := hv.one
        refine mt_append pins s σ H _ _ v us Q I rx rv ⟨a, ys, w, rfl, rfl, h1, by rw [← r1.length, ← lim]; exact hl, ?_⟩
        have nt : ∀ zs, H a ≠ some (.tup zs) := fun zs => by rw [h1]; simp
        exact h _ _ _ (Ext.wr nt (.inl (List.mem_of_getElem? ha))) (rg.write ha nt ⟨_, rfl, r1.append (.cons ry .nil)⟩) .mkNon
      · exact h.elim
    · exact h.elim
  · exact h.elim
theorem sm_extend : MtR X "list.extend" (rM (rc X ep) mExtend) := by
  intro pins s σ H x' vs' v us Q I rx rv ⟨as, G, x, vs, rg, hx, hv, h⟩
  unfold mExtend at h
  split at h
  · rename_i i j
    split at h
    · rename_i xs zs q q2
      split at h
      · rename_i hl
        obtain ⟨a, ys, ha, rfl, h1, r1⟩ := RV.lst rg hx q
        obtain ⟨w, rfl, ry⟩ := hv.one
        obtain ⟨b, ws, hb, rfl, h2, r2⟩ := RV.lst rg ry q2
        refine mt_extend pins s σ H _ _ v us Q I rx rv ⟨a, b, ys, ws, rfl, rfl, h1, h2, by rw [← r1.length, ← r2.length, ← lim]; exact hl, ?_⟩
        have nt : ∀ zs, H a ≠ some (.tup zs) := fun zs => by rw [h1]; simp
        exact h _ _ _ (Ext.wr nt (.inl (List.mem_of_getElem? ha))) (rg.write ha nt ⟨_, rfl, r1.append r2⟩) .mkNon
      · exact h.elim
    · exact h.elim
  · exact h.elim
theorem sm_pop : MtR X "list.pop" (rM (rc X ep) mPop) := by
  intro pins s σ H x' vs' v us Q I rx rv ⟨as, G, x, vs, rg, hx, hv, h⟩
  unfold mPop at h
  split at h
  · rename_i i
    split at h
    · rename_i xs q
      split at h
      · rename_i y q2
        obtain ⟨a, ys, ha, rfl, h1, r1⟩ := RV.lst rg hx q
        have hz : vs' = [] := by rw [RVs] at hv; exact hv
        subst hz
        obtain ⟨w, hw, ry⟩ := r1.get q2
        refine mt_pop pins s σ H _ _ v us Q I rx rv ⟨a, ys, w, rfl, rfl, h1, by rw [← r1.length]; exact hw, ?_⟩
        have nt : ∀ zs, H a ≠ some (.tup zs) := fun zs => by rw [h1]; simp
        exact h _ _ _ (Ext.wr nt (.inl (List.mem_of_getElem? ha))) (rg.write ha nt ⟨_, rfl, r1.dropLast⟩) (ry.mono (Ext.wr nt (.inl (List.mem_of_getElem? ha))))
      · exact h.elim
    · exact h.elim
  · exact h.elim
/-! xs.index(y), flat items -/
theorem eqFlat_rv {C : RC} {as : List Addr} {H : Hp} {x y : VV} {v w : V} {b : Bool} (rx : RV C as H x v) (ry : RV C as H y w) (e : eqFlat x y = some b) : flatV v = true ∧ flatV w = true ∧ eqV v w = b := by
  cases x with
  | non => cases y <;> cases e <;> rw [rx.non] <;> first | (rw [ry.non]; exact ⟨rfl, rfl, rfl⟩) | (rw [ry.bl]; exact ⟨rfl, rfl, rfl⟩) | (rw [ry.int]; exact ⟨rfl, rfl, rfl⟩) | (rw [ry.str]; exact ⟨rfl, rfl, rfl⟩)
  | bl a =>
    rw [rx.bl]
    cases y <;> cases e <;> first | (rw [ry.non]; exact ⟨rfl, rfl, rfl⟩) | (rw [ry.bl]; exact ⟨rfl, rfl, rfl⟩) | (rw [ry.str]; exact ⟨rfl, rfl, rfl⟩) | skip
    rw [ry.int]
    exact ⟨rfl, rfl, by unfold eqV DL.b2i; first | rfl | simp [beq_eq_decide]⟩
  | int a =>
    rw [rx.int]
    cases y <;> cases e <;> first | (rw [ry.non]; exact ⟨rfl, rfl, rfl⟩) | (rw [ry.str]; exact ⟨rfl, rfl, rfl⟩) | skip
    · rw [ry.bl]
      exact ⟨rfl, rfl, by unfold eqV DL.b2i; first | rfl | simp [beq_eq_decide]⟩
    · rw [ry.int]
      exact ⟨rfl, rfl, by unfold eqV; first | rfl | simp [beq_eq_decide]⟩
  | str a =>
    rw [rx.str]
    cases y <;> cases e <;> first | (rw [ry.non]; exact ⟨rfl, rfl, rfl⟩) | (rw [ry.bl]; exact ⟨rfl, rfl, rfl⟩) | (rw [ry.int]; exact ⟨rfl, rfl, rfl⟩) | skip
    rw [ry.str]
    refine ⟨rfl, rfl, ?_⟩
    rename_i b
    unfold eqV
    by_cases h : a = b
    · subst h; simp
    · have : ¬ mkS a = mkS b := fun e => h (mkS_inj e)
      simp [h]
  | _ => cases y <;> cases e
theorem idxOf_rv {C : RC} {as : List Addr} {H : Hp} {y : VV} {w : V} (ry : RV C as H y w) : ∀ {xs : List VV} {vs : List V} {n j : Nat}, RVs C as H xs vs → idxOf (fun z => eqFlat z y) xs n = some j → (∀ (m : Nat) (z : VV), xs[m]? = some z → (eqFlat z y).isSome = true) →
    n ≤ j ∧ ∃ z, vs[j - n]? = some z ∧ eqV z w = true ∧ ∀ (m : Nat) (z' : V), m < j - n → vs[m]? = some z' → eqV z' w = false
  | [], _, _, _, _, e, _ => by cases e
  | x :: xs, _, n, j, r, e, al => by
    rw [RVs] at r
    obtain ⟨v, zs, rfl, r1, r2⟩ := r
    unfold idxOf at e
    cases q : eqFlat x y with
    | none => rw [q] at e; cases e
    | some b =>
      rw [q] at e
      obtain ⟨_, _, h3⟩ := eqFlat_rv r1 ry q
      cases b with
      | true =>
        cases e
        exact ⟨Nat.le_refl _, v, by simp, h3, fun m z' hm => by omega⟩
      | false =>
        obtain ⟨k1, z, k2, k3, k4⟩ := idxOf_rv ry r2 e fun m z hz => al (m + 1) z (by simpa using hz)
        refine ⟨by omega, z, ?_, k3, fun m z' hm hz => ?_⟩
        · rw [show j - n = (j - (n + 1)) + 1 by omega]
          simpa using k2
        · cases m with
          | zero =>
            simp at hz
            subst hz
            exact h3
          | succ m => exact k4 m z' (by omega) (by simpa using hz)
/-- all items are flat -/
theorem allFlat_rv {C : RC} {as : List Addr} {H : Hp} {y : VV} {w : V} (ry : RV C as H y w) : ∀ {xs : List VV} {vs : List V}, RVs C as H xs vs → (xs.all fun z => (eqFlat z y).isSome) = true → vs.all flatV = true
  | [], _, r, _ => by rw [RVs] at r; subst r; rfl
  | x :: xs, _, r, al => by
    rw [RVs] at r
    obtain ⟨v, zs, rfl, r1, r2⟩ := r
    rw [List.all_cons, Bool.and_eq_true] at al
    obtain ⟨b, q⟩ := Option.isSome_iff_exists.mp al.1
    rw [List.all_cons, (eqFlat_rv r1 ry q).1, allFlat_rv ry r2 al.2]; rfl
theorem sm_index : MtR X "list.index" (rM (rc X ep) mIndex) := by
  intro pins s σ H x' vs' v us Q I rx rv ⟨as, G, x, vs, rg, hx, hv, h⟩
  unfold mIndex at h
  split at h
  · rename_i y
    split at h
    · rename_i xs q
      split at h
      · rename_i hal
        cases q2 : idxOf (fun z => eqFlat z y) xs 0 with
        | none => rw [q2] at h; exact h.elim
        | some j =>
          rw [q2] at h
          obtain ⟨w, rfl, ry⟩ := hv.one
          cases x with
          | ref i =>
            unfold asList at q
            simp only at q
            cases q3 : G[i]? with
            | none => rw [q3] at q; cases q
            | some o =>
              rw [q3] at q
              cases o with
              | lst zs =>
                cases q
                obtain ⟨a, ys, ha, rfl, h1, r1⟩ := RV.lst rg hx q3
                obtain ⟨_, z, k2, k3, k4⟩ := idxOf_rv ry r1 q2 fun m z hz => List.all_eq_true.mp hal z (List.mem_of_getElem? hz)
                have hf : flatV w = true := by
                  cases xs with
                  | nil => cases q2
                  | cons x0 xs0 =>
                    rw [List.all_cons, Bool.and_eq_true] at hal
                    obtain ⟨b, q5⟩ := Option.isSome_iff_exists.mp hal.1
                    have r1' := r1
                    rw [RVs] at r1'
                    obtain ⟨v0, zs0, _, r5, _⟩ := r1'
                    exact (eqFlat_rv r5 ry q5).2.1
                exact mt_index pins s σ H _ _ v us Q I rx rv ⟨a, ys, w, j, z, rfl, rfl, SqL.of h1, hf, allFlat_rv ry r1 hal, by simpa using k2, k3, fun m z' hm hz => k4 m z' (by omega) hz, h _ _ _ .refl rg .mkInt⟩
              | _ => cases q
          | _ => cases q
      · exact h.elim
    · exact h.elim
  · exact h.elim
/-! split, join -/
theorem splitC_join (c : Nat) : ∀ (ps : List (List Nat)), ps ≠ [] → (∀ p ∈ ps, c ∉ p) → splitC c (joinS [c] ps) = ps
  | [], h, _ => absurd rfl h
  | [p], hne, hp => by
    have hc : c ∉ p := hp p List.mem_cons_self
    show splitC c p = [p]
    clear hp hne
    induction p with
    | nil => rfl
    | cons d r ih =>
      have h1 : d ≠ c := fun e => hc (by rw [e]; exact List.mem_cons_self)
      unfold splitC
      rw [if_neg h1, ih fun z => hc (List.mem_cons_of_mem _ z)]
  | p :: q :: r, hne, hp => by
    have hc : c ∉ p := hp p List.mem_cons_self
    have ih := splitC_join c (q :: r) (by simp) fun x hx => hp x (List.mem_cons_of_mem _ hx)
    show splitC c (p ++ ([c] ++ joinS [c] (q :: r))) = _
    clear hp hne
    induction p with
    | nil =>
      show splitC c (c :: joinS [c] (q :: r)) = _
      unfold splitC
      rw [if_pos rfl, ih]
    | cons d t iht =>
      have h1 : d ≠ c := fun e => hc (by rw [e]; exact List.mem_cons_self)
      rw [List.cons_append]
      unfold splitC
      rw [if_neg h1, iht fun z => hc (List.mem_cons_of_mem _ z)]
theorem joinS_eq (sep : List Nat) : ∀ ss : List (List Nat), Str.join (mkS sep) (ss.map mkS) = mkS (joinS sep ss)
  | [] => rfl
  | [x] => rfl
  | x :: y :: r => by
    show mkS x ++ mkS sep ++ Str.join (mkS sep) ((y :: r).map mkS) = _
    rw [joinS_eq sep (y :: r), mkS_app, mkS_app]
    simp [joinS]
theorem split_eq (t : List Nat) (c : Nat) : Txt.split (mkS t) (mkS [c]) = (splitC c t).map mkS := by
  have h1 := StrLaws.join_split (mkS t) (mkS [c])
  have h2 := StrLaws.split_free (mkS t) c
  have hm : ∀ l : List Str, (l.map fun z : Str => mkS z.cps.toList) = l := fun l => by
    rw [List.map_congr_left (g := id)]
    · simp
    · intro z _
      simp [mkS]
  have hps : ((Txt.split (mkS t) (mkS [c])).map fun z : Str => z.cps.toList).map mkS = Txt.split (mkS t) (mkS [c]) := by
    rw [List.map_map]
    exact hm _
  have h3 : joinS [c] ((Txt.split (mkS t) (mkS [c])).map fun z : Str => z.cps.toList) = t := by
    rw [← hps, joinS_eq] at h1
    exact mkS_inj h1
  have ne : ((Txt.split (mkS t) (mkS [c])).map fun z : Str => z.cps.toList) ≠ [] := by
    intro e
    have := PyProof.Rows.split_pos (mkS t) (mkS [c])
    rw [List.map_eq_nil_iff] at e
    rw [e] at this
    simp at this
  have h4 := splitC_join c _ ne (fun p hp => by
    obtain ⟨z, hz, rfl⟩ := List.mem_map.mp hp
    exact h2 z hz)
  rw [h3] at h4
  rw [h4]
  exact hps.symm
theorem splitC_ok (c : Nat) : ∀ {t : List Nat}, sOk t = true → ∀ p ∈ splitC c t, sOk p = true
  | [], _, p, hp => by
    have : p = [] := by simpa [splitC] using hp
    subst this; rfl
  | d :: r, h, p, hp => by
    have hd : sOk r = true ∧ d < 1114112 := by
      unfold sOk at h ⊢
      rw [List.all_cons, Bool.and_eq_true] at h
      exact ⟨h.2, of_decide_eq_true h.1⟩
    have ih := splitC_ok c hd.1
    unfold splitC at hp
    split at hp
    · rcases List.mem_cons.mp hp with rfl | hp
      · rfl
      · exact ih p hp
    · split at hp
      · have : p = [d] := by simpa using hp
        subst this
        simpa [sOk] using hd.2
      · rename_i w ws q
        rw [q] at ih
        rcases List.mem_cons.mp hp with rfl | hp
        · have := ih w List.mem_cons_self
          unfold sOk at this ⊢
          rw [List.all_cons, this]
          simpa using hd.2
        · exact ih p (List.mem_cons_of_mem _ hp)
theorem sm_split : MtR X "str.split" (rM (rc X ep) mSplit) := by
  intro pins s σ H x' vs' v us Q I rx rv ⟨as, G, x, vs, rg, hx, hv, h⟩
  unfold mSplit at h
  split at h
  · rename_i t c
    split at h
    · rename_i hl
      obtain ⟨w, rfl, ry⟩ := hv.one
      have hx1 := hx.str
      have hy1 := ry.str
      subst hx1 hy1
      refine mt_split pins s σ H _ _ v us Q I rx rv ⟨_, _, rfl, rfl, by rw [mkS_len]; rfl, by rw [mkS_len, ← lim]; exact hl, fun p hp => ?_⟩
      rw [split_eq]
      exact h _ _ _ (Ext.new hp) (rg.new hp ⟨_, rfl, RVs.mkStrs (splitC_ok c hx.sok)⟩) (.mkRef rg.newAt)
    · exact h.elim
  · exact h.elim
theorem joinS_len (sep : List Nat) : ∀ ss : List (List Nat), ((ss.map mkS).map (·.length)).sum = (ss.map List.length).sum
  | [] => rfl
  | s :: r => by
    simp only [List.map_cons, List.sum_cons, mkS_len]
    rw [joinS_len sep r]
theorem joinS_ok {sep : List Nat} (h : sOk sep = true) : ∀ {ss : List (List Nat)}, (∀ s ∈ ss, sOk s = true) → sOk (joinS sep ss) = true
  | [], _ => rfl
  | [x], hs => hs x List.mem_cons_self
  | x :: y :: r, hs => sOk_app (hs x List.mem_cons_self) (sOk_app h (joinS_ok h fun s z => hs s (List.mem_cons_of_mem _ z)))
theorem sm_join : MtR X "str.join" (rM (rc X ep) mJoin) := by
  intro pins s σ H x' vs' v us Q I rx rv ⟨as, G, x, vs, rg, hx, hv, h⟩
  unfold mJoin at h
  split at h
  · rename_i t y
    split at h
    · rename_i xs q
      split at h
      · rename_i ss q2
        split at h
        · rename_i hl
          obtain ⟨w, rfl, ry⟩ := hv.one
          obtain ⟨a, ys, rfl, h1, r1⟩ := RV.seq rg ry q
          obtain ⟨e1, e2⟩ := r1.strs q2
          subst e1
          have hx1 := hx.str
          subst hx1
          refine mt_join pins s σ H _ _ v us Q I rx rv ⟨_, a, _, rfl, rfl, h1, ?_, ?_⟩
          · rw [joinS_len t, List.length_map, mkS_len]
            exact hl
          · show Q (.str (Builtin.Str.glued _ _)) H
            rw [StrLaws.glued_eq_join, joinS_eq]
            exact h _ _ _ .refl rg (.mkStr (joinS_ok hx.sok e2))
        · exact h.elim
      · exact h.elim
    · exact h.elim
  · exact h.elim
end
end DL
end S_Rules5
section S_Rules6
set_option Elab.async false
set_option linter.all false
set_option maxRecDepth 100000
set_option maxHeartbeats 2000000
/-! Rules6: what is walked: sequences, ranges, enumerate, zip. -/
namespace DL
open PySem PySem.Spec PyProof.Rows L2

/-! ### one sequence under an iterator of another -/
inductive Src where
  | l (a : Addr) | t (a : Addr) | s (x : Str) (k : Tok)
def Src.val : Src → Value
  | .l a => .ref a
  | .t a => .ref a
  | .s x k => .str x k
def Src.typ : Src → String
  | .l _ => "list_iterator"
  | .t _ => "tuple_iterator"
  | .s x _ => strIterType x
def Src.ob (S : Src) : Obj := { cls := .type S.typ, data := .fields #[S.val, .int 0 0] }
def Src.own (S : Src) (it : Addr) (i : Nat) (h : Heap) : Prop := ∃ o, h.get? it = some o ∧ o.cls = .type S.typ ∧ o.data = .fields #[S.val, .int i 0]
def Src.ex : Src → List Addr
  | .l a => [a]
  | .t a => [a]
  | .s _ _ => []
/-- what stands there -/
def Src.has (K : PySem.W.Frag) (H : Hp) : Src → List V → Prop
  | .l a, ys => SqL K H a ys
  | .t a, ys => SqT K H a ys
  | .s x _, ys => ys = x.cps.toList.map fun c => V.str ⟨#[c]⟩
def Src.full : Src → Array Value → Heap → Prop
  | .l a, its => fun h => h.IsList a its
  | .t a, its => fun h => h.IsTuple a its
  | .s _ _, _ => fun _ => True
theorem Src.begins (S : Src) (its : Array Value) : Begins S.val S.ob (S.full its) := by
  cases S with
  | l a => exact begins_list a its
  | t a => exact begins_tuple a its
  | s x k => exact begins_text x k
section
variable {X : Cx} {pins : List (Addr × Obj)} {σ : St} {H : Hp} {s : Shared}
theorem Src.full_of (S : Src) (I : Inv X pins σ H s) {ys : List V} (h : S.has X.K H ys) : ∃ its, S.full its s.heap ∧ ∀ b ∈ S.ex, b < s.heap.objs.size := by
  cases S with
  | l a =>
    obtain ⟨its, rv, p, hz⟩ := I.list h
    exact ⟨its.toArray, p.isList, fun b hb => by rw [List.mem_singleton.mp hb]; exact p.lt⟩
  | t a =>
    obtain ⟨its, rv, p, hz⟩ := I.tuple h
    obtain ⟨o, ho, _⟩ := id p
    exact ⟨its.toArray, p, fun b hb => by rw [List.mem_singleton.mp hb]; exact Heap.lt_size ho⟩
  | s x k => exact ⟨#[], trivial, fun b hb => nomatch hb⟩
/-- what its iterator draws, in a state where it stands -/
theorem Src.draws (S : Src) {A : Around} (I : Inv X pins σ H s) (hh : A.handled = none) {ys : List V} (ha : S.has X.K H ys) (it : Addr) (hne : it ∉ S.ex) {i : Nat} (st : S.own it i s.heap) :
    ∃ (P : Nat → Value → Prop) (T : Nat → Heap → Prop), Draws X.prog X.w A it (it :: S.ex) ys.length P T ∧ T i s.heap ∧ (∀ j v, P j v → ∃ y, ys[j]? = some y ∧ RelV y v) ∧ ∀ j h, T j h → S.own it j h := by
  cases S with
  | l a =>
    obtain ⟨its, rv, p, hz⟩ := I.list ha
    have hl : ys.length = its.toArray.size := by simpa using rv.length
    refine ⟨_, _, hl ▸ Draws.list hh it a (fun e => hne (by simp [Src.ex, e])) its.toArray, ⟨st, p.isList⟩, fun j v hv => ?_, fun j h q => q.1⟩
    have hj : j < ys.length := by rw [hl]; exact (Array.getElem?_eq_some_iff.mp hv).1
    obtain ⟨u, hu, ru⟩ := rv.get (List.getElem?_eq_getElem hj)
    have e : some v = some u := by rw [← hv, ← hu]; simp
    exact ⟨_, List.getElem?_eq_getElem hj, (Option.some.inj e) ▸ ru⟩
  | t a =>
    obtain ⟨its, rv, p, hz⟩ := I.tuple ha
    have hl : ys.length = its.toArray.size := by simpa using rv.length
    refine ⟨_, _, hl ▸ Draws.tuple hh it a (fun e => hne (by simp [Src.ex, e])) its.toArray, ⟨st, p⟩, fun j v hv => ?_, fun j h q => q.1⟩
    have hj : j < ys.length := by rw [hl]; exact (Array.getElem?_eq_some_iff.mp hv).1
    obtain ⟨u, hu, ru⟩ := rv.get (List.getElem?_eq_getElem hj)
    have e : some v = some u := by rw [← hv, ← hu]; simp
    exact ⟨_, List.getElem?_eq_getElem hj, (Option.some.inj e) ▸ ru⟩
  | s x k =>
    obtain rfl : ys = _ := ha
    have hl : (x.cps.toList.map fun c => V.str ⟨#[c]⟩).length = x.cps.size := by simp
    rw [hl]
    refine ⟨_, _, Draws.text hh it x k, st, fun j v hv => ?_, fun j h q => q⟩
    obtain ⟨c, u, hc, rfl⟩ := hv
    exact ⟨.str ⟨#[c]⟩, by simp [hc], ⟨u, rfl⟩⟩
theorem Src.own.at {S : Src} {it : Addr} {i : Nat} {h h' : Heap} (st : S.own it i h) (k : ∀ o, h.get? it = some o → h'.get? it = some o) : S.own it i h' := let ⟨o, ho, r⟩ := st; ⟨o, k o ho, r⟩
theorem Src.has_inj {S : Src} (I : Inv X pins σ H s) {xs ys : List V} (h : S.has X.K H xs) (h' : S.has X.K H ys) : xs = ys := by
  cases S with
  | l a => exact I.list_inj h h'
  | t a => exact I.tuple_inj h h'
  | s x k => exact Eq.trans h (Eq.symm h')
end
/-- the items at S in new pairs with their numbers -/
def ItE (K : PySem.W.Frag) (S : Src) : It :=
  ⟨fun i H => ∃ (ys : List V) (y : V), S.has K H ys ∧ ys[i]? = some y, fun i H v H' => ∃ T y, v = .ref T ∧ H T = none ∧ H' = upd H T (.tup [.int (i : Nat), y]) ∧ ∀ ys, S.has K H ys → ys[i]? = some y, fun i H => ∃ ys : List V, S.has K H ys ∧ ys.length = i⟩
theorem turn_E {P : Program} {w : World} {K : PySem.W.Frag} {elts : List Expr} {kk : Nat} {tpos : Pos} (S : Src) (e it : Addr) (hei : e ≠ it) (hef : e ∉ S.ex) (hif : it ∉ S.ex) :
    Turn P w K (.Tuple elts kk tpos) (ItE K S) [e, it] e (fun i h => (∃ old, IsEnum h e it ((i : Nat) : Int) old) ∧ S.own it i h) where
  mem := List.mem_cons_self ..
  obj := fun i h ⟨⟨old, he⟩, ⟨o, ho, hc, hd⟩⟩ b hb => by
    have q : b = e ∨ b = it := by simpa using hb
    rcases q with q | q
    · subst q; exact ⟨_, he, fun _ z => nomatch z⟩
    · subst q; exact ⟨o, ho, fun v z => by rw [hd] at z; cases z⟩
  keep := fun i h h' ⟨⟨old, he⟩, ho⟩ k => ⟨⟨old, k e (by simp) _ he⟩, ho.at fun o z => k it (by simp) o z⟩
  item := by
    rintro X rfl rfl rfl hc i pins s σ H E I hf ⟨⟨old, he⟩, ho⟩ ⟨ys, y, hq, hy⟩
    obtain ⟨Pd, T, D, st, hP, hT⟩ := S.draws (A := X.A.in1) I (I.ok.hd hc) hq it hif ho
    have W := WalksT.enumFrom 0 D e hei (fun z => (List.mem_cons.mp z).elim hei hef) (List.mem_cons_self ..)
    have hlt : i < ys.length := (List.getElem?_eq_some_iff.mp hy).1
    refine W.item i s _ _ hlt ⟨⟨old, by rw [Int.zero_add]; exact he⟩, st⟩ fun Tn vals h1 tk ⟨t, x, px, ev⟩ hsz htup hmid hk => ?_
    subst ev
    refine ⟨_, rfl, W.go elts kk tpos i Tn { s with heap := h1, toks := tk } _ _ hmid fun h2 st2 hk2 => ?_⟩
    obtain ⟨y2, hy2, ry⟩ := hP i x px
    rw [hy] at hy2
    cases hy2
    have hn : H Tn = none := I.hok.fresh hsz
    have ht2 : IsTup h2 Tn #[.int (0 + (i : Int)) t, x] := htup.at fun o z => hk2 Tn o (W.apart i Tn _ hmid) z
    have new : ObjOk X.prog X.w (upd H Tn (.tup [.int (i : Nat), y])) h2 Tn (.tup [.int (i : Nat), y]) :=
      ⟨by show 2 ≤ sizeLine; decide, [.int (0 + (i : Int)) t, x], .cons ⟨t, by rw [Int.zero_add]⟩ (.cons ry .nil), ht2⟩
    have I1 : Inv X pins σ (upd H Tn (.tup [.int (i : Nat), y])) { s with heap := h2, toks := tk } := I.turnedNew (ch := [e, it]) (fun b o hb z => hk2 b o hb (hk b o hb z)) hf hsz new
    obtain ⟨⟨old2, he2⟩, st2'⟩ := st2
    refine ⟨.ref Tn, _, I1, rfl, ⟨Tn, y, rfl, hn, rfl, fun zs hz => by rw [Src.has_inj I hz hq]; exact hy⟩, ⟨⟨old2, by rw [Int.zero_add] at he2; exact he2⟩, hT _ _ st2'⟩, fun b hb => ?_⟩
    have hb' : b < s.heap.objs.size := by
      have q : b = e ∨ b = it := by simpa using hb
      rcases q with q | q
      · subst q; exact Heap.lt_size he
      · subst q; obtain ⟨o, z, _⟩ := ho; exact Heap.lt_size z
    rw [upd_ne (Nat.ne_of_lt (Nat.lt_of_lt_of_le hb' hsz))]
    exact (hf b hb).1
  done := by
    rintro X rfl rfl rfl hc i pins s σ H E I hf ⟨⟨old, he⟩, ho⟩ ⟨ys, hq, hi⟩
    obtain ⟨Pd, T, D, st, hP, hT⟩ := S.draws (A := X.A.in1) I (I.ok.hd hc) hq it hif ho
    have W := WalksT.enumFrom 0 D e hei (fun z => (List.mem_cons.mp z).elim hei hef) (List.mem_cons_self ..)
    subst hi
    exact W.done s _ _ ⟨⟨old, by rw [Int.zero_add]; exact he⟩, st⟩ fun h' tk hk => ⟨rfl, I.turnedL (ch := [e, it]) hk hf⟩
  self := fun A i s Q E ⟨⟨_, he⟩, _⟩ h => wpAny_pyIter_enum he h

/-- the items at S1 and S2 in new pairs -/
def ItP (K : PySem.W.Frag) (S1 S2 : Src) : It :=
  ⟨fun i H => ∃ (xs ys : List V) (x y : V), S1.has K H xs ∧ S2.has K H ys ∧ xs[i]? = some x ∧ ys[i]? = some y,
    fun i H v H' => ∃ T x y, v = .ref T ∧ H T = none ∧ H' = upd H T (.tup [x, y]) ∧ (∀ xs, S1.has K H xs → xs[i]? = some x) ∧ ∀ ys, S2.has K H ys → ys[i]? = some y,
    fun i H => ∃ xs ys : List V, S1.has K H xs ∧ S2.has K H ys ∧ i = min xs.length ys.length⟩
theorem turn_P {P : Program} {w : World} {K : PySem.W.Frag} {elts : List Expr} {kk : Nat} {tpos : Pos} (S1 S2 : Src) {z TI TO i1 i2 : Addr} (Z : ZipSep2 z TI TO i1 i2 (i1 :: S1.ex) (i2 :: S2.ex)) (n1 : i1 ∉ S1.ex) (n2 : i2 ∉ S2.ex) :
    Turn P w K (.Tuple elts kk tpos) (ItP K S1 S2) [z, TI, TO, i1, i2] z (fun i h => IsZip h z TI TO .none ∧ IsTupOf2 h TI (.ref i1) (.ref i2) ∧ (∃ a b, IsTupOf2 h TO a b) ∧ S1.own i1 i h ∧ S2.own i2 i h) where
  mem := List.mem_cons_self ..
  obj := fun i h ⟨hz, hI, ⟨a, b, hO⟩, ⟨o1, e1, _, d1⟩, ⟨o2, e2, _, d2⟩⟩ c hc => by
    have q : c = z ∨ c = TI ∨ c = TO ∨ c = i1 ∨ c = i2 := by simpa using hc
    rcases q with q | q | q | q | q <;> subst q
    · exact ⟨_, hz, fun _ z => nomatch z⟩
    · exact ⟨_, hI, fun _ z => nomatch z⟩
    · exact ⟨_, hO, fun _ z => nomatch z⟩
    · exact ⟨o1, e1, fun v z => by rw [d1] at z; cases z⟩
    · exact ⟨o2, e2, fun v z => by rw [d2] at z; cases z⟩
  keep := fun i h h' ⟨hz, hI, ⟨a, b, hO⟩, h1, h2⟩ k => ⟨k z (by simp) _ hz, k TI (by simp) _ hI, ⟨a, b, k TO (by simp) _ hO⟩, h1.at fun o q => k i1 (by simp) o q, h2.at fun o q => k i2 (by simp) o q⟩
  item := by
    rintro X rfl rfl rfl hc i pins s σ H E I hf ⟨hz, hI, ⟨a, b, hO⟩, h1, h2⟩ ⟨xs, ys, x, y, hqx, hqy, hx, hy⟩
    obtain ⟨P1, T1, D1, st1, hP1, hT1⟩ := S1.draws (A := X.A.in1) I (I.ok.hd hc) hqx i1 n1 h1
    obtain ⟨P2, T2, D2, st2, hP2, hT2⟩ := S2.draws (A := X.A.in1) I (I.ok.hd hc) hqy i2 n2 h2
    have W := WalksT.zipD2 Z D1 D2
    have l1 : i < xs.length := (List.getElem?_eq_some_iff.mp hx).1
    have l2 : i < ys.length := (List.getElem?_eq_some_iff.mp hy).1
    refine W.item i s _ _ (Nat.lt_min.mpr ⟨l1, l2⟩) ⟨hz, hI, ⟨a, b, hO⟩, st1, st2⟩ fun Tn vals g1 tk ⟨u1, u2, p1, p2, ev⟩ hsz htup hmid hk => ?_
    subst ev
    refine ⟨_, rfl, W.go elts kk tpos i Tn { s with heap := g1, toks := tk } _ _ hmid fun g2 st3 hk2 => ?_⟩
    obtain ⟨x2, hx2, rx⟩ := hP1 i u1 p1
    obtain ⟨y2, hy2, ry⟩ := hP2 i u2 p2
    rw [hx] at hx2
    rw [hy] at hy2
    cases hx2
    cases hy2
    have hn : H Tn = none := I.hok.fresh hsz
    have ht2 : IsTup g2 Tn #[u1, u2] := htup.at fun o q => hk2 Tn o (W.apart i Tn _ hmid) q
    have new : ObjOk X.prog X.w (upd H Tn (.tup [x, y])) g2 Tn (.tup [x, y]) := ⟨by show 2 ≤ sizeLine; decide, [u1, u2], .cons rx (.cons ry .nil), ht2⟩
    have hw : ∀ c, c ∈ [z, TO, i1, i2] → c ∈ [z, TI, TO, i1, i2] := fun c hm => by
      have q : c = z ∨ c = TO ∨ c = i1 ∨ c = i2 := by simpa using hm
      rcases q with q | q | q | q <;> simp [q]
    have I1 : Inv X pins σ (upd H Tn (.tup [x, y])) { s with heap := g2, toks := tk } := I.turnedNew (ch := [z, TI, TO, i1, i2]) (fun c o hb q => hk2 c o (fun m => hb (hw c m)) (hk c o (fun m => hb (hw c m)) q)) hf hsz new
    obtain ⟨hz3, hI3, hO3, st31, st32⟩ := st3
    refine ⟨.ref Tn, _, I1, rfl, ⟨Tn, x, y, rfl, hn, rfl, fun zs q => by rw [Src.has_inj I q hqx]; exact hx, fun zs q => by rw [Src.has_inj I q hqy]; exact hy⟩, ⟨hz3, hI3, hO3, hT1 _ _ st31, hT2 _ _ st32⟩, fun c hcm => ?_⟩
    have hlt : c < s.heap.objs.size := by
      have q : c = z ∨ c = TI ∨ c = TO ∨ c = i1 ∨ c = i2 := by simpa using hcm
      rcases q with q | q | q | q | q <;> subst q
      · exact Heap.lt_size hz
      · exact Heap.lt_size hI
      · exact Heap.lt_size hO
      · obtain ⟨o, q, _⟩ := h1; exact Heap.lt_size q
      · obtain ⟨o, q, _⟩ := h2; exact Heap.lt_size q
    rw [upd_ne (Nat.ne_of_lt (Nat.lt_of_lt_of_le hlt hsz))]
    exact (hf c hcm).1
  done := by
    rintro X rfl rfl rfl hc i pins s σ H E I hf ⟨hz, hI, ⟨a, b, hO⟩, h1, h2⟩ ⟨xs, ys, hqx, hqy, hi⟩
    obtain ⟨P1, T1, D1, st1, hP1, hT1⟩ := S1.draws (A := X.A.in1) I (I.ok.hd hc) hqx i1 n1 h1
    obtain ⟨P2, T2, D2, st2, hP2, hT2⟩ := S2.draws (A := X.A.in1) I (I.ok.hd hc) hqy i2 n2 h2
    have W := WalksT.zipD2 Z D1 D2
    subst hi
    refine W.done s _ _ ⟨hz, hI, ⟨a, b, hO⟩, st1, st2⟩ fun h' tk hk => ⟨rfl, I.turnedL (ch := [z, TI, TO, i1, i2]) (fun c o hb q => hk c o (fun m => hb ?_) q) hf⟩
    have q : c = z ∨ c = TO ∨ c = i1 ∨ c = i2 := by simpa using m
    rcases q with q | q | q | q <;> simp [q]
  self := fun A i s Q E st h => wpAny_pyIter_zip st.1 h

/-! ### enumerate of one thing -/
theorem meets_enum1 {v : Value} {o : Obj} {F : Heap → Prop} (B : Begins v o F) :
    Meets (Builtin.«enumerate.__new__» ⟨[.type "enumerate", v], []⟩) (fun _ R s => F s.heap ∧
      R (.ok (.ret (.ref (s.heap.push o).objs.size))) { s with heap := (s.heap.push o).push { cls := .type "enumerate", data := .fields #[.none, .bool false, .ref s.heap.objs.size, rawInt 0, .none, .none] } }) :=
  .of_wp fun prog w A R s h => by
    obtain ⟨hp, gn, dr, tk, os⟩ := s
    obtain ⟨h1, h⟩ := h
    have hsub := sub_enumerate
    have q1 : ∀ {A' : Around} {E : Value → Shared → Prop} {Q : Value → Shared → Prop}, Q (.ref hp.objs.size) ⟨hp.push o, gn, dr, tk, os⟩ → wpAny (model prog w) A' (pyIter v) Q E ⟨hp, gn, dr, tk, os⟩ := fun q => B.iter prog w _ _ ⟨hp, gn, dr, tk, os⟩ _ h1 q
    wp_walk using q1
    refine wpAny_stack_any fun st => wpAny_pure ?_
    split
    · rename_i c _ _ _ _ _
      cases (c == Value.type "enumerate") <;> (wp_walk using q1; exact ⟨_, rfl, h⟩)
    · wp_walk using q1
      exact ⟨_, rfl, h⟩
theorem enum1 {prog : Program} {w : World} {A : Around} {E : Value → Shared → Prop} {s : Shared} {v : Value} {o : Obj} {Fh : Heap → Prop} {Q : Value → Shared → Prop} (B : Begins v o Fh) (h1 : Fh s.heap)
    (h : ∀ h', IsEnum h' (s.heap.objs.size + 1) s.heap.objs.size 0 .none → h'.get? s.heap.objs.size = some o → (∀ b o, s.heap.get? b = some o → h'.get? b = some o) → Q (.ref (s.heap.objs.size + 1)) { s with heap := h' }) :
    wpAny (model prog w) A (call (.type "enumerate") [v]) Q E s := by
  refine callType_new F.called_enumerate (by decide) (F.typeCall_enumerate_1 _) (F.newCall_enumerate_1 _) (fun obj => F.args_object_init_2 obj _) F.entry_enumerate_new (meets_enum1 B) ⟨h1, ?_⟩
  have hz : (s.heap.push o).objs.size = s.heap.objs.size + 1 := Heap.size_push ..
  show _ ∧ _
  rw [hz]
  have he : IsEnum ((s.heap.push o).push { cls := .type "enumerate", data := .fields #[.none, .bool false, .ref s.heap.objs.size, rawInt 0, .none, .none] }) (s.heap.objs.size + 1) s.heap.objs.size 0 .none := by
    have q := Heap.get?_push_size (s.heap.push o) (o := { cls := .type "enumerate", data := .fields #[.none, .bool false, .ref s.heap.objs.size, rawInt 0, .none, .none] }) rfl
    rwa [hz] at q
  exact ⟨⟨_, he, rfl⟩, h _ he (Heap.get?_push_of_some _ (Heap.get?_push_size _ B.free)) fun b o x => Heap.get?_push_of_some _ (Heap.get?_push_of_some _ x)⟩

/-! ### items by values -/
/-- J serves the items xs, as long as what is checked stands -/
def Serves (C : RC) (as0 : List Addr) (H0 : Hp) (J : It) (xs : List VV) (chk : List (Nat × VO)) : Prop :=
  ∀ (i : Nat) (as : List Addr) (G : Hv) (H : Hp), Ext as0 H0 as H → RelG C as G H → stays G chk = true → i ≤ xs.length → match xs[i]? with
    | some x => J.go i H ∧ ∀ v H', J.yld i H v H' → Ext as H as H' ∧ RelG C as G H' ∧ RV C as H' x v
    | none => J.stop i H
def RI (C : RC) : List Addr → Hp → List VV × List (Nat × VO) → It → Prop := fun as H p J => Serves C as H J p.1 p.2
abbrev SndI (X : Cx) (ep : List (Addr × Obj)) (W : WX) (tg e : Expr) (d : DI) : Prop := PI X tg e (tD (rc X ep) W (RI (rc X ep)) d)
theorem stays_append (G : Hv) (b : List (Nat × VO)) : ∀ a : List (Nat × VO), stays G (a ++ b) = (stays G a && stays G b)
  | [] => rfl
  | (i, o) :: r => by
    show (decide (G[i]? = some o) && stays G (r ++ b)) = _
    rw [stays_append G b r, stays, Bool.and_assoc]
/-- the source of a sequence's items -/
theorem src_of {C : RC} {as : List Addr} {G : Hv} {H : Hp} {x : VV} {v : V} {u : Value} {p : List VV × List (Nat × VO)} (rg : RelG C as G H) (rx : RV C as H x v) (e : seqOf G x = some p) (ru : RelV v u) :
    ∃ S : Src, S.val = u ∧ (∃ ys, S.has C.K H ys) ∧ (∀ i, x = .ref i → ∃ a, S = .l a) ∧ ∀ as1 G1 H1, Ext as H as1 H1 → RelG C as1 G1 H1 → stays G1 p.2 = true → ∃ ys, S.has C.K H1 ys ∧ RVs C as1 H1 p.1 ys := by
  have lst : ∀ (i : Nat) (o : VO) (xs : List VV), (o = .lst xs ∨ o = .flst xs) → G[i]? = some o → x = .ref i → p = (xs, [(i, o)]) → ∃ S : Src, S.val = u ∧ (∃ ys, S.has C.K H ys) ∧ (∀ i, x = .ref i → ∃ a, S = .l a) ∧ ∀ as1 G1 H1, Ext as H as1 H1 → RelG C as1 G1 H1 → stays G1 p.2 = true → ∃ ys, S.has C.K H1 ys ∧ RVs C as1 H1 p.1 ys := fun i o xs ho hg ex ep => by
    subst ex
    obtain ⟨a, ha, hv⟩ := rx.ref
    subst hv
    have go : ∀ as1 G1 H1, Ext as H as1 H1 → RelG C as1 G1 H1 → G1[i]? = some o → ∃ ys, SqL C.K H1 a ys ∧ RVs C as1 H1 xs ys := fun as1 G1 H1 e1 rg1 h => by
      obtain ⟨hob, h1, h2⟩ := rg1.at h (e1.at ha)
      rcases ho with ho | ho
      · subst ho
        obtain ⟨ys, h3, h4⟩ := h2
        exact ⟨ys, SqL.of (h3 ▸ h1), h4⟩
      · subst ho
        obtain ⟨ob, ys, h3, h4⟩ := h2
        exact ⟨ys, .inl (.inr ⟨ob, h3 ▸ h1⟩), h4⟩
    refine ⟨.l a, ?_, (go as G H .refl rg hg).imp fun ys q => q.1, fun _ _ => ⟨a, rfl⟩, fun as1 G1 H1 e1 rg1 hs => ?_⟩
    · cases ru; rfl
    · rw [ep] at hs ⊢
      simp only [stays, Bool.and_true, decide_eq_true_eq] at hs
      exact go as1 G1 H1 e1 rg1 hs
  cases x with
  | tup xs =>
    cases e
    obtain ⟨a, ys, hv, ht, hr⟩ := rx.tup
    subst hv
    refine ⟨.t a, ?_, ⟨ys, ht.sq⟩, (fun _ z => nomatch z), fun as1 G1 H1 e1 rg1 hs => ⟨ys, (ht.mono e1.tup).sq, hr.mono e1⟩⟩
    cases ru; rfl
  | str t =>
    cases e
    have hv := rx.str
    have hok := rx.sok
    subst hv
    obtain ⟨k, rfl⟩ := ru
    refine ⟨.s (mkS t) k, rfl, ⟨_, rfl⟩, (fun _ z => nomatch z), fun as1 G1 H1 e1 rg1 hs => ⟨_, rfl, ?_⟩⟩
    have go : ∀ l : List Nat, sOk l = true → RVs C as1 H1 (l.map fun c => VV.str [c]) (l.map fun c => V.str ⟨#[c]⟩) := fun l => by
      induction l with
      | nil => exact fun _ => .nil
      | cons c r ih =>
        intro h
        have h' : decide (c < 1114112) = true ∧ sOk r = true := by simpa [sOk] using h
        exact .cons (.mkStr (by simpa [sOk] using h'.1)) (ih h'.2)
    exact go t hok
  | ref i =>
    unfold seqOf at e
    simp only at e
    cases q : G[i]? with
    | none => rw [q] at e; cases e
    | some o =>
      rw [q] at e
      cases o with
      | lst xs => exact lst i _ xs (.inl rfl) q rfl (Option.some.inj e).symm
      | flst xs => exact lst i _ xs (.inr rfl) q rfl (Option.some.inj e).symm
      | dic _ => cases e
      | ins _ _ => cases e
  | _ => cases e
section
variable {X : Cx} {ep : List (Addr × Obj)} {W : WX} {tg e : Expr} {d : DE} {p pos : Pos}
theorem serves_seq {C : RC} {as : List Addr} {H : Hp} {J : It} {q : List VV × List (Nat × VO)} {has : Hp → List V → Prop} (hs : ∀ as1 G1 H1, Ext as H as1 H1 → RelG C as1 G1 H1 → stays G1 q.2 = true → ∃ ys, has H1 ys ∧ RVs C as1 H1 q.1 ys)
    (go : ∀ i H ys y, has H ys → ys[i]? = some y → J.go i H) (st : ∀ i H ys, has H ys → ys.length ≤ i → J.stop i H) (yl : ∀ i H v H', J.yld i H v H' → H' = H ∧ ∀ ys, has H ys → ys[i]? = some v) : Serves C as H J q.1 q.2 := by
  intro i as1 G1 H1 e1 rg1 h1 hi
  obtain ⟨ys, hy, r⟩ := hs as1 G1 H1 e1 rg1 h1
  cases hx : q.1[i]? with
  | none => exact st i H1 ys hy (by rw [← r.length]; exact List.getElem?_eq_none_iff.mp hx)
  | some x =>
    obtain ⟨y, hyi, ry⟩ := r.get hx
    refine ⟨go i H1 ys y hy hyi, fun v H' hyl => ?_⟩
    obtain ⟨rfl, hv⟩ := yl i H1 v H' hyl
    have := hv ys hy
    rw [hyi] at this
    cases this
    exact ⟨.refl, rg1, ry⟩
theorem Its_yld {x : Str} {i : Nat} {H : Hp} {v : V} {H' : Hp} (h : (Its x).yld i H v H') : H' = H ∧ (x.cps.toList.map fun c => V.str ⟨#[c]⟩)[i]? = some v := by
  obtain ⟨h1, c, hc, hv⟩ := h
  exact ⟨h1, by simp [hc, hv]⟩
theorem si_seq (hd : SndE X ep W e d) : SndI X ep W tg e (iSeq d) := by
  refine ⟨fun pins s σ H R I h => ?_⟩
  obtain ⟨as, G, S, rg, rs, h⟩ := h
  cases q : d S G with
  | bad => unfold iSeq at h; rw [q] at h; exact h.elim
  | exn y G1 =>
    unfold iSeq at h
    rw [q] at h
    refine (pi_list hd).run pins s σ H R I ⟨as, G, S, rg, rs, ?_⟩
    rw [q]
    exact h
  | ok x G1 =>
    have h : tR (rc X ep) W (RI (rc X ep)) (ofP (seqOf G1 x) G1) as H σ R := by
      unfold iSeq at h
      rw [q] at h
      exact h
    cases z : seqOf G1 x with
    | none => rw [z] at h; exact h.elim
    | some pr =>
      rw [z] at h
      have key : ∀ as1 H1 v, Ext as H as1 H1 → RelG (rc X ep) as1 G1 H1 → RV (rc X ep) as1 H1 x v → ∀ u, RelV v u → ∃ S : Src, S.val = u ∧ (∃ ys, S.has X.K H1 ys) ∧ (∀ i, x = .ref i → ∃ a, S = .l a) ∧ ∀ as2 G2 H2, Ext as1 H1 as2 H2 → RelG (rc X ep) as2 G2 H2 → stays G2 pr.2 = true → ∃ ys, S.has X.K H2 ys ∧ RVs (rc X ep) as2 H2 pr.1 ys :=
        fun as1 H1 v e1 rg1 rx u ru => src_of rg1 rx z ru
      cases x with
      | tup xs =>
        refine (pi_tup hd).run pins s σ H R I ⟨as, G, S, rg, rs, ?_⟩
        rw [q]
        intro as1 H1 v e1 rg1 rx
        obtain ⟨a, ys, hv, ht, hr⟩ := RV.tup rx
        obtain ⟨Sc, hS, _, _, hs⟩ := key as1 H1 v e1 rg1 rx (.ref a) (hv ▸ rfl)
        refine ⟨a, hv, ⟨ys, ht.sq⟩, h as1 H1 _ e1 rg1 ?_⟩
        cases z
        exact serves_seq (has := fun H ys => SqT X.K H a ys) (fun as2 G2 H2 e2 rg2 _ => ⟨ys, (ht.mono e2.tup).sq, hr.mono e2⟩) (fun i H ys y a b => ⟨ys, y, a, b⟩) (fun i H ys a b => ⟨ys, a, b⟩) fun i H v H' y => y
      | str t =>
        refine (pi_str hd).run pins s σ H R I ⟨as, G, S, rg, rs, ?_⟩
        rw [q]
        intro as1 H1 v e1 rg1 rx
        obtain ⟨Sc, hS, _, _, hs⟩ := key as1 H1 v e1 rg1 rx (.str (mkS t) 0) (RV.str rx ▸ ⟨0, rfl⟩)
        refine ⟨mkS t, RV.str rx, h as1 H1 _ e1 rg1 ?_⟩
        cases Sc with
        | s y k =>
          cases hS
          refine serves_seq (has := fun _ ys => ys = (mkS t).cps.toList.map fun c => V.str ⟨#[c]⟩) (fun as2 G2 H2 e2 rg2 w => hs as2 G2 H2 e2 rg2 w) (fun i H ys y a b => ?_) (fun i H ys a b => ?_) fun i H v H' y => ?_
          · subst a
            have := (List.getElem?_eq_some_iff.mp b).1
            show i < (mkS t).cps.size
            simpa using this
          · subst a
            show (mkS t).cps.size ≤ i
            simpa using b
          · obtain ⟨h1, h2⟩ := Its_yld y
            exact ⟨h1, fun ys hy => hy ▸ h2⟩
        | l a => cases hS
        | t a => cases hS
      | ref i =>
        refine (pi_list hd).run pins s σ H R I ⟨as, G, S, rg, rs, ?_⟩
        rw [q]
        intro as1 H1 v e1 rg1 rx
        obtain ⟨a, ha, hv⟩ := RV.ref rx
        obtain ⟨Sc, hS, hy0, hl, hs⟩ := key as1 H1 v e1 rg1 rx (.ref a) (hv ▸ rfl)
        obtain ⟨b, rfl⟩ := hl i rfl
        cases hS
        refine ⟨a, hv, hy0, h as1 H1 _ e1 rg1 ?_⟩
        exact serves_seq (has := fun H ys => SqL X.K H a ys) hs (fun i H ys y a b => ⟨ys, y, a, b⟩) (fun i H ys a b => ⟨ys, a, b⟩) fun i H v H' y => y
      | _ => cases z
theorem mid_ok {i : Int} (h : mid i = true) : -(2 ^ 62) ≤ i ∧ i < 2 ^ 62 := by
  have := Nat.le_of_ble_eq_true h
  omega
theorem serves_range {C : RC} {as : List Addr} {H : Hp} {chk : List (Nat × VO)} : ∀ (n : Nat) (lo : Int), Serves C as H (Itr lo n) (upTo lo n) chk := by
  have len : ∀ (n : Nat) (lo : Int), (upTo lo n).length = n := fun n => by
    induction n with
    | zero => exact fun _ => rfl
    | succ n ih => exact fun lo => by rw [upTo, List.length_cons, ih]
  have get : ∀ (n : Nat) (lo : Int) (i : Nat), i < n → (upTo lo n)[i]? = some (.int (lo + i)) := fun n => by
    induction n with
    | zero => exact fun _ _ h => absurd h (Nat.not_lt_zero _)
    | succ n ih =>
      intro lo i h
      cases i with
      | zero => simp [upTo]
      | succ i =>
        rw [upTo, List.getElem?_cons_succ, ih (lo + 1) i (by omega)]
        congr 2
        omega
  intro n lo i as1 G1 H1 e1 rg1 _ hi
  rw [len] at hi
  by_cases h : i < n
  · rw [get n lo i h]
    refine ⟨h, fun v H' y => ?_⟩
    obtain ⟨rfl, rfl⟩ := y
    exact ⟨.refl, rg1, .mkInt⟩
  · have hz : (upTo lo n)[i]? = none := List.getElem?_eq_none (by rw [len]; omega)
    rw [hz]
    show n ≤ i
    omega
/-- an answer by values, of arguments -/
theorem ti_args {C : RC} {W : WX} {dA : DA} {f : Hv → List VV → Option (List VV × List (Nat × VO))} {σ : St} {H : Hp} {R : It → Hp → Prop} {Q : List V → Hp → Prop} (h : tD C W (RI C) (fun S G => (dA S G).bind fun vs G1 => ofP (f G1 vs) G1) σ H R)
    (k : ∀ as1 G1 H1 vs vs' p, RelG C as1 G1 H1 → RVs C as1 H1 vs vs' → f G1 vs = some p → (∀ J, Serves C as1 H1 J p.1 p.2 → R J H1) → Q vs' H1) : tDA C W dA σ H Q := by
  obtain ⟨as, G, S, rg, rs, h⟩ := h
  refine tD.bind rg rs h fun vs G1 as1 H1 vs' e1 rg1 rs1 rv h1 => ?_
  cases e : f G1 vs with
  | none => rw [e] at h1; exact h1.elim
  | some p =>
    rw [e] at h1
    exact k as1 G1 H1 vs vs' p rg1 rv e fun J hJ => h1 as1 H1 J .refl rg1 hJ
theorem si_range1 {a : Expr} {dA : DA} (ha : SndA X ep W [a] dA) (hg : Gl X "range") (hm : X.mg "range" = none) (hs : starEach [a] X.env = [(false, eval a X.env)] := by rfl) : SndI X ep W tg (.Call (.Name "range" p) [a] [] pos) (iRange1 dA) := by
  refine ⟨fun pins s σ H R I h => (pi_range1 hg hm ha hs).run pins s σ H R I (ti_args (f := fun _ => rangeOf1) h fun as1 G1 H1 vs vs' pr rg1 rv e k => ?_)⟩
  unfold rangeOf1 at e
  split at e
  · rename_i j
    split at e
    · rename_i hj
      cases e
      obtain ⟨v, rfl, rj⟩ := rv.one
      exact ⟨j, by rw [rj.int], (mid_ok hj).1, (mid_ok hj).2, k _ (serves_range _ _)⟩
    · cases e
  · cases e
theorem si_range2 {a b : Expr} {dA : DA} (ha : SndA X ep W [a, b] dA) (hg : Gl X "range") (hm : X.mg "range" = none) (hs : starEach [a, b] X.env = [(false, eval a X.env), (false, eval b X.env)] := by rfl) (hs2 : starEach [b] X.env = [(false, eval b X.env)] := by rfl) :
    SndI X ep W tg (.Call (.Name "range" p) [a, b] [] pos) (iRange2 dA) := by
  refine ⟨fun pins s σ H R I h => (pi_range2 hg hm ha hs hs2).run pins s σ H R I (ti_args (f := fun _ => rangeOf2) h fun as1 G1 H1 vs vs' pr rg1 rv e k => ?_)⟩
  unfold rangeOf2 at e
  split at e
  · rename_i i j
    split at e
    · rename_i hj
      cases e
      obtain ⟨v, u, rfl, r1, r2⟩ := rv.two
      exact ⟨i, j, by rw [r1.int, r2.int], ⟨(mid_ok hj.1).1, (mid_ok hj.1).2, (mid_ok hj.2).1, (mid_ok hj.2).2⟩, k _ (serves_range _ _)⟩
    · cases e
  · cases e
/-- a new pair is laid -/
theorem pair_new {C : RC} {as : List Addr} {G : Hv} {H : Hp} {x y : VV} {u v : V} {T : Addr} (rg : RelG C as G H) (hT : H T = none) (rx : RV C as H x u) (ry : RV C as H y v) : Ext as H as (L2.upd H T (.tup [u, v])) ∧ RelG C as G (L2.upd H T (.tup [u, v])) ∧ RV C as (L2.upd H T (.tup [u, v])) (.tup [x, y]) (.ref T) := by
  have e : Ext as H as (L2.upd H T (.tup [u, v])) := Ext.side hT
  exact ⟨e, rg.side hT, .mkTup (.inl upd_same) (.cons (rx.mono e) (.cons (ry.mono e) .nil))⟩
theorem num_get : ∀ (xs : List VV) (n : Int) (i : Nat), (num n xs)[i]? = xs[i]?.map fun x => .tup [.int (n + i), x]
  | [], _, i => by simp [num]
  | x :: xs, n, 0 => by simp [num]
  | x :: xs, n, i + 1 => by
    rw [num, List.getElem?_cons_succ, List.getElem?_cons_succ, num_get xs (n + 1) i]
    have e : n + 1 + (i : Int) = n + ((i + 1 : Nat) : Int) := by omega
    rw [e]
theorem num_len : ∀ (xs : List VV) (n : Int), (num n xs).length = xs.length
  | [], _ => rfl
  | x :: xs, n => by rw [num, List.length_cons, List.length_cons, num_len xs]
theorem zipV_get : ∀ (xs ys : List VV) (i : Nat) (x y : VV), xs[i]? = some x → ys[i]? = some y → (zipV xs ys)[i]? = some (.tup [x, y])
  | [], _, i, _, _, h, _ => by simp at h
  | _ :: _, [], i, _, _, _, h => by simp at h
  | x :: xs, y :: ys, 0, _, _, h, h' => by simp at h h'; subst h h'; rfl
  | x :: xs, y :: ys, i + 1, _, _, h, h' => by
    rw [zipV, List.getElem?_cons_succ]
    exact zipV_get xs ys i _ _ (by simpa using h) (by simpa using h')
theorem zipV_len : ∀ (xs ys : List VV), (zipV xs ys).length = min xs.length ys.length
  | [], ys => by simp [zipV]
  | x :: xs, [] => by simp [zipV]
  | x :: xs, y :: ys => by rw [zipV, List.length_cons, List.length_cons, List.length_cons, zipV_len xs ys]; omega
theorem serves_E {C : RC} {as : List Addr} {H : Hp} {Sc : Src} {q : List VV × List (Nat × VO)} (hs : ∀ as1 G1 H1, Ext as H as1 H1 → RelG C as1 G1 H1 → stays G1 q.2 = true → ∃ ys, Sc.has C.K H1 ys ∧ RVs C as1 H1 q.1 ys) : Serves C as H (ItE C.K Sc) (num 0 q.1) q.2 := by
  intro i as1 G1 H1 e1 rg1 h1 hi
  obtain ⟨ys, hy, r⟩ := hs as1 G1 H1 e1 rg1 h1
  rw [num_get]
  cases hx : q.1[i]? with
  | none =>
    refine ⟨ys, hy, ?_⟩
    rw [num_len] at hi
    have := List.getElem?_eq_none_iff.mp hx
    rw [← r.length]
    omega
  | some x =>
    obtain ⟨y, hyi, ry⟩ := r.get hx
    refine ⟨⟨ys, y, hy, hyi⟩, fun v H' hyl => ?_⟩
    obtain ⟨T, z, rfl, hT, rfl, hz⟩ := hyl
    have := hz ys hy
    rw [hyi] at this
    cases this
    exact pair_new rg1 hT (by rw [Int.zero_add]; exact .mkInt) ry
theorem serves_P {C : RC} {as : List Addr} {H : Hp} {S1 S2 : Src} {p q : List VV × List (Nat × VO)} (h1 : ∀ as1 G1 H1, Ext as H as1 H1 → RelG C as1 G1 H1 → stays G1 p.2 = true → ∃ ys, S1.has C.K H1 ys ∧ RVs C as1 H1 p.1 ys)
    (h2 : ∀ as1 G1 H1, Ext as H as1 H1 → RelG C as1 G1 H1 → stays G1 q.2 = true → ∃ ys, S2.has C.K H1 ys ∧ RVs C as1 H1 q.1 ys) : Serves C as H (ItP C.K S1 S2) (zipV p.1 q.1) (p.2 ++ q.2) := by
  intro i as1 G1 H1 e1 rg1 hst hi
  rw [stays_append, Bool.and_eq_true] at hst
  obtain ⟨xs, hx, rx⟩ := h1 as1 G1 H1 e1 rg1 hst.1
  obtain ⟨ys, hy, ry⟩ := h2 as1 G1 H1 e1 rg1 hst.2
  rw [zipV_len] at hi
  by_cases hl : i < min p.1.length q.1.length
  · have l1 : i < p.1.length := by omega
    have l2 : i < q.1.length := by omega
    rw [zipV_get _ _ _ _ _ (List.getElem?_eq_getElem l1) (List.getElem?_eq_getElem l2)]
    obtain ⟨u, hu, ru⟩ := rx.get (List.getElem?_eq_getElem l1)
    obtain ⟨v, hv, rv⟩ := ry.get (List.getElem?_eq_getElem l2)
    refine ⟨⟨xs, ys, u, v, hx, hy, hu, hv⟩, fun w H' hyl => ?_⟩
    obtain ⟨T, a, b, rfl, hT, rfl, ha, hb⟩ := hyl
    have a1 := ha xs hx
    have b1 := hb ys hy
    rw [hu] at a1
    rw [hv] at b1
    cases a1
    cases b1
    exact pair_new rg1 hT ru rv
  · have hz : (zipV p.1 q.1)[i]? = none := List.getElem?_eq_none (by rw [zipV_len]; omega)
    rw [hz]
    exact ⟨xs, ys, hx, hy, by rw [← rx.length, ← ry.length]; omega⟩
variable {elts : List Expr} {kk : Nat} {tpos : Pos}
theorem si_enum {a : Expr} {dA : DA} (ha : SndA X ep W [a] dA) (hg : Gl X "enumerate") (hm : X.mg "enumerate" = none) (hs : starEach [a] X.env = [(false, eval a X.env)] := by rfl) : SndI X ep W (.Tuple elts kk tpos) (.Call (.Name "enumerate" p) [a] [] pos) (iEnum dA) := by
  refine ⟨fun pins s σ H R I h => ?_⟩
  refine Call_ (ld_blt I hg hm boot_enumerate (PyProof.Rows.callWith_type1 (thn (ha.run pos pins s σ H (fun vs H1 => ∃ as1 G1 x v q, vs = [v] ∧ RelG (rc X ep) as1 G1 H1 ∧ RV (rc X ep) as1 H1 x v ∧ seqOf G1 x = some q ∧ ∀ J, Serves (rc X ep) as1 H1 J (num 0 q.1) q.2 → R J H1) I ?_) fun us s1 ⟨vs, H1, I1, r1, as1, G1, x, v, q, ev, rg1, rx, hq, k⟩ => ?_) hs rfl))
  · refine ti_args h fun as1 G1 H1 vs vs' pr rg1 rv e k => ?_
    unfold enumOf at e
    split at e
    · rename_i x
      split at e
      · rename_i q hq
        cases e
        obtain ⟨v, rfl, rj⟩ := rv.one
        exact ⟨as1, G1, x, v, q, rfl, rg1, rj, hq, k⟩
      · cases e
    · cases e
  · subst ev
    cases r1 with
    | cons r rr =>
      cases rr
      obtain ⟨Sc, hS, ⟨ys, hy⟩, _, hs'⟩ := src_of rg1 rx hq r
      subst hS
      obtain ⟨its, hf, hx⟩ := Sc.full_of I1 hy
      refine enum1 (Sc.begins its) hf fun h' he hit hk => wpAny_pyIter_enum he ?_
      have I2 : Inv X pins σ H1 { s1 with heap := h' } := I1.kept (t' := s1.toks) hk
      refine ⟨s1.heap.objs.size + 1, [s1.heap.objs.size + 1, s1.heap.objs.size], _, _, H1, rfl, I2, turn_E Sc (s1.heap.objs.size + 1) s1.heap.objs.size (Nat.succ_ne_self _) (fun z => ?_) (fun z => ?_), ⟨⟨.none, he⟩, ⟨_, hit, rfl, rfl⟩⟩, fun b hb => ?_, k _ (serves_E hs')⟩
      · have := hx _ z
        exact absurd this (Nat.not_lt.mpr (Nat.le_succ _))
      · exact absurd (hx _ z) (Nat.lt_irrefl _)
      · have hle : s1.heap.objs.size ≤ b := by
          have q : b = s1.heap.objs.size + 1 ∨ b = s1.heap.objs.size := by simpa using hb
          rcases q with z | z
          · rw [z]; exact Nat.le_succ _
          · rw [z]; exact Nat.le_refl _
        exact I1.fpOk hle (I1.hok.fresh hle)
theorem si_zip {a b : Expr} {dA : DA} (ha : SndA X ep W [a, b] dA) (hg : Gl X "zip") (hm : X.mg "zip" = none) (hs : starEach [a, b] X.env = (false, eval a X.env) :: starEach [b] X.env := by rfl) (hpl : (backTo pos (starEach [b] X.env)).any (·.1) = false := by rfl) :
    SndI X ep W (.Tuple elts kk tpos) (.Call (.Name "zip" p) [a, b] [] pos) (iZip dA) := by
  refine ⟨fun pins s σ H R I h => ?_⟩
  refine Call_ (ld_blt I hg hm PyProof.Rows.boot_zip (PyProof.Rows.callWith_type1 (thn (ha.run pos pins s σ H (fun vs H1 => ∃ as1 G1 x y v u p q, vs = [v, u] ∧ RelG (rc X ep) as1 G1 H1 ∧ RV (rc X ep) as1 H1 x v ∧ RV (rc X ep) as1 H1 y u ∧ seqOf G1 x = some p ∧ seqOf G1 y = some q ∧ ∀ J, Serves (rc X ep) as1 H1 J (zipV p.1 q.1) (p.2 ++ q.2) → R J H1) I ?_) fun us s1 ⟨vs, H1, I1, r1, as1, G1, x, y, v, u, p, q, ev, rg1, rx, ry, hp, hq, k⟩ => ?_) hs hpl))
  · refine ti_args h fun as1 G1 H1 vs vs' pr rg1 rv e k => ?_
    unfold zipOf at e
    split at e
    · rename_i x y
      split at e
      · rename_i p q hp hq
        cases e
        obtain ⟨v, u, rfl, r1, r2⟩ := rv.two
        exact ⟨as1, G1, x, y, v, u, p, q, rfl, rg1, r1, r2, hp, hq, k⟩
      · cases e
    · cases e
  · subst ev
    cases r1 with
    | cons r rr =>
      cases rr with
      | cons r' rr =>
        cases rr
        obtain ⟨S1, hS1, ⟨xs, hx⟩, _, h1⟩ := src_of rg1 rx hp r
        obtain ⟨S2, hS2, ⟨ys, hy⟩, _, h2⟩ := src_of rg1 ry hq r'
        subst hS1 hS2
        obtain ⟨is1, f1, x1⟩ := S1.full_of I1 hx
        obtain ⟨is2, f2, x2⟩ := S2.full_of I1 hy
        refine zip_begins2 (S1.begins is1) (S2.begins is2) f1 f2 fun h' hz hTI hTO o1 o2 hsz hk => wpAny_pyIter_zip hz ?_
        have I2 : Inv X pins σ H1 { s1 with heap := h' } := I1.kept (t' := s1.toks) hk
        refine ⟨s1.heap.objs.size + 4, [s1.heap.objs.size + 4, s1.heap.objs.size + 2, s1.heap.objs.size + 3, s1.heap.objs.size, s1.heap.objs.size + 1], _, _, H1, rfl, I2,
          turn_P S1 S2 (zip_sep2 x1 x2) (fun z => absurd (x1 _ z) (Nat.lt_irrefl _)) (fun z => absurd (x2 _ z) (Nat.not_lt.mpr (Nat.le_succ _))), ⟨hz, hTI, ⟨_, _, hTO⟩, ⟨_, o1, rfl, rfl⟩, ⟨_, o2, rfl, rfl⟩⟩, fun c hcm => ?_, k _ (serves_P h1 h2)⟩
        have hle : s1.heap.objs.size ≤ c := by
          have q : c = s1.heap.objs.size + 4 ∨ c = s1.heap.objs.size + 2 ∨ c = s1.heap.objs.size + 3 ∨ c = s1.heap.objs.size ∨ c = s1.heap.objs.size + 1 := by simpa using hcm
          rcases q with z | z | z | z | z <;> rw [z] <;> first | exact Nat.le_refl _ | exact Nat.le_add_right _ _
        exact I1.fpOk hle (I1.hok.fresh hle)
end
end DL
end S_Rules6
section S_Rules7
set_option Elab.async false
set_option linter.all false
set_option maxRecDepth 100000
set_option maxHeartbeats 2000000
/-! Rules7: statements, targets, loops, comprehensions. -/
namespace DL
open PySem PySem.Spec PyProof.Rows L2
section
variable {C : RC} {W : WX} {α β : Type} {RR : List Addr → Hp → α → β → Prop}
theorem tO.step {o : O} {as as1 : List Addr} {H H1 : Hp} {D : L2.Ends} (e : Ext as H as1 H1) (h : tO C W o as H D) : tO C W o as1 H1 D := by
  cases o with
  | nx S G => exact fun as' H' σ' e' rg rs => h as' H' σ' (e.trans e') rg rs
  | rt v G => exact fun as' H' v' e' rg rv => h as' H' v' (e.trans e') rg rv
  | bk S G => exact fun as' H' σ' e' rg rs => h as' H' σ' (e.trans e') rg rs
  | ct S G => exact fun as' H' σ' e' rg rs => h as' H' σ' (e.trans e') rg rs
  | exn x S G => exact fun as' H' σ' cls d e' rg rs rx => h as' H' σ' cls d (e.trans e') rg rs rx
  | bad => exact h
/-- an expression in a statement -/
theorem tD.st {d : Env → Hv → R α} {f : α → Hv → O} {as : List Addr} {G : Hv} {S : Env} {σ : St} {H : Hp} {D : L2.Ends} {Q1 : β → Hp → Prop} (rg : RelG C as G H) (rs : RS C as H S σ) (h : tO C W ((d S G).st S f) as H D)
    (k : ∀ x G1 as1 H1 x', Ext as H as1 H1 → RelG C as1 G1 H1 → RS C as1 H1 S σ → RR as1 H1 x x' → tO C W (f x G1) as1 H1 D → Q1 x' H1) : tD C W RR d σ H Q1 := by
  refine ⟨as, G, S, rg, rs, ?_⟩
  cases e : d S G with
  | ok x G1 =>
    rw [e] at h
    exact fun as1 H1 x' e1 rg1 rx => k x G1 as1 H1 x' e1 rg1 (rs.mono e1) rx (tO.step e1 h)
  | exn x G1 =>
    rw [e] at h
    exact fun as1 H1 cls d e1 rg1 rx => h as1 H1 σ cls d e1 rg1 (rs.mono e1) rx
  | bad =>
    rw [e] at h
    exact h
end
section
variable {X : Cx} {ep : List (Addr × Obj)} {W : WX} {pos : Pos}
theorem ss_nil : SndSs X ep W [] dNext := pss_nil.imp fun D σ H ⟨as, G, S, rg, rs, h⟩ => h as H σ .refl rg rs
theorem ss_cons {s : Stmt} {r : List Stmt} {a b : DS} (ha : SndS X ep W s a) (hb : SndSs X ep W r b) : SndSs X ep W (s :: r) (dSeq a b) := (pss_cons ha hb).imp fun D σ H ⟨as, G, S, rg, rs, h⟩ => by
  refine ⟨as, G, S, rg, rs, ?_⟩
  unfold dSeq at h
  cases e : a S G with
  | nx S1 G1 =>
    rw [e] at h
    exact fun as' H' σ' e' rg' rs' => ⟨as', G1, S1, rg', rs', tO.step e' h⟩
  | _ => rw [e] at h; exact h
theorem ss_one {s : Stmt} {a : DS} (ha : SndS X ep W s a) : SndSs X ep W [s] a := pss_one ha
theorem ss_pass : SndS X ep W (.Pass pos) dNext := ps_pass.imp fun D σ H ⟨as, G, S, rg, rs, h⟩ => h as H σ .refl rg rs
theorem ss_break : SndS X ep W (.Break pos) sBreak := ps_break.imp fun D σ H ⟨as, G, S, rg, rs, h⟩ => h as H σ .refl rg rs
theorem ss_continue : SndS X ep W (.Continue pos) sCont := ps_continue.imp fun D σ H ⟨as, G, S, rg, rs, h⟩ => h as H σ .refl rg rs
theorem ss_doc {x j pos pos'} : SndS X ep W (.Expr (.Constant (.str x) j pos) pos') dNext := ps_doc.imp fun D σ H ⟨as, G, S, rg, rs, h⟩ => h as H σ .refl rg rs
theorem ss_bad {s : Stmt} : SndS X ep W s sBad := ps_never.imp fun D σ H ⟨as, G, S, rg, rs, h⟩ => h
theorem ss_expr {e : Expr} {d : DE} (he : SndE X ep W e d) (hs : swapsWith e none pos.line X.env = pure false := by rfl) : SndS X ep W (.Expr e pos) (dExpr d) :=
  (ps_expr he hs).imp fun D σ H ⟨as, G, S, rg, rs, h⟩ => tD.st rg rs h fun x G1 as1 H1 x' e1 rg1 rs1 rx h1 => h1 as1 H1 σ .refl rg1 rs1
theorem ss_ret {e : Expr} {d : DE} (he : SndE X ep W e d) : SndS X ep W (.Return (some e) pos) (dRet d) :=
  (ps_ret he).imp fun D σ H ⟨as, G, S, rg, rs, h⟩ => tD.st rg rs h fun x G1 as1 H1 x' e1 rg1 rs1 rx h1 => h1 as1 H1 x' .refl rg1 rx
theorem ss_retN : SndS X ep W (.Return none pos) dRetN := ps_retN.imp fun D σ H ⟨as, G, S, rg, rs, h⟩ => h as H .non .refl rg .mkNon
theorem ss_if {c : Expr} {p q : List Stmt} {t : DT} {a b : DS} (hc : SndT X ep W c t) (ha : SndSs X ep W p a) (hb : SndSs X ep W q b) : SndS X ep W (.If c p q pos) (sIf t a b) :=
  (ps_if hc ha hb).imp fun D σ H ⟨as, G, S, rg, rs, h⟩ => tD.st rg rs h fun x G1 as1 H1 x' e1 rg1 rs1 rx h1 => by
    obtain rfl : x = x' := rx
    cases x with
    | true => exact ⟨as1, G1, S, rg1, rs1, h1⟩
    | false => exact ⟨as1, G1, S, rg1, rs1, h1⟩
/-! ### targets: what is written lies in ws -/
end
def Same (ws : List Nat) (σ σ' : St) : Prop := σ'.length = σ.length ∧ ∀ j, j ∉ ws → σ'[j]? = σ[j]?
theorem Same.refl {ws : List Nat} {σ : St} : Same ws σ σ := ⟨rfl, fun _ _ => rfl⟩
theorem Same.trans {ws : List Nat} {a b c : St} (h : Same ws a b) (k : Same ws b c) : Same ws a c := ⟨k.1.trans h.1, fun j hj => (k.2 j hj).trans (h.2 j hj)⟩
theorem Same.sub {ws vs : List Nat} {a b : St} (h : Same ws a b) (k : ∀ j ∈ ws, j ∈ vs) : Same vs a b := ⟨h.1, fun j hj => h.2 j fun m => hj (k j m)⟩
section
variable (C : RC) (W : WX)
def tDw (ws : List Nat) (d : DG) : TG := fun v σ H Q => ∃ as G S x, RelG C as G H ∧ RS C as H S σ ∧ RV C as H x v ∧ tO C W (d x S G) as H { nx := fun σ' H' => Same ws σ σ' → Q σ' H', rt := fun _ _ => False }
def tDws (ws : List Nat) (ds : List DG) : TGs := fun vs σ H Q => ∃ as G S xs, RelG C as G H ∧ RS C as H S σ ∧ RVs C as H xs vs ∧ xs.length = ds.length ∧ tO C W (gAll ds xs S G) as H { nx := fun σ' H' => Same ws σ σ' → Q σ' H', rt := fun _ _ => False }
end
abbrev SndW' (X : Cx) (ep : List (Addr × Obj)) (W : WX) (ws : List Nat) (e : Expr) (d : DG) : Prop := PG X e (tDw (rc X ep) W ws d)
abbrev SndGs (X : Cx) (ep : List (Addr × Obj)) (W : WX) (ws : List Nat) (es : List Expr) (ds : List DG) : Prop := PGs X es (tDws (rc X ep) W ws ds)
theorem _root_.L2.PGs.imp {X : Cx} {e : List Expr} {t t' : TGs} (h : PGs X e t) (i : ∀ v σ H Q, t' v σ H Q → t v σ H Q) : PGs X e t' := ⟨fun pins s σ H v u Q I r q => h.run pins s σ H v u Q I r (i v σ H Q q)⟩
section
variable {X : Cx} {ep : List (Addr × Obj)} {W : WX} {pos : Pos}
theorem sg_name (i : Nat) {x : Str} (hN : X.N.Nodup := by assumption) (hi : X.N[i]? = some x := by rfl) (hx : Loc X.env.scope x := by first | exact .inl rfl | exact .inr rfl) (hf : X.fn x = true ∨ X.env.scope.names.lookup x = some .local := by first | exact .inr rfl | exact .inl rfl) : SndW' X ep W [i] (.Name x pos) (gName i) :=
  (pg_name hN hi hx hf).imp fun v σ H Q ⟨as, G, S, x, rg, rs, rx, h⟩ => h as H _ .refl rg (rs.set i rx) ⟨by simp, fun j hj => List.getElem?_set_ne (fun e => hj (by simp [e]))⟩
theorem sgs_nil : SndGs X ep W [] [] [] := pgs_nil.imp fun v σ H Q ⟨as, G, S, xs, rg, rs, rx, hl, h⟩ => by
  cases xs with
  | nil =>
    rw [RVs] at rx
    exact ⟨rx, h as H σ .refl rg rs .refl⟩
  | cons _ _ => exact absurd hl (by simp)
theorem sgs_cons {e : Expr} {es : List Expr} {ws vs : List Nat} {g : DG} {gs : List DG} (hg : SndW' X ep W ws e g) (hr : SndGs X ep W vs es gs) (hs : (assignEach (e :: es) X.env).map (·.2) = assign e X.env :: (assignEach es X.env).map (·.2) := by rfl) : SndGs X ep W (ws ++ vs) (e :: es) (g :: gs) :=
  (pgs_cons hg hr hs).imp fun v σ H Q ⟨as, G, S, xs, rg, rs, rx, hl, h⟩ => by
    cases xs with
    | nil => exact absurd hl (by simp)
    | cons x xs =>
      obtain ⟨y, ys, rfl, r1, r2⟩ := (by rw [RVs] at rx; exact rx : ∃ y zs, v = y :: zs ∧ RV _ as H x y ∧ RVs _ as H xs zs)
      refine ⟨y, ys, rfl, as, G, S, x, rg, rs, r1, ?_⟩
      unfold gAll gRun at h
      cases e : g x S G with
      | nx S1 G1 =>
        rw [e] at h
        refine fun as1 H1 σ1 e1 rg1 rs1 sm1 => ⟨as1, G1, S1, xs, rg1, rs1, r2.mono e1, by simpa using hl, ?_⟩
        have h1 := tO.step e1 h
        simp only at h1
        cases q : gAll gs xs S1 G1 with
        | nx S2 G2 =>
          rw [q] at h1
          exact fun as2 H2 σ2 e2 rg2 rs2 sm2 => h1 as2 H2 σ2 e2 rg2 rs2 ((sm1.sub fun j m => List.mem_append_left _ m).trans (sm2.sub fun j m => List.mem_append_right _ m))
        | _ => rw [q] at h1; exact h1
      | exn z S1 G1 => rw [e] at h; exact h
      | _ => rw [e] at h; exact h.elim
theorem sg_tup {es : List Expr} {k n : Nat} {ws : List Nat} {gs : List DG} (hc : X.calm = true) (h : SndGs X ep W ws es gs) (hn : gs.length = n := by rfl) (hl : (assignEach es X.env).length = n := by rfl) (hst : (assignEach es X.env).findIdx? (·.1) = none := by rfl) : SndW' X ep W ws (.Tuple es k pos) (gTup gs) :=
  (pg_tup hc h hl hst).imp fun v σ H Q ⟨as, G, S, x, rg, rs, rx, h⟩ => by
    cases x with
    | tup xs =>
      obtain ⟨a, ys, rfl, ht, r⟩ := rx.tup
      unfold gTup at h
      simp only at h
      split at h
      · rename_i hlen
        exact ⟨a, ys, rfl, ht.sq, by rw [← r.length, hlen, hn], as, G, S, xs, rg, rs, r, hlen, h⟩
      · exact h.elim
    | _ => exact h.elim
theorem sg_sub {a b : Expr} {da db : DE} (ha : SndE X ep W a da) (hb : SndE X ep W b db)
    (he : ∀ v, assign (.Subscript a b pos) X.env v = (do
      let ov ← holding [v] (eval a X.env)
      let iv ← holding [v, ov] (eval b X.env)
      standAt pos
      holding [v, ov, iv] (setItem ov iv v)
      release [v, ov, iv] []) := by intro _; rfl) : SndW' X ep W [] (.Subscript a b pos) (gSub da db) :=
  (pg_sub ha hb set_list he).imp fun v σ H Q ⟨as, G, S, x, rg, rs, rx, h⟩ => tD.st rg rs h fun y G1 as1 H1 y' e1 rg1 rs1 ry h1 => tD.st rg1 rs1 h1 fun z G2 as2 H2 z' e2 rg2 rs2 rz h2 => by
    split at h2
    · rename_i i k
      split at h2
      · rename_i xs hxs
        split at h2
        · rename_i j hj
          obtain ⟨p, ys, hp, hv, hH, hr⟩ := RV.lst rg2 (ry.mono e2) hxs
          refine ⟨p, ys, k, j, hv, rz.int, hH, by rw [← hr.length]; exact hj, ?_⟩
          have e3 : Ext as2 H2 as2 (L2.upd H2 p (.lst (ys.set j v))) := Ext.wr (fun ws => by rw [hH]; simp) (.inl (List.mem_of_getElem? hp))
          exact h2 as2 _ σ e3 (rg2.write hp (fun ws => by rw [hH]; simp) ⟨_, rfl, RVs.set (rx.mono (e1.trans e2)) j hr⟩) (rs2.mono e3) .refl
        · exact h2.elim
      · exact h2.elim
    · exact h2.elim
theorem assign_attr (o : Expr) (x : Str) (v : Value) : assign (.Attribute o x pos) X.env v = (do
    let ov ← holding [v] (eval o X.env)
    standAt pos.atName
    holding [v, ov] (setAttr ov x v)
    release [v, ov] []) := by rfl
theorem sg_fld {c f : Nat} {Ca : Addr} {x : Str} {a : Expr} {da : DE} (T : ClsOk X.K X.mg c Ca) (n : NoAttr X.K Ca x) (hx : nameOf f = x) (ha : SndE X ep W a da) : SndW' X ep W [] (.Attribute a x pos) (gFld c f da) := by
  refine ⟨fun pins s σ H v u Q I r h => ?_⟩
  obtain ⟨as, G, S, y, rg, rs, ry, h⟩ := h
  have hd : tDE (rc X ep) W da σ H fun o' H1 => ∃ p dx fs, o' = .ref p ∧ H1 p = some (.ins Ca dx fs) ∧ fs.length < 1000 ∧ Q σ (L2.upd H1 p (.ins Ca dx (putF x v fs))) :=
    tD.st rg rs h fun o G1 as1 H1 o' e1 rg1 rs1 ro h1 => by
      split at h1
      · rename_i i
        split at h1
        · rename_i d fs hfs
          split at h1
          · rename_i hc
            obtain ⟨rfl, hlen⟩ := hc
            obtain ⟨p, C2, dx, ys, hp, hv, hm, hH, hf⟩ := RV.ins rg1 ro hfs
            have hC := T.same hm
            subst hC hx
            refine ⟨p, dx, ys, hv, hH, by rw [← hf.length]; exact hlen, ?_⟩
            have e2 : Ext as1 H1 as1 (L2.upd H1 p (.ins C2 dx (putF (nameOf f) v ys))) := Ext.wr (fun ws => by rw [hH]; simp) (.inl (List.mem_of_getElem? hp))
            exact h1 as1 _ σ e2 (rg1.write hp (fun ws => by rw [hH]; simp) ⟨C2, dx, _, hm, rfl, RFs.put f (ry.mono e1) hf⟩) (rs1.mono e2) .refl
          · exact h1.elim
        · exact h1.elim
      · exact h1.elim
  rw [assign_attr]
  refine wpAny_bind (wpAny_holding (thn (ha.run pins s σ H _ I hd) fun ov s1 ⟨o', H1, I1, r1, p, dx, fs, eo, hH, hl, q⟩ => ?_))
  subst eo
  cases r1
  refine wpAny_bind (wpAny_standAt (wpAny_bind (wpAny_holding (setattr_ok I1 hH T.cl n hl r fun s2 I2 => ?_))))
  exact wpAny_release ⟨σ, _, I2, q⟩
/-! ### stores -/
theorem asg_imp {C : RC} {te : TE} {ws : List Nat} {d : DE} {g : DG} {D : L2.Ends} {σ : St} {H : Hp} (h : tDS C W (sAsg d g) D σ H) (k : ∀ Q, tDE C W d σ H Q → te σ H Q) : tAsg te (tDw C W ws g) D σ H := by
  obtain ⟨as, G, S, rg, rs, h⟩ := h
  refine k _ (tD.st rg rs h fun x G1 as1 H1 x' e1 rg1 rs1 rx h1 => ⟨as1, G1, S, x, rg1, rs1, rx, ?_⟩)
  unfold gRun at h1
  cases q : g x S G1 with
  | nx S2 G2 => rw [q] at h1; exact fun as2 H2 σ2 e2 rg2 rs2 _ => h1 as2 H2 σ2 e2 rg2 rs2
  | exn y S2 G2 => rw [q] at h1; exact h1
  | _ => rw [q] at h1; exact h1.elim
theorem ss_asg {tg e : Expr} {d : DE} {ws : List Nat} {g : DG} (he : SndE X ep W e d) (hg : SndW' X ep W ws tg g) (hs : swapsWithSole [tg] e pos.line X.env = pure false := by rfl) (hw : swappedStores [tg] e X.env = pure none := by rfl)
    (h1 : (assignEach [tg] X.env).map (·.2) = [assign tg X.env] := by rfl) : SndS X ep W (.Assign [tg] e pos) (sAsg d g) :=
  (ps_asg he hg hs hw h1).imp fun D σ H h => asg_imp h fun Q q => q
/-- a, b = x, y with plain local names -/
theorem RVs.three {C : RC} {as : List Addr} {H : Hp} {x y z : VV} {vs : List V} (h : RVs C as H [x, y, z] vs) : ∃ v u w, vs = [v, u, w] ∧ RV C as H x v ∧ RV C as H y u ∧ RV C as H z w := by
  obtain ⟨v, zs, rfl, r, t⟩ := (by rw [RVs] at h; exact h : ∃ y' zs, vs = y' :: zs ∧ RV C as H x y' ∧ RVs C as H [y, z] zs)
  obtain ⟨u, w, rfl, ru, rw'⟩ := RVs.two t
  exact ⟨v, u, w, rfl, r, ru, rw'⟩
theorem ss_par2 {i j : Nat} {x y : Str} {a b : Expr} {da : DA} {px py pt : Pos} {kt k2 pt2} (hc : X.calm = true) (ha : SndA X ep W [a, b] da) (hN : X.N.Nodup) (hi : X.N[i]? = some x) (hj : X.N[j]? = some y) (hij : i ≠ j)
    (hx : X.env.scope.names.lookup x = some .local) (hy : X.env.scope.names.lookup y = some .local)
    (hw : swappedStores [.Tuple [.Name x px, .Name y py] kt pt] (.Tuple [a, b] k2 pt2) X.env = pure (some [x, y]))
    (hs : swapsWithSole [.Tuple [.Name x px, .Name y py] kt pt] (.Tuple [a, b] k2 pt2) pos.line X.env = pure false) :
    SndS X ep W (.Assign [.Tuple [.Name x px, .Name y py] kt pt] (.Tuple [a, b] k2 pt2) pos) (sAsg (dTup da) (gTup [gName i, gName j])) :=
  (ps_par hc hN hi hj hij hx hy ha hw hs).imp fun D σ H ⟨as, G, S, rg, rs, h⟩ => by
    unfold sAsg dTup at h
    refine tD.st (D := D) (f := fun vs G1 => if vs.length ≤ LIM then gRun (gTup [gName i, gName j] (.tup vs) S G1) O.nx else .bad) rg rs ?_ fun vs G1 as1 H1 vs' e1 rg1 rs1 rv h1 => ?_
    · cases e : da S G with
      | ok vs G1 =>
        rw [e] at h
        simp only [R.bind_ok] at h
        show tO _ _ (if vs.length ≤ LIM then _ else _) _ _ _
        split at h
        · rename_i hl
          rw [if_pos hl]
          exact h
        · exact h.elim
      | exn y G1 => rw [e] at h; exact h
      | bad => rw [e] at h; exact h
    · split at h1
      · match vs, rv, h1 with
        | [p, q], rv, h1 =>
          obtain ⟨v, w, rfl, r1, r2⟩ := rv.two
          exact ⟨v, w, rfl, h1 as1 H1 _ .refl rg1 ((rs1.set i r1).set j r2)⟩
        | [], _, h1 => exact h1.elim
        | [_], _, h1 => exact h1.elim
        | _ :: _ :: _ :: _, _, h1 => exact (by simpa [gTup, gRun, sBad, tO] using h1 : False).elim
      · exact h1.elim
theorem ss_par3 {i j l : Nat} {x y z : Str} {a b c : Expr} {da : DA} {px py pz pt : Pos} {kt k2 pt2} (hc : X.calm = true) (ha : SndA X ep W [a, b, c] da) (hN : X.N.Nodup) (hi : X.N[i]? = some x) (hj : X.N[j]? = some y) (hl : X.N[l]? = some z) (hij : i ≠ j) (hil : i ≠ l) (hjl : j ≠ l)
    (hx : X.env.scope.names.lookup x = some .local) (hy : X.env.scope.names.lookup y = some .local) (hz : X.env.scope.names.lookup z = some .local)
    (hw : swappedStores [.Tuple [.Name x px, .Name y py, .Name z pz] kt pt] (.Tuple [a, b, c] k2 pt2) X.env = pure (some [x, y, z]))
    (hs : swapsWithSole [.Tuple [.Name x px, .Name y py, .Name z pz] kt pt] (.Tuple [a, b, c] k2 pt2) pos.line X.env = pure false) :
    SndS X ep W (.Assign [.Tuple [.Name x px, .Name y py, .Name z pz] kt pt] (.Tuple [a, b, c] k2 pt2) pos) (sAsg (dTup da) (gTup [gName i, gName j, gName l])) :=
  (L2.ps_par3 hc hN hi hj hl hij hil hjl hx hy hz ha hw hs).imp fun D σ H ⟨as, G, S, rg, rs, h⟩ => by
    unfold sAsg dTup at h
    refine tD.st (D := D) (f := fun vs G1 => if vs.length ≤ LIM then gRun (gTup [gName i, gName j, gName l] (.tup vs) S G1) O.nx else .bad) rg rs ?_ fun vs G1 as1 H1 vs' e1 rg1 rs1 rv h1 => ?_
    · cases e : da S G with
      | ok vs G1 =>
        rw [e] at h
        simp only [R.bind_ok] at h
        show tO _ _ (if vs.length ≤ LIM then _ else _) _ _ _
        split at h
        · rename_i hl
          rw [if_pos hl]
          exact h
        · exact h.elim
      | exn y G1 => rw [e] at h; exact h
      | bad => rw [e] at h; exact h
    · split at h1
      · match vs, rv, h1 with
        | [p, q, o], rv, h1 =>
          obtain ⟨v, w, u, rfl, r1, r2, r3⟩ := rv.three
          exact ⟨v, w, u, rfl, h1 as1 H1 _ .refl rg1 (((rs1.set i r1).set j r2).set l r3)⟩
        | [], _, h1 => exact h1.elim
        | [_], _, h1 => exact h1.elim
        | [_, _], _, h1 => exact h1.elim
        | _ :: _ :: _ :: _ :: _, _, h1 => exact (by simpa [gTup, gRun, sBad, tO] using h1 : False).elim
      · exact h1.elim
/-- a step of += by values -/
abbrev SndIp (X : Cx) (ep : List (Addr × Obj)) (op : Operator) (f : VV → VV → Hv → Option (VV × Hv)) : Prop :=
  PIp X op fun x' y' H Q => ∃ as G x y z G1, RelG (rc X ep) as G H ∧ RV (rc X ep) as H x x' ∧ RV (rc X ep) as H y y' ∧ f x y G = some (z, G1) ∧ ∀ as1 H1 z', Ext as H as1 H1 → RelG (rc X ep) as1 G1 H1 → RV (rc X ep) as1 H1 z z' → Q z' H1
theorem pip_imp {op : Operator} {t t' : TIp} (h : PIp X op t) (i : ∀ x y H Q, t' x y H Q → t x y H Q) : PIp X op t' := fun pins s σ H x y v u Q I r1 r2 q => h pins s σ H x y v u Q I r1 r2 (i x y H Q q)
theorem sp_aAdd : SndIp X ep .Add aAdd := pip_imp ip_add fun x' y' H Q ⟨as, G, x, y, z, G1, rg, rx, ry, e, k⟩ => by
  unfold aAdd at e
  split at e
  · rename_i i j
    cases e
    exact ⟨i, j, rx.int, ry.int, k as H _ .refl rg .mkInt⟩
  · cases e
theorem sp_aSub : SndIp X ep .Sub aSub := pip_imp ip_sub fun x' y' H Q ⟨as, G, x, y, z, G1, rg, rx, ry, e, k⟩ => by
  unfold aSub at e
  split at e
  · rename_i i j
    cases e
    exact ⟨i, j, rx.int, ry.int, k as H _ .refl rg .mkInt⟩
  · cases e
theorem ss_aug (i : Nat) {x : Str} {e : Expr} {d : DE} {op : Operator} {f : VV → VV → Hv → Option (VV × Hv)} {pos' : Pos} (ho : SndIp X ep op f) (he : SndE X ep W e d) (hN : X.N.Nodup := by assumption) (hi : X.N[i]? = some x := by rfl) (hx : Loc X.env.scope x := by first | exact .inl rfl | exact .inr rfl) (hf : X.fn x = true ∨ X.env.scope.names.lookup x = some .local := by first | exact .inr rfl | exact .inl rfl) :
    SndS X ep W (.AugAssign (.Name x pos') op e pos) (sAug f i d) :=
  (ps_aug hN hi hx he ho hf).imp fun D σ H ⟨as, G, S, rg, rs, h⟩ => by
    unfold sAug dVar at h
    cases e : S[i]? with
    | none => rw [e] at h; exact h.elim
    | some o =>
      cases o with
      | none => rw [e] at h; exact h.elim
      | some x =>
        rw [e] at h
        obtain ⟨v, h1, rv⟩ := rs.2 i x e
        refine ⟨v, h1, tD.st rg rs h fun y G1 as1 H1 y' e1 rg1 rs1 ry h1 => ?_⟩
        cases q : f x y G1 with
        | none => rw [q] at h1; exact h1.elim
        | some r =>
          obtain ⟨z, G2⟩ := r
          rw [q] at h1
          exact ⟨as1, G1, x, y, z, G2, rg1, rv.mono e1, ry, q, fun as2 H2 z' e2 rg2 rz => h1 as2 H2 _ e2 rg2 ((rs1.mono e2).set i rz)⟩
/-! ### loops -/
theorem ss_while {c : Expr} {body : List Stmt} {t : DT} {b : DS} {N : Nat} (hc : SndT X ep W c t) (hb : SndSs X ep W body b) (hp : PassesOwn (model X.prog X.w) X.A X.env X.xe) : SndS X ep W (.While c body [] pos) (whileN t b N) :=
  (ps_while hp hc hb).imp fun D σ H h => by
    refine ⟨fun m σ H => tDS (rc X ep) W (whileN t b m) D σ H, ⟨N, h⟩, fun m σ H ⟨as, G, S, rg, rs, h⟩ => ?_⟩
    cases m with
    | zero => exact h.elim
    | succ m =>
      refine tD.st rg rs h fun x G1 as1 H1 x' e1 rg1 rs1 rx h1 => ?_
      obtain rfl : x = x' := rx
      cases x with
      | false => exact h1 as1 H1 σ .refl rg1 rs1
      | true =>
        refine ⟨fun σ' H' => tDS (rc X ep) W (whileN t b m) D σ' H', fun σ' H' n => ⟨m, Nat.lt_succ_self m, n⟩, as1, G1, S, rg1, rs1, ?_⟩
        have h1 : tO _ _ (match b S G1 with
          | .nx S2 G2 => whileN t b m S2 G2
          | .ct S2 G2 => whileN t b m S2 G2
          | .bk S2 G2 => .nx S2 G2
          | o => o) as1 H1 D := h1
        cases q : b S G1 with
        | nx S2 G2 => rw [q] at h1; exact fun as2 H2 σ2 e2 rg2 rs2 => ⟨as2, G2, S2, rg2, rs2, tO.step e2 h1⟩
        | ct S2 G2 => rw [q] at h1; exact fun as2 H2 σ2 e2 rg2 rs2 => ⟨as2, G2, S2, rg2, rs2, tO.step e2 h1⟩
        | bk S2 G2 => rw [q] at h1; exact h1
        | rt v G2 => rw [q] at h1; exact h1
        | exn y S2 G2 => rw [q] at h1; exact h1
        | bad => rw [q] at h1; exact h1
theorem ss_for {tg iter : Expr} {body : List Stmt} {di : DI} {ws : List Nat} {g : DG} {b : DS} (hi : SndI X ep W tg iter di) (hg : SndW' X ep W ws tg g) (hb : SndSs X ep W body b) (hc : X.calm = true) (hp : PassesOwn (model X.prog X.w) X.A X.env X.xe) (hs : ∀ x, foldedSetIterable iter X.env x = pure x := by intro _; rfl) :
    SndS X ep W (.For tg iter body [] pos) (sFor di g b) :=
  (ps_for hp hc hi hg hb hs).imp fun D σ H ⟨as, G, S, rg, rs, h⟩ => tD.st rg rs h fun p G1 as1 H1 J e1 rg1 rs1 hJ h1 => by
    obtain ⟨xs, chk⟩ := p
    refine ⟨fun i m σ H => m = xs.length - i ∧ i ≤ xs.length ∧ ∃ as2 G2 S2, Ext as1 H1 as2 H ∧ RelG (rc X ep) as2 G2 H ∧ RS (rc X ep) as2 H S2 σ ∧ tO (rc X ep) W (forL chk g b (xs.drop i) S2 G2) as2 H D, ⟨_, rfl, Nat.zero_le _, as1, G1, S, .refl, rg1, rs1, h1⟩, ?_⟩
    rintro i m σ2 H2 ⟨rfl, hle, as2, G2, S2, e2, rg2, rs2, h2⟩
    have sv := hJ i as2 G2 H2 e2 rg2
    by_cases hlt : i < xs.length
    · have hx : xs[i]? = some xs[i] := List.getElem?_eq_getElem hlt
      rw [List.drop_eq_getElem_cons hlt] at h2
      simp only [forL] at h2
      split at h2
      · rename_i hst
        have sv := sv hst hle
        rw [hx] at sv
        obtain ⟨hgo, hyl⟩ := sv
        refine .inr ⟨hgo, fun σ' H' => ∃ as3 G3 S3, Ext as1 H1 as3 H' ∧ RelG (rc X ep) as3 G3 H' ∧ RS (rc X ep) as3 H' S3 σ' ∧ tO (rc X ep) W (forL chk g b (xs.drop (i + 1)) S3 G3) as3 H' D, fun σ' H' n => ⟨xs.length - (i + 1), by omega, rfl, hlt, n⟩, fun v H' y => ?_⟩
        obtain ⟨e3, rg3, rv⟩ := hyl v H' y
        refine ⟨as2, G2, S2, xs[i], rg3, rs2.mono e3, rv, ?_⟩
        have h3 := tO.step e3 h2
        unfold gRun at h3
        cases q : g xs[i] S2 G2 with
        | nx S4 G4 =>
          rw [q] at h3
          refine fun as4 H4 σ4 e4 rg4 rs4 _ => ⟨as4, G4, S4, rg4, rs4, ?_⟩
          have h4 := tO.step e4 h3
          simp only at h4
          cases q2 : b S4 G4 with
          | nx S5 G5 => rw [q2] at h4; exact fun as5 H5 σ5 e5 rg5 rs5 => ⟨as5, G5, S5, e2.trans (e3.trans (e4.trans e5)), rg5, rs5, tO.step e5 h4⟩
          | ct S5 G5 => rw [q2] at h4; exact fun as5 H5 σ5 e5 rg5 rs5 => ⟨as5, G5, S5, e2.trans (e3.trans (e4.trans e5)), rg5, rs5, tO.step e5 h4⟩
          | bk S5 G5 => rw [q2] at h4; exact h4
          | rt v5 G5 => rw [q2] at h4; exact h4
          | exn y5 S5 G5 => rw [q2] at h4; exact h4
          | bad => rw [q2] at h4; exact h4
        | exn y4 S4 G4 => rw [q] at h3; exact h3
        | _ => rw [q] at h3; exact h3.elim
      · exact h2.elim
    · have hi' : i = xs.length := by omega
      subst hi'
      rw [List.drop_length] at h2
      unfold forL at h2
      split at h2
      · rename_i hst
        have sv := sv hst (Nat.le_refl _)
        rw [List.getElem?_eq_none (Nat.le_refl _)] at sv
        exact .inl ⟨sv, h2 as2 H2 σ2 .refl rg2 rs2⟩
      · exact h2.elim
/-! ### try, where nothing is raised -/
abbrev W0 : WX := fun _ _ _ _ => False
theorem ss_thru {body : List Stmt} {h₀ : ExceptHandler} {hs : List ExceptHandler} {b : DS} (hb : SndSs X.nox ep W0 body b) : SndS X ep W (.Try body (h₀ :: hs) [] [] pos) (sThru b) :=
  (ps_try_thru0 hb).imp fun D σ H ⟨as, G, S, rg, rs, h⟩ => by
    refine ⟨as, G, S, rg, rs, ?_⟩
    unfold sThru at h
    cases e : b S G with
    | exn x S1 G1 => rw [e] at h; exact h.elim
    | nx _ _ => rw [e] at h; exact h
    | rt _ _ => rw [e] at h; exact h
    | bk _ _ => rw [e] at h; exact h
    | ct _ _ => rw [e] at h; exact h
    | bad => rw [e] at h; exact h
/-! ### list comprehensions -/
theorem wipe_get : ∀ (vs : List Nat) (σ : St) (j : Nat), (L2.wipe σ vs)[j]? = if j ∈ vs then σ[j]?.map (fun _ => none) else σ[j]?
  | [], σ, j => by simp [L2.wipe]
  | v :: vs, σ, j => by
    unfold L2.wipe
    by_cases hj : v = j
    · subst hj
      rw [List.getElem?_set_self', wipe_get vs σ v]
      simp only [List.mem_cons_self, if_true]
      by_cases hm : v ∈ vs
      · rw [if_pos hm]; cases σ[v]? <;> rfl
      · rw [if_neg hm]; cases σ[v]? <;> rfl
    · rw [List.getElem?_set_ne hj, wipe_get vs σ j]
      have : (j ∈ v :: vs) = (j ∈ vs) := by simp [Ne.symm hj]
      simp only [this]
theorem wipe_same {vs : List Nat} {σ σ2 : St} (h : Same vs (L2.wipe σ vs) σ2) : L2.wipe σ2 vs = L2.wipe σ vs := by
  refine List.ext_getElem? fun j => ?_
  rw [wipe_get]
  by_cases hj : j ∈ vs
  · rw [if_pos hj, wipe_get, if_pos hj]
    have h1 : (σ2[j]?).isSome = (σ[j]?).isSome := by
      have hl := h.1
      rw [wipe_length] at hl
      rw [Bool.eq_iff_iff]
      simp [hl]
    cases e : σ2[j]? <;> cases e' : σ[j]? <;> rw [e, e'] at h1 <;> first | rfl | cases h1
  · rw [if_neg hj, h.2 j hj]
theorem rs_wipe {C : RC} {as : List Addr} {H : Hp} {S : Env} {σ : St} (h : RS C as H S σ) : ∀ vs : List Nat, RS C as H (DL.wipe S vs) (L2.wipe σ vs)
  | [] => h
  | v :: vs => (rs_wipe h vs).none v none
abbrev SndTs (X : Cx) (ep : List (Addr × Obj)) (W : WX) (es : List Expr) (d : DT) : Prop := PTs X es (tDT (rc X ep) W d)
theorem sts_nil : SndTs X ep W [] DL.tYes := ⟨fun pins s σ H Q I ⟨as, G, S, rg, rs, h⟩ => pts_nil.run pins s σ H Q I (h as H true .refl rg rfl)⟩
theorem sts_one {c : Expr} {t : DT} (h : SndT X ep W c t) : SndTs X ep W [c] t := pts_one h
theorem lc_imp {C : RC} {vs : List Nat} {di : DI} {g : DG} {t : DT} {e : DE} {σ : St} {H : Hp} {Q : VK} (h : tDE C W (dLc vs di g t e) σ H Q) :
    tLc (tD C W (RI C) di) (tDw C W0 vs g) (tDT C W0 t) (tDE C W0 e) vs σ H Q := by
  obtain ⟨as, G, S, rg, rs, h⟩ := h
  refine tD.bind rg rs h fun p G1 as1 H1 J e1 rg1 rs1 hJ h1 => fun D hD => ?_
  obtain ⟨xs, chk⟩ := p
  have eD : Ext as1 H1 (as1 ++ [D]) (L2.upd H1 D (.lst [])) := Ext.new hD
  have rgD : RelG C (as1 ++ [D]) (G1 ++ [.lst []]) (L2.upd H1 D (.lst [])) := rg1.new hD ⟨[], rfl, .nil⟩
  refine ⟨fun i m H => m = xs.length - i ∧ i ≤ xs.length ∧ ∃ as2 G2, Ext (as1 ++ [D]) (L2.upd H1 D (.lst [])) as2 H ∧ RelG C as2 G2 H ∧ tR C W (RV C) (lcL chk g t e vs (DL.wipe S vs) G1.length (xs.drop i) G2) as2 H σ Q, ⟨_, rfl, Nat.zero_le _, _, _, .refl, rgD, tR.step eD h1⟩, ?_⟩
  rintro i m H2 ⟨rfl, hle, as2, G2, e2, rg2, h2⟩
  have rD : RV C as2 H2 (.ref G1.length) (.ref D) := .mkRef (e2.at rg1.newAt)
  have sv := hJ i as2 G2 H2 (eD.trans e2) rg2
  have rs2 : RS C as2 H2 (DL.wipe S vs) (L2.wipe σ vs) := rs_wipe (rs1.mono (eD.trans e2)) vs
  by_cases hlt : i < xs.length
  · have hx : xs[i]? = some xs[i] := List.getElem?_eq_getElem hlt
    rw [List.drop_eq_getElem_cons hlt] at h2
    simp only [lcL] at h2
    split at h2
    · rename_i hst
      have sv := sv hst hle
      rw [hx] at sv
      obtain ⟨hgo, hyl⟩ := sv
      refine .inr ⟨hgo, fun H' => ∃ as3 G3, Ext (as1 ++ [D]) (L2.upd H1 D (.lst [])) as3 H' ∧ RelG C as3 G3 H' ∧ tR C W (RV C) (lcL chk g t e vs (DL.wipe S vs) G1.length (xs.drop (i + 1)) G3) as3 H' σ Q, fun H' n => ⟨xs.length - (i + 1), by omega, rfl, hlt, n⟩, fun v H' y => ?_⟩
      obtain ⟨e3, rg3, rv⟩ := hyl v H' y
      refine ⟨as2, G2, DL.wipe S vs, xs[i], rg3, rs2.mono e3, rv, ?_⟩
      have h3 := tR.step e3 h2
      cases q : g xs[i] (DL.wipe S vs) G2 with
      | nx S4 G4 =>
        rw [q] at h3
        refine fun as4 H4 σ4 e4 rg4 rs4 sm => ⟨wipe_same sm, as4, G4, S4, rg4, rs4, ?_⟩
        have h4 := tR.step e4 h3
        simp only at h4
        cases q2 : t S4 G4 with
        | ok b G5 =>
          rw [q2] at h4
          intro as5 H5 b' e5 rg5 rb
          obtain rfl : b = b' := rb
          have h5 := tR.step e5 h4
          cases b with
          | false =>
            rw [if_neg Bool.false_ne_true]
            exact ⟨as5, G5, e2.trans (e3.trans (e4.trans e5)), rg5, h5⟩
          | true =>
            rw [if_pos rfl]
            refine ⟨as5, G5, S4, rg5, rs4.mono e5, ?_⟩
            simp only at h5
            cases q3 : e S4 G5 with
            | ok y G6 =>
              rw [q3] at h5
              intro as6 H6 y' e6 rg6 ry
              have h6 := tR.step e6 h5
              simp only at h6
              cases q4 : G6[G1.length]? with
              | none => rw [q4] at h6; exact h6.elim
              | some o =>
                rw [q4] at h6
                cases o with
                | lst acc =>
                  simp only at h6
                  split at h6
                  · rename_i hacc
                    have hD6 := (rD.mono (e3.trans (e4.trans (e5.trans e6))))
                    obtain ⟨p, ys, hp, hv, hH, hr⟩ := RV.lst rg6 hD6 q4
                    cases hv
                    refine ⟨ys, hH, ?_, as6, _, (e2.trans (e3.trans (e4.trans (e5.trans e6)))).trans (Ext.wr (fun ws => by rw [hH]; simp) (.inl (List.mem_of_getElem? hp))), rg6.write (o := .lst (acc ++ [y])) hp (fun ws => by rw [hH]; simp) ⟨_, rfl, hr.append (.cons ry .nil)⟩, tR.step (Ext.wr (fun ws => by rw [hH]; simp) (.inl (List.mem_of_getElem? hp))) h6⟩
                    rw [← hr.length]
                    exact hacc
                  · exact h6.elim
                | _ => exact h6.elim
            | exn _ _ => rw [q3] at h5; exact h5.elim
            | bad => rw [q3] at h5; exact h5.elim
        | exn _ _ => rw [q2] at h4; exact h4.elim
        | bad => rw [q2] at h4; exact h4.elim
      | _ => rw [q] at h3; exact h3.elim
    · exact h2.elim
  · have hi' : i = xs.length := by omega
    subst hi'
    rw [List.drop_length] at h2
    unfold lcL at h2
    split at h2
    · rename_i hst
      have sv := sv hst (Nat.le_refl _)
      rw [List.getElem?_eq_none (Nat.le_refl _)] at sv
      exact .inl ⟨sv, h2 as2 H2 _ .refl rg2 rD⟩
    · exact h2.elim
theorem se_lc {elt tg iter : Expr} {ifs : List Expr} {scope : Scope} (own : List (Str × Nat)) {vs : List Nat} {di : DI} {g : DG} {t : DT} {d : DE} (hc : X.calm = true) (hN : X.N.Nodup) (hi : SndI X ep W tg iter di)
    (hg : ∀ (s : Shared) (H : Hp) (C : Addr) (cl : List (Str × Addr)) (fp : List Addr), SndW' (X.blk s H scope (compEnvC scope cl C X.env) fp) ep W0 vs tg g) (ht : ∀ (s : Shared) (H : Hp) (C : Addr) (cl : List (Str × Addr)) (fp : List Addr), SndTs (X.blk s H scope (compEnvC scope cl C X.env) fp) ep W0 ifs t)
    (he : ∀ (s : Shared) (H : Hp) (C : Addr) (cl : List (Str × Addr)) (fp : List Addr), SndE (X.blk s H scope (compEnvC scope cl C X.env) fp) ep W0 elt d) (ok : BlkOk X.N X.env.scope scope own) (hv : own.map (·.2) = vs := by rfl) (hs : ∀ x, foldedSetIterable iter X.env x = pure x := by intro _; rfl) :
    SndE X ep W (.ListComp elt [⟨tg, iter, ifs, 0⟩] scope pos) (dLc vs di g t d) := by
  subst hv
  exact (pe_lc hc hN hi ok hg ht he hs).imp fun σ H Q h => lc_imp h
theorem ss_setLc (i : Nat) {y : Str} {py spos : Pos} {elt tg iter : Expr} {ifs : List Expr} {scope : Scope} (own : List (Str × Nat)) {vs : List Nat} {di : DI} {g : DG} {t : DT} {d : DE} (hc : X.calm = true) (hN : X.N.Nodup) (hi : SndI X ep W tg iter di)
    (hg : ∀ (s : Shared) (H : Hp) (C : Addr) (cl : List (Str × Addr)) (fp : List Addr), SndW' (X.blk s H scope (compEnvC scope cl C X.env) fp) ep W0 vs tg g) (ht : ∀ (s : Shared) (H : Hp) (C : Addr) (cl : List (Str × Addr)) (fp : List Addr), SndTs (X.blk s H scope (compEnvC scope cl C X.env) fp) ep W0 ifs t)
    (he : ∀ (s : Shared) (H : Hp) (C : Addr) (cl : List (Str × Addr)) (fp : List Addr), SndE (X.blk s H scope (compEnvC scope cl C X.env) fp) ep W0 elt d) (ok : BlkOk X.N X.env.scope scope own) (hv : own.map (·.2) = vs := by rfl) (hs : ∀ x, foldedSetIterable iter X.env x = pure x := by intro _; rfl)
    (hy : X.N[i]? = some y := by rfl) (hyl : X.env.scope.names.lookup y = some .local := by rfl) (hsw : swapsWith (.ListComp elt [⟨tg, iter, ifs, 0⟩] scope pos) (some (.Name y py)) spos.line X.env = pure true := by rfl) :
    SndS X ep W (.Assign [.Name y py] (.ListComp elt [⟨tg, iter, ifs, 0⟩] scope pos) spos) (sAsg (dLc vs di g t d) (gName i)) := by
  subst hv
  refine (ps_setLc (g := tDw (rc X ep) W0 _ g) (tt := tDT (rc X ep) W0 t) (te := tDE (rc X ep) W0 d) hc hN hy hyl hsw hi ok hg ht he hs).imp fun D σ H h => ?_
  have q := asg_imp (te := tDE (rc X ep) W (dLc (own.map (·.2)) di g t d)) (ws := [i]) h fun Q q => q
  have z : tDE (rc X ep) W (dLc (own.map (·.2)) di g t d) σ H fun x H1 => L2.gName i x σ H1 D.nx := by
    obtain ⟨as, G, S, rg, rs, h⟩ := h
    exact tD.st rg rs h fun x G1 as1 H1 x' e1 rg1 rs1 rx h1 => h1 as1 H1 _ .refl rg1 (rs1.set i rx)
  exact lc_imp z
end
end DL
end S_Rules7
section S_Rules8
set_option Elab.async false
set_option linter.all false
set_option maxRecDepth 100000
set_option maxHeartbeats 2000000
/-! Rules8: more expressions: constants of the module, keywords, class methods, tables, texts; a def's body. -/
namespace DL
open PySem PySem.Spec PyProof.Rows L2
theorem DefOk.mono {P : Program} {w : World} {K : PySem.W.Frag} {mg : Str → Option Value} {base : Heap} {j k : Nat} {f : Addr} {ps : List Str} {fn : Fn} (F : DefOk P w K mg base j f ps fn) (h : j ≤ k) : DefOk P w K mg base k f ps fn :=
  ⟨let ⟨fd, a, b, c⟩ := F.ex; ⟨fd, a.mono h, b, c⟩, F.kp, F.ar⟩
/-- values that ask nothing of the heap -/
def RVc (K : PySem.W.Frag) (mg : Str → Option Value) (c : VV) (v : V) : Prop := ∀ ep as H, RV ⟨K, mg, ep⟩ as H c v
structure GlobV (K : PySem.W.Frag) (mg : Str → Option Value) (x : Str) (c : VV) : Prop where
  ex : ∃ u v, mg x = some u ∧ RelV v u ∧ RVc K mg c v
section
variable {X : Cx} {ep : List (Addr × Obj)} {W : WX} {pos p apos : Pos} {x : Str}
theorem se_glob {c : VV} (T : GlobV X.K X.mg x c) (hg : Gl X x) (hd : (x == ("__debug__" : Str)) = false := by decide) : SndE X ep W (.Name x pos) (dC c) := by
  obtain ⟨u, v, hm, r, rv⟩ := T.ex
  exact (pe_glob hg hm r hd).imp fun σ H Q ⟨as, G, S, rg, rs, h⟩ => h as H v .refl rg (rv _ _ _)
theorem se_cls {c : Nat} {Ca : Addr} (T : ClsOk X.K X.mg c Ca) (hx : nameOf c = x) (hg : Gl X x) (hd : (x == ("__debug__" : Str)) = false := by decide) : SndE X ep W (.Name x pos) (dCls c) := by
  subst hx
  exact (pe_glob (v := .ref Ca) hg T.mg rfl hd).imp fun σ H Q ⟨as, G, S, rg, rs, h⟩ => h as H (.ref Ca) .refl rg (by rw [RV]; exact ⟨Ca, T.mg, rfl⟩)
/-! ### keywords -/
abbrev SndK (X : Cx) (ep : List (Addr × Obj)) (W : WX) (es : List Keyword) (d : DA) : Prop := PK X es (tDA (rc X ep) W d)
theorem _root_.L2.PK.imp {X : Cx} {e : List Keyword} {t t' : TA} (h : PK X e t) (i : ∀ σ H Q, t' σ H Q → t σ H Q) : PK X e t' := ⟨fun p pins s σ H Q I q => h.run p pins s σ H Q I (i σ H Q q)⟩
theorem sk_nil : SndK X ep W [] aNil := pk_nil.imp fun σ H Q ⟨as, G, S, rg, rs, h⟩ => h as H [] .refl rg .nil
theorem sk_cons {nm : Option Str} {e : Expr} {kpos : Pos} {kws : List Keyword} {d : DE} {r : DA} (ha : SndE X ep W e d) (hr : SndK X ep W kws r) : SndK X ep W (⟨nm, e, kpos⟩ :: kws) (aCons d r) :=
  (pk_cons ha hr).imp fun σ H Q ⟨as, G, S, rg, rs, h⟩ => tD.bind rg rs h fun x G1 as1 H1 x' e1 rg1 rs1 rx h1 => tD.bind rg1 rs1 h1 fun xs G2 as2 H2 xs' e2 rg2 rs2 rxs h2 => h2 as2 H2 _ .refl rg2 (.cons (rx.mono e2) rxs)
/-- how keywords alone bind -/
structure KwOk (K : PySem.W.Frag) (g : Addr) (ps ks : List Str) (ix : List Nat) : Prop where
  ex : ∃ fd, FdAt K g fd ∧ ∀ (s : Shared) (ws us : List Value), ws.length = ks.length → mapO (fun i => ws[i]?) ix = some us → BindsTo s fd ⟨[], ks.zip ws⟩ (ps.zip us)
theorem FdAt.inj {K : PySem.W.Frag} {g : Addr} {a b : FuncData} (h : FdAt K g a) (k : FdAt K g b) : a = b := by
  obtain ⟨_, _, _, e⟩ := h
  obtain ⟨_, _, _, e'⟩ := k
  rw [e] at e'
  cases e'; rfl
theorem RVs.pick {C : RC} {as : List Addr} {H : Hp} {xs : List VV} {vs : List V} (r : RVs C as H xs vs) : ∀ {ix : List Nat} {ys : List VV}, mapO (fun i => xs[i]?) ix = some ys → ∃ ws, mapO (fun i => vs[i]?) ix = some ws ∧ RVs C as H ys ws
  | [], ys, e => by cases e; exact ⟨[], rfl, .nil⟩
  | i :: ix, ys, e => by
    simp only [mapO] at e
    cases h : xs[i]? with
    | none => rw [h] at e; cases e
    | some x =>
      rw [h] at e
      simp only at e
      cases h2 : mapO (fun i => xs[i]?) ix with
      | none => rw [h2] at e; cases e
      | some zs =>
        rw [h2] at e
        cases e
        obtain ⟨v, hv, rv⟩ := r.get h
        obtain ⟨ws, hw, rw'⟩ := RVs.pick r h2
        exact ⟨v :: ws, by simp only [mapO, hv, hw], .cons rv rw'⟩
theorem Vals_pick {vs : List V} {us : List Value} (r : Vals vs us) : ∀ {ix : List Nat} {ws : List V}, mapO (fun i => vs[i]?) ix = some ws → ∃ zs, mapO (fun i => us[i]?) ix = some zs ∧ Vals ws zs
  | [], ys, e => by cases e; exact ⟨[], rfl, .nil⟩
  | i :: ix, ys, e => by
    simp only [mapO] at e
    cases h : vs[i]? with
    | none => rw [h] at e; cases e
    | some x =>
      rw [h] at e
      simp only at e
      cases h2 : mapO (fun i => vs[i]?) ix with
      | none => rw [h2] at e; cases e
      | some zs =>
        rw [h2] at e
        cases e
        obtain ⟨v, hv, rv⟩ := r.get h
        obtain ⟨ws, hw, rw'⟩ := Vals_pick r h2
        exact ⟨v :: ws, by simp only [mapO, hv, hw], .cons rv rw'⟩
variable {k : Nat} {g : Addr} {ps ks : List Str} {fn : Fn} {es : List Expr} {dr : DA} {e : Expr} {kws : List Keyword} {ix : List Nat} {c : Nat} {Ca : Addr}
/-- a def's promise, run -/
theorem run_any {pins : List (Addr × Obj)} {σ : St} {H : Hp} {s : Shared} {Q : VK} {fd : FuncData} {args : Args} {us : List Value} {vs : List V} {sp : Sp} {E : XK} (F : FnOk X.prog X.w X.K X.mg X.base (L2.CX X.prog X.w) k g fd ps sp) (hr : Room k X.A)
    (hx : PassesAt (L2.CX X.prog X.w) X σ E) (I : Inv X pins σ H s) (hb : BindsTo s fd args (ps.zip us)) (r : Vals vs us) (h : sp vs H Q E) :
    codeAny (model X.prog X.w) X.A (.call (.ref g) args) (fun r s' => match r with | .ok (.ret v) => EP X pins σ Q v s' | .ok _ => False | .error e => X.xe e s') s := by
  refine codeAny_mono (F.run X.A X.stack s H args us vs Q E hr I.env0 hb r h) fun r s' hq => ?_
  match r, hq with
  | .error e, hq => exact hx pins H s e s' I hq
  | .ok (.ret u), hq => exact I.after hq
theorem se_callK (F : DefOk X.prog X.w X.K X.mg X.base k g ps fn) (kw : KwOk X.K g ps ks ix) (ha : SndK X [] W kws dr) (hg : Gl X x) (hm : X.mg x = some (.ref g)) (hr : Room k X.A) (tk : Takes X W)
    (hall : (backToKw pos (keywordEach kws X.env)).all (·.1.isSome) = true := by rfl) (hks : (backToKw pos (keywordEach kws X.env)).filterMap (·.1) = ks := by rfl) (hln : ks.length = kws.length := by rfl)
    (hdb : (x == ("__debug__" : Str)) = false := by decide) (hpl : ((backTo pos (starEach [] X.env)).any (·.1) || (backToKw pos (keywordEach kws X.env)).any (·.1.isNone)) = false := by rfl)
    (hlw : ∀ S G xs G1, dr S G = .ok xs G1 → xs.length = kws.length) :
    SndE X [] W (.Call (.Name x p) [] kws pos) (dCallK fn ix dr) := by
  obtain ⟨⟨fd, F1, F2, F3⟩, kp, ar⟩ := F
  obtain ⟨fd', F4, hb⟩ := kw.ex
  obtain rfl := F3.inj F4
  refine ⟨fun pins s σ H Q I h => ?_⟩
  obtain ⟨as, G, S, rg, rs, h⟩ := h
  refine wpAny_Call_Name_kw (ld_glob I hg hm ?_ hdb)
  refine PySem.W.callWith_KW0 (h₀ := X.base) I.ok.mod.kin kp hall ?_ hpl
  have hd : tDA (rc X []) W dr σ H fun vs H1 => ∃ ws, vs.length = kws.length ∧ mapO (fun i => vs[i]?) ix = some ws ∧ spD X.K X.mg ps.length fn ws H1 Q (fun cls d H' => W cls d σ H') := by
    refine ⟨as, G, S, rg, rs, ?_⟩
    unfold dCallK at h
    cases q : dr S G with
    | bad => rw [q] at h; exact h
    | exn y G1 => rw [q] at h; exact h
    | ok xs G1 =>
      rw [q] at h
      intro as1 H1 vs e1 rg1 rxs
      have h1 := tR.step e1 h
      simp only [R.bind_ok] at h1
      cases z : mapO (fun k => xs[k]?) ix with
      | none => rw [z] at h1; exact h1.elim
      | some ys =>
        rw [z] at h1
        obtain ⟨ws, hw, rw'⟩ := RVs.pick rxs z
        exact ⟨ws, by rw [← RVs.length rxs]; exact hlw _ _ _ _ q, hw, spD_of ar rg1 rw' (tF_of h1)⟩
  refine thn (ha.run pos pins s σ H _ I hd) fun us s1 ⟨vs, H1, I1, r, ws, hl, hw, q⟩ => ⟨I1.kIn, ?_⟩
  rw [hks]
  obtain ⟨zs, hz, rz⟩ := Vals_pick r hw
  exact wpAny_call (run_any F1 hr (L2.passAt tk σ) I1 (hb s1 us zs (by rw [hln, ← r.length]; exact hl) hz) rz q)
theorem alen_nil : ∀ S G xs G1, aNil S G = .ok xs G1 → xs.length = 0 := fun S G xs G1 h => by cases h; rfl
theorem alen_cons {d : DE} {r : DA} {n : Nat} (hr : ∀ S G xs G1, r S G = .ok xs G1 → xs.length = n) : ∀ S G xs G1, aCons d r S G = .ok xs G1 → xs.length = n + 1 := fun S G xs G1 h => by
  unfold aCons at h
  cases q : d S G with
  | ok y G2 =>
    rw [q] at h
    simp only [R.bind_ok] at h
    cases q2 : r S G2 with
    | ok ys G3 =>
      rw [q2] at h
      cases h
      rw [List.length_cons, hr _ _ _ _ q2]
    | exn _ _ => rw [q2] at h; cases h
    | bad => rw [q2] at h; cases h
  | exn _ _ => rw [q] at h; cases h
  | bad => rw [q] at h; cases h
/-! ### class methods -/
structure CmOk (K : PySem.W.Frag) (mg : Str → Option Value) (c : Nat) (Ca : Addr) (m : Str) (g : Addr) : Prop where
  mg : mg (nameOf c) = some (.ref Ca)
  rd : ClX.CRead K Ca (.type "type")
  me : ∃ p, ClX.CMet K Ca (.type "type") m p g
theorem se_callC {y m : Str} {pl : Sem Bool} (F : DefOk X.prog X.w X.K X.mg X.base k g ps fn) (T : CmOk X.K X.mg c Ca m g) (ha : SndA X [] W (e :: es) dr) (hx : nameOf c = y) (hg : Gl X y) (hr : Room k X.A) (tk : Takes X W) (hd : (y == ("__debug__" : Str)) = false := by decide)
    (hst : starEach (e :: es) X.env = (false, eval e X.env) :: starEach es X.env := by rfl) (hpl : (backTo pos (starEach es X.env)).any (·.1) = false := by rfl)
    (ht : eval (.Call (.Attribute (.Name y p) m apos) (e :: es) [] pos) X.env = (do
      let ov ← eval (.Name y p) X.env
      standAt apos.atName
      let (f, first) ← holding [ov] (getMethod ov m pl)
      callWith pos f first (backTo pos (starEach (e :: es) X.env)) (backToKw pos (keywordEach [] X.env))) := by rfl) :
    SndE X [] W (.Call (.Attribute (.Name y p) m apos) (e :: es) [] pos) (dCallC fn c dr) := by
  subst hx
  obtain ⟨⟨fd, F1, F2, F3⟩, kp, ar⟩ := F
  obtain ⟨pm, cm⟩ := T.me
  refine ⟨fun pins s σ H Q I h => ?_⟩
  obtain ⟨as, G, S, rg, rs, h⟩ := h
  have hargs : tDA (rc X []) W dr σ H fun vs H1 => spD X.K X.mg ps.length fn (.ref Ca :: vs) H1 Q fun cls d H' => W cls d σ H' := tD.bind rg rs h fun xs G1 as1 H1 vs e1 rg1 rs1 rxs h1 =>
    spD_of ar rg1 (.cons (by rw [RV]; exact ⟨Ca, T.mg, rfl⟩) rxs) (tF_of h1)
  refine PySem.W.methodCall_KW (pl := pl) (ld_glob I hg T.mg ?_ hd) ht
  refine ClX.getmethcm_ok I T.rd cm fun s2 I2 => ?_
  refine ClX.callwith_cm I2 (ClX.base_none I (Nat.le_refl _)) cm.fi (thn (ha.run pos _ s2 σ H _ I2 hargs) fun us s3 ⟨vs, H2, I3, rv, q2⟩ => ⟨⟨ClX.pin_at I3, I3.kIn⟩, ?_⟩) hst hpl
  have r2 : Vals (.ref Ca :: vs) (Value.ref Ca :: us) := .cons rfl rv
  have hl : ((Value.ref Ca :: us) ++ []).length = ps.length := by rw [List.append_nil, ← r2.length]; exact F1.len _ _ _ _ q2
  have b := F2 s3 (.ref Ca :: us) I3.kIn hl
  rw [List.append_nil] at b
  exact thn (wpAny_call (PySem.W.method_call (ClX.pin_at I3) (run_any F1 hr (L2.passAt tk σ) I3 b r2 q2))) fun _ _ z => ClX.unpinE z
/-- cls(..), cls a local name -/
theorem se_makeV (i : Nat) (F : DefOk X.prog X.w X.K X.mg X.base k g ps fn) (T : ClsOk X.K X.mg c Ca) (M : Mk X.K Ca g) (ha : SndA X [] W (e :: es) dr) (hr : Room (k + 1) X.A) (hN : X.N[i]? = some x := by rfl) (hv : Vis X.env.scope x := by first | exact .inl rfl | exact .inr (.inl rfl) | exact .inr (.inr rfl))
    (hdb : (x == ("__debug__" : Str)) = false := by decide) (hcd : (x == ("__classdict__" : Str)) = false := by decide)
    (he : starEach (e :: es) X.env = (false, eval e X.env) :: starEach es X.env := by rfl) (hpl : (backTo pos (starEach es X.env)).any (·.1) = false := by rfl) :
    SndE X [] W (.Call (.Name x p) (e :: es) [] pos) (dMakeV c fn (dVar i) dr) := by
  obtain ⟨⟨fd, F1, F2, _⟩, kp, ar⟩ := F
  refine ⟨fun pins s σ H Q I h => ?_⟩
  obtain ⟨as, G, S, rg, rs, h⟩ := h
  have h0 : tVar i σ H fun v H1 => v = .ref Ca ∧ H1 = H := by
    unfold dMakeV dVar at h
    cases q : S[i]? with
    | none => rw [q] at h; exact h.elim
    | some o =>
      cases o with
      | none => rw [q] at h; exact h.elim
      | some u =>
        rw [q] at h
        simp only [R.bind_ok] at h
        split at h
        · rename_i hu
          obtain ⟨v, hv2, rv⟩ := rs.2 i u q
          rw [hu, RV] at rv
          obtain ⟨a, ha2, hva⟩ := rv
          have : a = Ca := T.same ha2
          exact ⟨v, hv2, by rw [hva, this], rfl⟩
        · exact h.elim
  have h1 : tDA (rc X []) W dr σ H fun vs H1 => ∀ x dx, H1 x = none → H1 dx = none → dx ≠ x → spD X.K X.mg ps.length fn (.ref x :: (vs ++ [])) (upd (upd H1 dx (.own x)) x (.ins Ca dx [])) (fun v H2 => v = .non ∧ Q (.ref x) H2) E0 := by
    have h2 : tR (rc X []) W (RV (rc X [])) (dMake c fn dr S G) as H σ Q := by
      unfold dMakeV dVar at h
      cases q : S[i]? with
      | none => rw [q] at h; exact h.elim
      | some o =>
        cases o with
        | none => rw [q] at h; exact h.elim
        | some u =>
          rw [q] at h
          simp only [R.bind_ok] at h
          split at h
          · exact h
          · exact h.elim
    exact tD.bind rg rs h2 fun xs G1 as1 H1 vs e1 rg1 rs1 rxs h1 => make_go T ar rg1 rxs h1
  refine wpAny_Call_Name_kw (thn ((pe_var (pos := p) hN hv hdb hcd).run pins s σ H _ I h0) fun u s1 ⟨v, H1, I1, r1, q1⟩ => ?_)
  obtain ⟨rfl, rfl⟩ := q1
  cases r1
  refine PySem.W.callWith_K (h₀ := X.base) I.ok.mod.kin M.kp (thn (ha.run pos pins s1 σ _ _ I1 h1) fun us s2 ⟨vs, H2, I2, r, q⟩ => ⟨I2.kIn, ?_⟩) he hpl
  exact run_make M F1 hr F2 (.nil : Vals [] []) passL I2 r q
/-! ### texts -/
theorem se_fmt {lit : List Nat} {l : Str} {d : DE} {j : Nat} {p1 p2 : Pos} (he : SndE X ep W e d) (hl : l = mkS lit := by first | rfl | decide +kernel) (ok : sOk lit = true := by decide +kernel) (hsz : lit.length ≤ LIM := by decide) :
    SndE X ep W (.JoinedStr [.Constant (.str l) j p1, .FormattedValue e (-1) none p2] pos) (dFmt lit d) := by
  subst hl
  refine (pe_joined (.cons pe_str (.cons (pe_fmt he) .nil))).imp fun σ H Q ⟨as, G, S, rg, rs, h⟩ => ?_
  have z0 : (Str.empty ++ mkS lit) = mkS lit := by show Str.mk _ = _; simp [Str.empty]
  refine ⟨mkS lit, rfl, by rw [z0]; exact hsz, tD.bind rg rs h fun x G1 as1 H1 x' e1 rg1 rs1 rx h1 => ?_⟩
  cases x with
  | str s =>
    simp only at h1
    split at h1
    · rename_i hsz2
      have hs := rx.str
      have hok := rx.sok
      have z1 : (Str.empty ++ mkS lit ++ mkS s) = mkS (lit ++ s) := by rw [z0]; show Str.mk _ = _; simp
      have hle : (mkS s).length ≤ sizeLine := by
        show (mkS s).cps.size ≤ 16777216
        have : lit.length + s.length ≤ 16777216 := hsz2
        simp
        omega
      refine .inl ⟨mkS s, hs, hle, mkS s, rfl, ?_, ?_⟩
      · rw [z1]
        show (mkS (lit ++ s)).cps.size ≤ 16777216
        simp
        exact hsz2
      · show Q _ _
        rw [z1]
        exact h1 as1 H1 _ .refl rg1 (.mkStr (by unfold sOk at ok hok ⊢; rw [List.all_append, ok, hok]; rfl))
    · exact h1.elim
  | _ => exact h1.elim
/-! ### list(range(n)) -/
theorem rv_upTo {C : RC} {as : List Addr} {H : Hp} : ∀ (n : Nat) (lo : Int), RVs C as H (upTo lo n) ((List.range n).map fun i => V.int (lo + (i : Nat)))
  | 0, lo => .nil
  | n + 1, lo => by
    rw [List.range_succ_eq_map, List.map_cons, List.map_map, upTo]
    refine .cons (by rw [RV]; simp) ?_
    have q := rv_upTo (C := C) (as := as) (H := H) n (lo + 1)
    have e : ((fun i : Nat => V.int (lo + (i : Nat))) ∘ Nat.succ) = fun i : Nat => V.int (lo + 1 + (i : Nat)) := by
      funext i
      show V.int _ = V.int _
      congr 1
      push_cast
      omega
    rw [e]
    exact q
theorem se_listRg {a : Expr} {d : DE} {p2 pos2 : Pos} (ha : SndE X ep W a d) (hc : X.calm = true) (hg : Gl X "list") (hm : X.mg "list" = none) (hg2 : Gl X "range") (hm2 : X.mg "range" = none) (na : starEach [a] X.env = (false, eval a X.env) :: starEach [] X.env := by rfl)
    (nb : starEach [.Call (.Name "range" p2) [a] [] pos2] X.env = (false, eval (.Call (.Name "range" p2) [a] [] pos2) X.env) :: starEach [] X.env := by rfl) :
    SndE X ep W (.Call (.Name "list" p) [.Call (.Name "range" p2) [a] [] pos2] [] pos) (dListRg d) := by
  refine (pe_listRg hc hg hm (prg_1 hg2 hm2 ha na) nb).imp fun σ H Q ⟨as, G, S, rg, rs, h⟩ => tD.bind rg rs h fun x G1 as1 H1 x' e1 rg1 rs1 rx h1 => ?_
  cases x with
  | int n =>
    simp only at h1
    split at h1
    · rename_i hn
      have hn' := Nat.le_of_ble_eq_true hn
      refine ⟨n, rx.int, ⟨by decide, by decide, by omega, by omega, by omega⟩, fun q hq => ?_⟩
      have ho : RO (rc X ep) as1 H1 (.lst (upTo 0 n.toNat)) (.lst (rgV 0 n)) := ⟨_, rfl, by
        have q := rv_upTo (C := rc X ep) (as := as1) (H := H1) n.toNat 0
        unfold rgV
        rw [Int.sub_zero]
        exact q⟩
      exact h1 _ _ _ (Ext.new hq) (rg1.new hq ho) (.mkRef rg1.newAt)
    · exact h1.elim
  | _ => exact h1.elim
/-! ### a table of the module -/
/-- at x: a written dict with text keys -/
structure TabOk (K : PySem.W.Frag) (w : World) (mg : Str → Option Value) (x : Str) (tb : List (List Nat × VV)) : Prop where
  ex : ∃ d es n, mg x = some (.ref d) ∧ KDict K w d es n ∧ ∀ s, match tblGet s tb with
    | some c => ∃ u v, PySem.W.nsIn K d (mkS s) = some (some u) ∧ RelV v u ∧ RVc K mg c v
    | none => PySem.W.nsIn K d (mkS s) = some none
theorem se_getC {f : Expr} {tb : List (List Nat × VV)} {da df : DE} (T : TabOk X.K X.w X.mg x tb) (ha : SndE X ep W e da) (hf : SndE X ep W f df) (hg : Gl X x) (m : M2 X (.Name x p) "get" apos e f pos := by exact ⟨by rfl, by rfl, by rfl, by rfl⟩) (hd : (x == ("__debug__" : Str)) = false := by decide) :
    SndE X ep W (.Call (.Attribute (.Name x p) "get" apos) [e, f] [] pos) (dGetC tb da df) := by
  obtain ⟨d, es, n, hm, D, hk⟩ := T.ex
  refine ⟨fun pins s σ H Q I h => ?_⟩
  obtain ⟨as, G, S, rg, rs, h⟩ := h
  have hargs : tDE (rc X ep) W da σ H fun y H1 => tDE (rc X ep) W df σ H1 fun z H2 => ∃ t, y = .str (mkS t) ∧ (match tblGet t tb with
      | some c => ∃ u v, PySem.W.nsIn X.K d (mkS t) = some (some u) ∧ RelV v u ∧ Q v H2
      | none => PySem.W.nsIn X.K d (mkS t) = some none ∧ Q z H2) :=
    tD.bind rg rs h fun y G1 as1 H1 y' e1 rg1 rs1 ry h1 => tD.bind rg1 rs1 h1 fun z G2 as2 H2 z' e2 rg2 rs2 rz h2 => by
      cases y with
      | str t =>
        have q := hk t
        refine ⟨t, ry.str, ?_⟩
        simp only at h2
        cases c : tblGet t tb with
        | none =>
          rw [c] at h2 q
          exact ⟨q, h2 as2 H2 _ .refl rg2 rz⟩
        | some v0 =>
          rw [c] at h2 q
          obtain ⟨u, v, q1, q2, q3⟩ := q
          exact ⟨u, v, q1, q2, h2 as2 H2 _ .refl rg2 (q3 _ _ _)⟩
      | _ => exact h2.elim
  have typ : ∀ {s : Shared} {σ : St} {H : Hp} {pins : List (Addr × Obj)}, Inv X pins σ H s → s.TypeIs (.ref d) "dict" ∧ (∀ b, Value.ref d = .ref b → ∃ ob, s.heap.get? b = some ob ∧ ob.dict = none) := fun I => by
    refine ⟨kd_type D I, fun b q => ?_⟩
    cases q
    exact ⟨_, I.kIn d _ D.at_, rfl⟩
  refine wpAny_Call_method m.base m.few m.line PySem.F.plainAttrs_dict PySem.F.slot_dict_get PySem.F.type_dict_get (ld_glob I hg hm ⟨(typ I).1, (typ I).2, ?_⟩ hd)
  rw [m.trees]
  refine Calls.callWith_builtin rfl (Calls.evalArgs_plain (Calls.spliced_cons (thn (ha.run pins s σ H _ I hargs) fun iv s2 ⟨y, H2, I2, ry, q2⟩ =>
    Calls.spliced_cons (thn (hf.run pins s2 σ H2 _ I2 q2) fun fv s3 ⟨z, H3, I3, rz, t, ey, q3⟩ => Calls.spliced_nil ?_))))
  subst ey
  obtain ⟨tk, rfl⟩ := ry
  refine call_meetsIn PySem.F.slot_dict_get (typ I3).1 PySem.F.entry_dict_get (PySem.F.args_dict_get_3 _ _ _) (meets_dict_get_default (strKind X.prog X.w) d (strKind_is X.prog X.w (mkS t) tk) D.low fv) ⟨_, PySem.W.mapOf_K (prog := X.prog) (w := X.w) I3.kIn D.at_ D.lit, ?_⟩
  cases c : tblGet t tb with
  | none =>
    rw [c] at q3
    rw [PySem.W.find_K D.at_ q3.1]
    exact ⟨z, H3, I3.tok _, rz, q3.2⟩
  | some v0 =>
    rw [c] at q3
    obtain ⟨u, v, q4, q5, q6⟩ := q3
    rw [PySem.W.find_K D.at_ q4]
    exact ⟨v, H3, I3.tok _, q5, q6⟩
end
end DL
end S_Rules8
section S_Rules9
set_option Elab.async false
set_option linter.all false
set_option maxRecDepth 100000
set_option maxHeartbeats 2000000
/-! Rules9: a def's body keeps the promise of its denotation. -/
namespace DL
open PySem PySem.Spec PyProof.Rows L2
section
variable {C : RC} {as bs : List Addr} {H H' : Hp}
mutual
theorem RV.closed : ∀ {x : VV} {v : V}, RV C as H x v → closedV as.length x = true
  | .non, _, _ => by rw [closedV]; all_goals simp
  | .bl _, _, _ => by rw [closedV]; all_goals simp
  | .int _, _, _ => by rw [closedV]; all_goals simp
  | .str _, _, _ => by rw [closedV]; all_goals simp
  | .ref i, _, h => by
    obtain ⟨a, ha, _⟩ := h.ref
    rw [closedV]
    exact decide_eq_true (List.getElem?_eq_some_iff.mp ha).1
  | .tup xs, _, h => by
    obtain ⟨a, ys, _, _, r⟩ := h.tup
    rw [closedV]
    exact RVs.closed r
  | .exc _ _, _, h => by rw [RV] at h; exact h.elim
  | .clo _ _, _, h => by rw [RV] at h; exact h.elim
  | .cls _, _, _ => by rw [closedV]; all_goals simp
theorem RVs.closed : ∀ {x : List VV} {v : List V}, RVs C as H x v → closedL as.length x = true
  | [], _, _ => by rw [closedL]
  | x :: xs, _, h => by
    rw [RVs] at h
    obtain ⟨y, zs, _, h1, h2⟩ := h
    rw [closedL, RV.closed h1, RVs.closed h2]
    rfl
end
theorem RFs.closed : ∀ {x : List (Nat × VV)} {v : List (Str × V)}, RFs C as H x v → closedF as.length x = true
  | [], _, _ => by rw [closedF]
  | (n, x) :: xs, _, h => by
    obtain ⟨y, zs, _, h1, h2⟩ := h
    rw [closedF, RV.closed h1, RFs.closed h2]
    rfl
theorem RKs.closed : ∀ {x : List (VV × VV)} {v : List (Key × V)}, RKs C as H x v → closedK as.length x = true
  | [], _, _ => by rw [closedK]
  | (n, x) :: xs, _, h => by
    obtain ⟨k, y, zs, _, hk, h1, h2⟩ := h
    have e : closedV as.length n = true := by
      cases n with
      | int i => rw [closedV] <;> simp
      | str s => rw [closedV] <;> simp
      | _ => exact hk.elim
    rw [closedK, RV.closed h1, RKs.closed h2, e]
    rfl
theorem RO.closed : ∀ {o : VO} {h : HO}, RO C as H o h → closedO as.length o = true
  | .lst _, _, h => by obtain ⟨ys, _, r⟩ := h; exact r.closed
  | .flst _, _, h => by obtain ⟨ob, ys, _, r⟩ := h; exact r.closed
  | .dic _, _, h => by obtain ⟨ys, _, r⟩ := h; exact r.closed
  | .ins _ _, _, h => by obtain ⟨Ca, dx, ys, _, _, r⟩ := h; exact r.closed
mutual
theorem RV.chop : ∀ {x : VV} {v : V}, closedV as.length x = true → RV C (as ++ bs) H x v → RV C as H x v
  | .non, _, _, h => by rw [RV] at h ⊢; exact h
  | .bl _, _, _, h => by rw [RV] at h ⊢; exact h
  | .int _, _, _, h => by rw [RV] at h ⊢; exact h
  | .str _, _, _, h => by rw [RV] at h ⊢; exact h
  | .ref i, _, c, h => by
    obtain ⟨a, ha, hv⟩ := h.ref
    rw [closedV] at c
    rw [List.getElem?_append_left (of_decide_eq_true c)] at ha
    rw [hv]
    exact .mkRef ha
  | .tup xs, _, c, h => by
    obtain ⟨a, ys, hv, ht, r⟩ := h.tup
    rw [closedV] at c
    rw [hv]
    exact .mkTup ht (RVs.chop c r)
  | .exc _ _, _, _, h => by rw [RV] at h; exact h.elim
  | .clo _ _, _, _, h => by rw [RV] at h; exact h.elim
  | .cls _, _, _, h => by rw [RV] at h ⊢; exact h
theorem RVs.chop : ∀ {x : List VV} {v : List V}, closedL as.length x = true → RVs C (as ++ bs) H x v → RVs C as H x v
  | [], _, _, h => by rw [RVs] at h ⊢; exact h
  | x :: xs, _, c, h => by
    rw [RVs] at h ⊢
    rw [closedL, Bool.and_eq_true] at c
    obtain ⟨y, zs, e, h1, h2⟩ := h
    exact ⟨y, zs, e, RV.chop c.1 h1, RVs.chop c.2 h2⟩
end
theorem RFs.chop : ∀ {x : List (Nat × VV)} {v : List (Str × V)}, closedF as.length x = true → RFs C (as ++ bs) H x v → RFs C as H x v
  | [], _, _, h => h
  | (n, x) :: xs, _, c, h => by
    rw [closedF, Bool.and_eq_true] at c
    obtain ⟨y, zs, e, h1, h2⟩ := h
    exact ⟨y, zs, e, RV.chop c.1 h1, RFs.chop c.2 h2⟩
theorem RKs.chop : ∀ {x : List (VV × VV)} {v : List (Key × V)}, closedK as.length x = true → RKs C (as ++ bs) H x v → RKs C as H x v
  | [], _, _, h => h
  | (n, x) :: xs, _, c, h => by
    rw [closedK, Bool.and_eq_true, Bool.and_eq_true] at c
    obtain ⟨k, y, zs, e, hk, h1, h2⟩ := h
    exact ⟨k, y, zs, e, hk, RV.chop c.2.1 h1, RKs.chop c.2.2 h2⟩
theorem RO.chop : ∀ {o : VO} {h : HO}, closedO as.length o = true → RO C (as ++ bs) H o h → RO C as H o h
  | .lst _, _, c, h => by obtain ⟨ys, e, r⟩ := h; exact ⟨ys, e, r.chop c⟩
  | .flst _, _, c, h => by obtain ⟨ob, ys, e, r⟩ := h; exact ⟨ob, ys, e, r.chop c⟩
  | .dic _, _, c, h => by obtain ⟨ys, e, r⟩ := h; exact ⟨ys, e, r.chop c⟩
  | .ins _ _, _, c, h => by obtain ⟨Ca, dx, ys, e1, e, r⟩ := h; exact ⟨Ca, dx, ys, e1, e, r.chop c⟩
theorem closedG_at {n : Nat} : ∀ {G G1 : Hv} {i : Nat} {o : VO}, closedG n G G1 = true → G1[i]? = some o → G[i]? = some o ∨ closedO n o = true
  | [], [], i, o, _, h => by simp at h
  | [], _ :: _, _, _, c, _ => by simp [closedG] at c
  | _ :: _, [], _, _, c, _ => by simp [closedG] at c
  | a :: G, b :: G1, 0, o, c, h => by
    simp at h
    subst h
    simp only [closedG, Bool.and_eq_true, Bool.or_eq_true, decide_eq_true_eq] at c
    rcases c.1 with e | e
    · exact .inl (by simp [e])
    · exact .inr e
  | a :: G, b :: G1, i + 1, o, c, h => by
    simp only [closedG, Bool.and_eq_true] at c
    have := closedG_at (i := i) (o := o) c.2 (by simpa using h)
    simpa using this
/-- what is no longer reached is dropped -/
theorem tF_gc {G : Hv} {r : R VV} {Q : VK} {E : XK} (rg : RelG C as G H) (h : tF C (gcR G r) as H Q E) : tF C r as H Q E := by
  cases r with
  | ok v G1 =>
    unfold gcR at h
    simp only at h
    split at h
    · rename_i hc
      rw [Bool.and_eq_true] at hc
      intro as' H1 v' e1 rg1 rv
      obtain ⟨⟨cs, rfl⟩, ht, hfr, hnw⟩ := e1
      have hlen : as.length = G.length := rg.len
      have hle : G.length ≤ G1.length := by rw [← rg1.len, List.length_append, hlen]; exact Nat.le_add_right _ _
      have lt : (G1.take G.length).length = G.length := by rw [List.length_take]; omega
      have e0 : Ext as H as H1 := ⟨⟨[], by simp⟩, ht, hfr, fun a h => .inl h⟩
      refine h as H1 v' e0 ⟨by rw [lt]; exact hlen, rg.nd, fun i o hi => ?_⟩ (RV.chop (by rw [hlen]; exact hc.1) rv)
      have hi2 : i < G.length := by
        have := (List.getElem?_eq_some_iff.mp hi).1
        rw [lt] at this
        exact this
      have hi3 : G1[i]? = some o := by rw [List.getElem?_take_of_lt hi2] at hi; exact hi
      obtain ⟨a, ho, h1, h2, h3⟩ := rg1.ob i o hi3
      rw [List.getElem?_append_left (by omega)] at h1
      refine ⟨a, ho, h1, h2, RO.chop ?_ h3⟩
      rcases closedG_at hc.2 hi with hg | hg
      · obtain ⟨b, hb, _, _, h5⟩ := rg.ob i o hg
        exact h5.closed
      · rw [hlen]; exact hg
    · exact h
  | exn _ _ => exact h
  | bad => exact h
theorem rs_start {n : Nat} {N : List Str} (hN : N.length = n) : ∀ {xs : List VV} {vs : List V}, RVs C as H xs vs → xs.length ≤ n → RS C as H (DL.start n xs) (L2.start N vs) := fun {xs vs} r hl => by
  refine ⟨?_, fun i x hi => ?_⟩
  · unfold DL.start L2.start
    simp [r.length, hN]
  · unfold DL.start at hi
    unfold L2.start
    by_cases h : i < xs.length
    · rw [List.getElem?_append_left (by simpa using h)] at hi
      rw [List.getElem?_map, List.getElem?_eq_getElem h] at hi
      simp at hi
      obtain ⟨u, hu, ru⟩ := r.get (List.getElem?_eq_getElem h)
      rw [List.getElem?_append_left (by rw [List.length_map, ← r.length]; exact h), List.getElem?_map, hu]
      exact ⟨u, rfl, hi ▸ ru⟩
    · rw [List.getElem?_append_right (by simpa using h)] at hi
      rw [List.getElem?_replicate] at hi
      split at hi <;> cases hi
end
section
variable {C : RC} {as bs : List Addr} {H : Hp}
mutual
theorem RV.shift : ∀ {x : VV} {v : V}, RV C bs H x v → RV C (as ++ bs) H (shV as.length x) v
  | .non, _, h => by rw [shV]; all_goals first | (rw [RV] at h ⊢; exact h) | simp
  | .bl _, _, h => by rw [shV]; all_goals first | (rw [RV] at h ⊢; exact h) | simp
  | .int _, _, h => by rw [shV]; all_goals first | (rw [RV] at h ⊢; exact h) | simp
  | .str _, _, h => by rw [shV]; all_goals first | (rw [RV] at h ⊢; exact h) | simp
  | .ref i, _, h => by
    obtain ⟨a, ha, hv⟩ := h.ref
    rw [shV, hv]
    exact .mkRef (by rw [List.getElem?_append_right (Nat.le_add_right _ _), Nat.add_sub_cancel_left]; exact ha)
  | .tup xs, _, h => by
    obtain ⟨a, ys, hv, ht, r⟩ := h.tup
    rw [shV, hv]
    exact .mkTup ht (RVs.shift r)
  | .exc _ _, _, h => by rw [RV] at h; exact h.elim
  | .clo _ _, _, h => by rw [RV] at h; exact h.elim
  | .cls _, _, h => by rw [shV]; all_goals first | (rw [RV] at h ⊢; exact h) | simp
theorem RVs.shift : ∀ {x : List VV} {v : List V}, RVs C bs H x v → RVs C (as ++ bs) H (shL as.length x) v
  | [], _, h => by rw [shL]; rw [RVs] at h ⊢; exact h
  | x :: xs, _, h => by
    rw [shL]
    rw [RVs] at h ⊢
    obtain ⟨y, zs, e, h1, h2⟩ := h
    exact ⟨y, zs, e, RV.shift h1, RVs.shift h2⟩
end
theorem RFs.shift : ∀ {x : List (Nat × VV)} {v : List (Str × V)}, RFs C bs H x v → RFs C (as ++ bs) H (shF as.length x) v
  | [], _, h => by rw [shF]; exact h
  | (n, x) :: xs, _, h => by
    obtain ⟨y, zs, e, h1, h2⟩ := h
    rw [shF]
    exact ⟨y, zs, e, RV.shift h1, RFs.shift h2⟩
theorem RKs.shift : ∀ {x : List (VV × VV)} {v : List (Key × V)}, RKs C bs H x v → RKs C (as ++ bs) H (shK as.length x) v
  | [], _, h => h
  | (n, x) :: xs, _, h => by
    obtain ⟨k, y, zs, e, hk, h1, h2⟩ := h
    exact ⟨k, y, zs, e, hk, RV.shift h1, RKs.shift h2⟩
theorem RO.shift : ∀ {o : VO} {h : HO}, RO C bs H o h → RO C (as ++ bs) H (shO as.length o) h
  | .lst _, _, h => by obtain ⟨ys, e, r⟩ := h; exact ⟨ys, e, r.shift⟩
  | .flst _, _, h => by obtain ⟨ob, ys, e, r⟩ := h; exact ⟨ob, ys, e, r.shift⟩
  | .dic _, _, h => by obtain ⟨ys, e, r⟩ := h; exact ⟨ys, e, r.shift⟩
  | .ins _ _, _, h => by obtain ⟨Ca, dx, ys, e1, e, r⟩ := h; exact ⟨Ca, dx, ys, e1, e, r.shift⟩
theorem RX.shift : ∀ {x : VV} {c : Value} {d : Option Addr}, RX C bs H x c d → RX C (as ++ bs) H (shV as.length x) c d
  | .exc c fs, _, _, h => by
    obtain ⟨Ca, h1, h2, h3⟩ := h
    rw [shV]
    refine ⟨Ca, h1, h2, ?_⟩
    rcases h3 with ⟨e, e'⟩ | ⟨dd, ys, e1, e2, r⟩
    · exact .inl ⟨by rw [e, shF], e'⟩
    · exact .inr ⟨dd, ys, e1, e2, r.shift⟩
theorem Ext.behind {as bs : List Addr} {H H' : Hp} (e : Ext [] H bs H') : Ext as H (as ++ bs) H' :=
  ⟨⟨bs, rfl⟩, e.tup, fun a o h _ => e.fr a o h (by simp), fun a h => (List.mem_append.mp h).imp id fun m => ((e.nw a m).resolve_left (by simp))⟩
theorem RelG.behind {G G1 : Hv} {H' : Hp} (rg : RelG C as G H) (e : Ext [] H bs H') (r1 : RelG C bs G1 H') : RelG C (as ++ bs) (G ++ G1.map (shO G.length)) H' := by
  have hl := rg.len
  have hm : ∀ a ∈ as, ∃ o, H a = some o := fun a m => by
    obtain ⟨i, hi⟩ := List.getElem?_of_mem m
    have hlt : i < G.length := by rw [← hl]; exact (List.getElem?_eq_some_iff.mp hi).1
    obtain ⟨b, h, h1, h2, _⟩ := rg.ob i G[i] (List.getElem?_eq_getElem hlt)
    rw [hi] at h1
    cases h1
    exact ⟨h, h2⟩
  refine ⟨by simp [hl, r1.len], ?_, fun i o hi => ?_⟩
  · rw [List.nodup_append]
    refine ⟨rg.nd, r1.nd, fun a ha b hb => ?_⟩
    rintro rfl
    obtain ⟨o, ho⟩ := hm a ha
    have := (e.nw a hb).resolve_left (by simp)
    rw [this] at ho
    cases ho
  · by_cases h : i < G.length
    · rw [List.getElem?_append_left h] at hi
      obtain ⟨a, ho, h1, h2, h3⟩ := rg.ob i o hi
      exact ⟨a, ho, by rw [List.getElem?_append_left (by omega)]; exact h1, e.fr a ho h2 (by simp), h3.mono e.behind⟩
    · rw [List.getElem?_append_right (by omega), List.getElem?_map] at hi
      cases q : G1[i - G.length]? with
      | none => rw [q] at hi; cases hi
      | some o1 =>
        rw [q] at hi
        cases hi
        obtain ⟨a, ho, h1, h2, h3⟩ := r1.ob _ o1 q
        refine ⟨a, ho, ?_, h2, hl ▸ h3.shift⟩
        rw [List.getElem?_append_right (by omega), hl]
        exact h1
theorem tF_behind {G : Hv} {r : R VV} {Q : VK} {E : XK} (rg : RelG C as G H) (h : tF C (reloc G r) as H Q E) : tF C r [] H Q E := by
  have hl := rg.len
  cases r with
  | ok v G1 => exact fun bs H1 v' e1 rg1 rv => h (as ++ bs) H1 v' e1.behind (rg.behind e1 rg1) (hl ▸ rv.shift)
  | exn x G1 => exact fun bs H1 cls d e1 rg1 rx => h (as ++ bs) H1 cls d e1.behind (rg.behind e1 rg1) (hl ▸ rx.shift)
  | bad => exact h
theorem RelG.none (H : Hp) : RelG C [] [] H := ⟨rfl, by simp, fun i o h => by simp at h⟩
end
/-- a def's body, read at its entry -/
theorem body_read {K : PySem.W.Frag} {mg : Str → Option Value} {n : Nat} {N ps : List Str} {b : DS} (hN : N.length = n) (hp : ps.length ≤ n) {vs : List V} {H : Hp} {Q : VK} {E : XK} (h : spD K mg ps.length (dDef ps.length n b) vs H Q E) :
    tDS ⟨K, mg, []⟩ (fun cls d _ H => E cls d H) b { nx := fun _ H' => Q .non H', rt := Q } (L2.start N vs) H := by
  obtain ⟨hl, as, G, xs, rg, r, h⟩ := h
  have hx : xs.length = ps.length := by rw [r.length]; exact hl
  unfold dDef at h
  rw [if_pos hx] at h
  obtain ⟨as, G, rg, r, h⟩ : ∃ as G, RelG ⟨K, mg, []⟩ as G H ∧ RVs ⟨K, mg, []⟩ as H xs vs ∧ tF ⟨K, mg, []⟩ (outR (b (DL.start n xs) G)) as H Q E := by
    split at h
    · rename_i hc
      exact ⟨[], [], RelG.none H, RVs.chop (as := []) (bs := as) hc r, tF_gc (RelG.none H) (tF_behind rg h)⟩
    · exact ⟨as, G, rg, r, tF_gc rg h⟩
  refine ⟨as, G, DL.start n xs, rg, rs_start hN r (by omega), ?_⟩
  cases q : b (DL.start n xs) G with
  | nx S1 G1 => rw [q] at h; exact fun as' H' σ' e rg' rs' => h as' H' .non e rg' .mkNon
  | rt v G1 => rw [q] at h; exact h
  | exn x S1 G1 => rw [q] at h; exact fun as' H' σ' cls d e rg' rs' rx => h as' H' cls d e rg' rx
  | bk _ _ => rw [q] at h; exact h.elim
  | ct _ _ => rw [q] at h; exact h.elim
  | bad => rw [q] at h; exact h.elim
/-- THE RULE for a def -/
theorem def_ok {P : Program} {w : World} {K : PySem.W.Frag} {mg : Str → Option Value} {base : Heap} {x qual : Str} {params : Arguments} {body : List Stmt} {scope : Scope} {f : Addr} {fd : FuncData} {N ps : List Str} {k n : Nat} {b : DS}
    (F : FunD K x qual params body scope [] [] f fd) (S : FnScope N ps scope) (hN : N.length = n) (hp : ps.length ≤ n)
    (hb : ∀ (kV doc pm : Value) (an : Option Addr) (cdv ct : Value) (us : List Value), us.length = ps.length → bindArgs (PySem.W.fnOf x qual params body scope .none kV doc pm an cdv ct) ⟨us, []⟩ = pure (ps.zip us))
    (hbody : ∀ (cdv : Value) (A : Around) (outer : List PySem.Env) (s : Shared) (H : Hp) (E : XK), Room k (A.deeper (envOfC qual scope s.heap.objs.size f cdv)) → SndSs (cxOf (L2.CX P w) P w K mg base N qual scope f cdv A outer s H E) [] (fun cls d _ H => E cls d H) body b) :
    DefOk P w K mg base (k + 1) f ps (dDef ps.length n b) := by
  refine ⟨⟨fd, F.ok S (fun vs H Q E h => h.1) (fun cdv A outer s H vs Q E hr h => ⟨_, hbody cdv A outer s H E hr, body_read hN hp h⟩), F.bindsN hb, ?_⟩, F.kp, fun vs G h => ?_⟩
  · obtain ⟨oc, od, dV, kV, doc, pm, an, cdv, ct, osl, rfl, lk, _⟩ := F.ex
    exact ⟨oc, od, osl, lk⟩
  · unfold dDef
    rw [if_neg h]
/-- keywords, from the def -/
theorem kw_of {K : PySem.W.Frag} {x qual : Str} {params : Arguments} {body : List Stmt} {scope : Scope} {f : Addr} {ps ks : List Str} {ix : List Nat} (F : ∃ fd, FunD K x qual params body scope [] [] f fd)
    (h : ∀ (kV doc pm : Value) (an : Option Addr) (cdv ct : Value) (ws us : List Value), ws.length = ks.length → mapO (fun i => ws[i]?) ix = some us → bindArgs (PySem.W.fnOf x qual params body scope .none kV doc pm an cdv ct) ⟨[], ks.zip ws⟩ = pure (ps.zip us)) : KwOk K f ps ks ix := by
  obtain ⟨fd, F⟩ := F
  obtain ⟨oc, od, dV, kV, doc, pm, an, cdv, ct, osl, rfl, lk, hcd, hD, hK⟩ := F.ex
  rcases hD with ⟨_, rfl⟩ | ⟨e, _⟩
  · exact ⟨_, ⟨oc, od, osl, lk⟩, fun s ws us hl hu => .of_eq (h kV doc pm an cdv ct ws us hl hu)⟩
  · exact absurd rfl e
/-- how the law's value meets the promise -/
theorem law_read {K : PySem.W.Frag} {mg : Str → Option Value} {fn : Fn} {H : Hp} {a : Addr} {ns : List Int} {G : Hv} (hH : ∃ ob, H a = some (.frz ob (.lst (ns.map V.int)))) (h : fn [.ref 0] [.flst (ns.map VV.int)] = .ok (.bl true) G) :
    spD K mg 1 fn [.ref a] H (fun v _ => v = .bl true) fun _ _ _ => False := by
  obtain ⟨ob, hH⟩ := hH
  have rints : ∀ l : List Int, RVs ⟨K, mg, []⟩ [a] H (l.map VV.int) (l.map V.int) := fun l => by
    induction l with
    | nil => exact .nil
    | cons i l ih => exact .cons .mkInt ih
  refine ⟨rfl, [a], [.flst (ns.map VV.int)], [.ref 0], ⟨rfl, by simp, fun i o hi => ?_⟩, .cons (.mkRef rfl) .nil, ?_⟩
  · cases i with
    | zero =>
      simp at hi
      subst hi
      exact ⟨a, _, rfl, hH, ob, _, rfl, rints ns⟩
    | succ i => simp at hi
  · rw [h]
    exact fun as' H' v' _ _ rv => rv.bl
end DL
end S_Rules9
section S_Rules10
set_option Elab.async false
set_option linter.all false
set_option maxRecDepth 100000
set_option maxHeartbeats 2000000
/-! Rules10: what the top has laid: the Hook, its facts; the law's end; short forms. -/
namespace DL
open PySem PySem.Spec PyProof.Rows L2 He
/-! ### constants -/
mutual
def relC (K : PySem.W.Frag) : VV → Value → Bool
  | .non, .none => true
  | .bl b, .bool c => b == c
  | .int i, .int j _ => decide (j = i)
  | .str s, .str y _ => decide (y = mkS s) && sOk s
  | .tup xs, .ref T => (match K.lookup T with
    | some ⟨.type c, _, .seq its _, _⟩ => decide (c = "tuple") && (decide (its.size ≤ sizeLine) && relCs K xs its.toList)
    | _ => false)
  | _, _ => false
def relCs (K : PySem.W.Frag) : List VV → List Value → Bool
  | [], [] => true
  | x :: xs, u :: us => relC K x u && relCs K xs us
  | _, _ => false
end
mutual
theorem relC_ok {K : PySem.W.Frag} {mg : Str → Option Value} : ∀ {c : VV} {u : Value}, relC K c u = true → ∃ v, RelV v u ∧ RVc K mg c v
  | .non, u, h => by
    cases u <;> first | (rw [relC] at h; cases h; done) | skip
    all_goals first | exact ⟨.non, rfl, fun _ _ _ => .mkNon⟩ | (simp [relC] at h)
  | .bl b, u, h => by
    cases u with
    | bool c =>
      rw [relC] at h
      obtain rfl : b = c := eq_of_beq h
      exact ⟨.bl b, rfl, fun _ _ _ => .mkBl⟩
    | _ => simp [relC] at h
  | .int i, u, h => by
    cases u with
    | int j t =>
      rw [relC] at h
      obtain rfl : j = i := of_decide_eq_true h
      exact ⟨.int j, ⟨t, rfl⟩, fun _ _ _ => .mkInt⟩
    | _ => simp [relC] at h
  | .str s, u, h => by
    cases u with
    | str y t =>
      rw [relC] at h
      obtain ⟨h1, h2⟩ := ba h
      obtain rfl : y = mkS s := of_decide_eq_true h1
      exact ⟨.str (mkS s), ⟨t, rfl⟩, fun _ _ _ => .mkStr h2⟩
    | _ => simp [relC] at h
  | .tup xs, u, h => by
    cases u with
    | ref T =>
      rw [relC] at h
      cases q : K.lookup T with
      | none => rw [q] at h; cases h
      | some o =>
        obtain ⟨oc, od, dt, osl⟩ := o
        rw [q] at h
        cases oc with
        | type c =>
          cases dt with
          | seq its n =>
            obtain ⟨h1, h2⟩ := ba (show (decide (c = "tuple") && (decide (its.size ≤ sizeLine) && relCs K xs its.toList)) = true from h)
            obtain ⟨h3, h4⟩ := ba h2
            obtain ⟨ys, h5, h6⟩ := relCs_ok (mg := mg) h4
            refine ⟨.ref T, rfl, fun ep as H => .mkTup (.inr ⟨_, its, n, q, congrArg Value.type (of_decide_eq_true h1), rfl, of_decide_eq_true h3, h5⟩) (h6 ep as H)⟩
          | _ => cases h
        | _ => cases dt <;> cases h
    | _ => simp [relC] at h
  | .ref _, u, h => by cases u <;> simp [relC] at h
  | .exc _ _, u, h => by cases u <;> simp [relC] at h
  | .clo _ _, u, h => by cases u <;> simp [relC] at h
  | .cls _, u, h => by cases u <;> simp [relC] at h
theorem relCs_ok {K : PySem.W.Frag} {mg : Str → Option Value} : ∀ {cs : List VV} {us : List Value}, relCs K cs us = true → ∃ vs, Vals vs us ∧ ∀ ep as H, RVs ⟨K, mg, ep⟩ as H cs vs
  | [], [], _ => ⟨[], .nil, fun _ _ _ => .nil⟩
  | [], _ :: _, h => by simp [relCs] at h
  | _ :: _, [], h => by simp [relCs] at h
  | c :: cs, u :: us, h => by
    rw [relCs] at h
    obtain ⟨h1, h2⟩ := ba h
    obtain ⟨v, r1, r2⟩ := relC_ok (mg := mg) h1
    obtain ⟨vs, r3, r4⟩ := relCs_ok (mg := mg) h2
    exact ⟨v :: vs, .cons r1 r3, fun ep as H => .cons (r2 ep as H) (r4 ep as H)⟩
end
def conB (K : PySem.W.Frag) (x : Str) (c : VV) : Bool := match PySem.W.nsIn K mainGlobals x with
  | some (some u) => relC K c u
  | _ => false
/-! ### more facts -/
inductive Fb where
  | prop (C f : Str) | cm (C m : Str) | con (x : Str) (c : VV) | tab (x : Str) (tb : List (List Nat × VV)) | isc (C : Str)
def propB (K : PySem.W.Frag) (C : Addr) (f : Str) : Bool := eqO (PySem.W.findIn K (.ref C) f) (some (some (.ref (ma K C f)))) && (eqO (PySem.W.specialIn K (.ref (ma K C f)) "__get__") (some (some (.builtin "property.__get__"))) &&
  (decide (PySem.W.takesIn K (.ref (ma K C f)) = some true) && (match PySem.W.recIn K (ma K C f) "property" with
    | some (.ref _ :: _) => true
    | _ => false)))
theorem propB_ok {K : PySem.W.Frag} {C : Addr} {f : Str} (h : propB K C f = true) : PropOf K C f (ma K C f) (He5.wf K C "property" f) := by
  obtain ⟨h1, h⟩ := ba h
  obtain ⟨h2, h⟩ := ba h
  obtain ⟨h3, h4⟩ := ba h
  refine ⟨eqO_ok h1, eqO_ok h2, of_decide_eq_true h3, ?_⟩
  unfold He5.wf
  split at h4
  · rename_i g r e
    exact ⟨r, by rw [e]⟩
  · cases h4
def cmB (K : PySem.W.Frag) (C : Addr) (m : Str) : Bool := PySem.W.readsIn K C (.type "type") && (eqO (PySem.W.specialIn K (.ref C) "__getattribute__") (some (some (.builtin "type.__getattribute__"))) &&
  (He5.wrapB K C "classmethod" "classmethod.__get__" m && PySem.W.fnIn K (He5.wf K C "classmethod" m)))
def tabB (K : PySem.W.Frag) (x : Str) (tb : List (List Nat × VV)) : Bool := tb.all fun q => match PySem.W.nsIn K (ga K x) (mkS q.1) with
  | some (some u) => relC K q.2 u
  | _ => false
def iscB (K : PySem.W.Frag) (C : Addr) : Bool := eqO (PySem.W.findIn K (.ref C) "__class__") (some (some (.builtin "object.__class__"))) && (eqO (PySem.W.specialIn K (.builtin "object.__class__") "__get__") (some (some (.builtin "getset_descriptor.__get__"))) &&
  (decide (PySem.W.takesIn K (.builtin "object.__class__") = some true) && (decide (PySem.W.mroIn K C (.type "object") = some true) && decide (PySem.W.kitOne K (.ref C) (.ref C) = some true))))
theorem iscB_ok {K : PySem.W.Frag} {C : Addr} (c : Cls K C) (h : iscB K C = true) : C8.InsC K C := by
  obtain ⟨h1, h⟩ := ba h
  obtain ⟨h2, h⟩ := ba h
  obtain ⟨h3, h⟩ := ba h
  obtain ⟨h4, h5⟩ := ba h
  exact ⟨c, eqO_ok h1, eqO_ok h2, of_decide_eq_true h3, of_decide_eq_true h4, of_decide_eq_true h5⟩
def Fb.ok (K : PySem.W.Frag) : Fb → Bool
  | .isc C => iscB K (ga K C)
  | .prop C f => propB K (ga K C) f
  | .cm C m => cmB K (ga K C) m
  | .con x c => conB K x c
  | .tab x tb => tabB K x tb
section
variable {K : PySem.W.Frag} {h : Heap} {mg : Str → Option Value}
theorem con_ok (X : K.In h) (G : h.Ns mainGlobals mg) {x : Str} {c : VV} (q : (Fb.con x c).ok K = true) : GlobV K mg x c := by
  have q2 : conB K x c = true := q
  unfold conB at q2
  split at q2
  · rename_i u e
    obtain ⟨v, r1, r2⟩ := relC_ok (mg := mg) q2
    exact ⟨u, v, PySem.W.mg_of X G e, r1, r2⟩
  · cases q2
theorem cm_ok (X : K.In h) (G : h.Ns mainGlobals mg) {c : Nat} {C m : Str} (hc : nameOf c = C) (q0 : (Fa.glo C).ok K = true) (q : (Fb.cm C m).ok K = true) : CmOk K mg c (ga K C) m (He5.wf K (ga K C) "classmethod" m) := by
  subst hc
  obtain ⟨h1, q⟩ := ba (show cmB K _ m = true from q)
  obtain ⟨h2, q⟩ := ba q
  obtain ⟨h3, h4⟩ := ba q
  exact ⟨glo_ok X G q0, ⟨h1, eqO_ok h2⟩, _, He5.cmet_of h3 h4⟩
theorem clsOk (X : K.In h) (G : h.Ns mainGlobals mg) {c : Nat} {C : Str} (hc : nameOf c = C) (q0 : (Fa.glo C).ok K = true) (q : (Fa.cls C).ok K = true) : ClsOk K mg c (ga K C) := ⟨by rw [hc]; exact glo_ok X G q0, He.cls_ok q⟩
theorem nsIn_out {a : Addr} {P : Params} {ks : List Str} (hd : dicW K a = some (keysIn P ks)) {z : Str} (hz : z ∉ ks) : PySem.W.nsIn K a z = some none := by
  unfold dicW at hd
  cases q : K.lookup a with
  | none => rw [q] at hd; cases hd
  | some o =>
    obtain ⟨oc, od, dt, osl⟩ := o
    rw [q] at hd
    have es : ∃ (es : Array DictEntry) (n : Nat), dt = .dict es n ∧ es.toList.map He.keyOf = keysIn P ks := by
      cases oc with
      | type c =>
        cases od with
        | none =>
          cases dt with
          | dict es n =>
            refine ⟨es, n, rfl, ?_⟩
            have h1 : (match decide (c = "dict") && (osl.isEmpty && !(a == sysModules)) with
              | true => some (es.toList.map He.keyOf)
              | false => none) = some (keysIn P ks) := hd
            split at h1
            · exact Option.some.inj h1
            · cases h1
          | _ => cases hd
        | some b => cases dt <;> cases hd
      | _ => cases od <;> cases dt <;> cases hd
    obtain ⟨es, n, rfl, he⟩ := es
    unfold PySem.W.nsIn
    rw [q]
    have key : ∀ (l : List DictEntry) (ks : List Str), l.map He.keyOf = keysIn P ks → z ∉ ks → l.find? (fun e => e.key.isStr z) = none ∧ l.any (fun e => e.refKey) = false := fun l => by
      induction l with
      | nil => exact fun _ _ _ => ⟨rfl, rfl⟩
      | cons e r ih =>
        intro ks h hz
        cases ks with
        | nil => cases h
        | cons k ks =>
          have h1 : He.keyOf e :: r.map He.keyOf = some (k, PyData.keyHash P k) :: keysIn P ks := h
          injection h1 with h2 h3
          obtain ⟨i1, i2⟩ := ih ks h3 (fun m => hz (List.mem_cons_of_mem _ m))
          unfold He.keyOf at h2
          split at h2
          · rename_i x t ek
            have hx : x = k := (Prod.mk.inj (Option.some.inj h2)).1
            have ne : z ≠ x := fun e => hz (by rw [e, hx]; exact List.mem_cons_self ..)
            refine ⟨?_, ?_⟩
            · rw [List.find?_cons]
              have : e.key.isStr z = false := by
                rw [ek]
                show (x == z) = false
                exact beq_eq_false_iff_ne.mpr (Ne.symm ne)
              rw [this]
              exact i1
            · rw [List.any_cons, i2, Bool.or_false]
              unfold DictEntry.refKey
              rw [ek]
          · cases h2
    obtain ⟨k1, k2⟩ := key es.toList ks he hz
    show (match es.toList.find? (·.key.isStr z) with
      | some e => some (some e.val)
      | none => if es.toList.any (·.refKey) then none else some none) = some none
    rw [k1]
    show (if es.toList.any (fun e => e.refKey) = true then none else some none) = some none
    rw [k2]
    rfl
theorem tab_ok {w : World} (X : K.In h) (G : h.Ns mainGlobals mg) {x : Str} {tb : List (List Nat × VV)} (q0 : (Fa.glo x).ok K = true) (q : (Fb.tab x tb).ok K = true) (hd : dicW K (ga K x) = some (keysIn w.params (tb.map fun q => mkS q.1))) : TabOk K w mg x tb := by
  obtain ⟨es, n, kd⟩ := dicW_ok hd
  refine ⟨ga K x, es, n, glo_ok X G q0, kd, fun s => ?_⟩
  have hall : ∀ q ∈ tb, ∃ u, PySem.W.nsIn K (ga K x) (mkS q.1) = some (some u) ∧ relC K q.2 u = true := fun p hp => by
    have h2 := List.all_eq_true.mp (show tabB K x tb = true from q) p hp
    split at h2
    · rename_i u e
      exact ⟨u, e, h2⟩
    · cases h2
  have go : ∀ l : List (List Nat × VV), (∀ q ∈ l, q ∈ tb) → match tblGet s l with
      | some c => ∃ u v, PySem.W.nsIn K (ga K x) (mkS s) = some (some u) ∧ RelV v u ∧ RVc K mg c v
      | none => ∀ q ∈ l, q.1 ≠ s := fun l => by
    induction l with
    | nil => exact fun _ q hq => nomatch hq
    | cons p r ih =>
      intro hl
      obtain ⟨k, c⟩ := p
      unfold tblGet
      by_cases e : s = k
      · rw [if_pos e]
        obtain ⟨u, h1, h2⟩ := hall (k, c) (hl _ (List.mem_cons_self ..))
        obtain ⟨v, r1, r2⟩ := relC_ok (mg := mg) h2
        exact ⟨u, v, by rw [e]; exact h1, r1, r2⟩
      · rw [if_neg e]
        have ih2 := ih fun q hq => hl q (List.mem_cons_of_mem _ hq)
        split
        · rename_i c' hc'
          rw [hc'] at ih2
          exact ih2
        · rename_i hc'
          rw [hc'] at ih2
          intro q hq
          rcases List.mem_cons.mp hq with hq | hq
          · rw [hq]; exact Ne.symm e
          · exact ih2 q hq
  have g := go tb fun q hq => hq
  cases c : tblGet s tb with
  | some c => rw [c] at g; exact g
  | none =>
    rw [c] at g
    refine nsIn_out hd fun hm => ?_
    obtain ⟨p, hp, e⟩ := List.mem_map.mp hm
    exact g p hp (mkS_inj e)
end
/-! ### the Hook -/
def notL (o : Obj) : Bool := match o.cls with
  | .type c => !(c == "list")
  | _ => true
/-- nothing in K is a list -/
def NoL (K : PySem.W.Frag) : Prop := ∀ a o, K.lookup a = some o → notL o = true
def frM (g : Addr → Option Obj) (as : List Addr) : PySem.W.Frag := (frG g as).filter fun p => notL p.2
theorem lookup_filter {p : Addr × Obj → Bool} : ∀ {l : List (Addr × Obj)} {a : Addr} {o : Obj}, (l.filter p).lookup a = some o → (a, o) ∈ l ∧ p (a, o) = true := fun {l} => by
  induction l with
  | nil => intro a o h; cases h
  | cons q r ih =>
    intro a o h
    rw [List.filter_cons] at h
    by_cases e : p q = true
    · rw [if_pos e] at h
      obtain ⟨b, ob⟩ := q
      rw [List.lookup_cons] at h
      by_cases hb : a == b
      · rw [hb] at h
        cases h
        obtain rfl : a = b := eq_of_beq hb
        exact ⟨List.mem_cons_self .., e⟩
      · have hb' : (a == b) = false := by simpa using hb
        rw [hb'] at h
        obtain ⟨h1, h2⟩ := ih h
        exact ⟨List.mem_cons_of_mem _ h1, h2⟩
    · rw [if_neg e] at h
      obtain ⟨h1, h2⟩ := ih h
      exact ⟨List.mem_cons_of_mem _ h1, h2⟩
theorem frG_memM {g : Addr → Option Obj} {as : List Addr} {a : Addr} {o : Obj} (h : (a, o) ∈ frG g as) : g a = some o := by
  unfold frG at h
  obtain ⟨b, _, hb⟩ := List.mem_filterMap.mp h
  cases q : g b with
  | none => rw [q] at hb; cases hb
  | some o' =>
    rw [q] at hb
    cases hb
    exact q
theorem frM_in {as : List Addr} {h : Heap} : (frM h.get? as).In h := fun a o e => frG_memM (lookup_filter e).1
theorem frM_noL {g : Addr → Option Obj} {as : List Addr} : NoL (frM g as) := fun a o e => (lookup_filter e).2
abbrev AlM : Type := AlD × List (Option (List (Option (Str × Int))))
def obsM (fa : List Fa) (fb : List Fb) (fn : List He5.DefA) (ts : List Tab) (K : PySem.W.Frag) : AlM := (((fa.all fun f => f.ok K) && ((fb.all fun f => f.ok K) && fn.all fun d => d.ok K), fn.map fun d => He5.fnA K (d.at_ K)), ts.map fun t => dicW K (t.1 K))
def valM (fn : List He5.DefA) (ts : List Tab) (w : World) : AlM := ((true, fn.map He5.DefA.val), ts.map fun t => some (keysIn w.params t.2))
def SaysM (fa : List Fa) (fb : List Fb) (fn : List He5.DefA) (ts : List Tab) (w : World) (K : PySem.W.Frag) : Prop := obsM fa fb fn ts K = valM fn ts w
/-! what some names of the module reach: each address once, by a mask -/
def seenB (m a : Nat) : Bool := Nat.beq (Nat.land (Nat.shiftRight m a) 1) 1
def newA : Nat → List Addr → List Addr
  | _, [] => []
  | m, a :: r => match seenB m a with
    | true => newA m r
    | false => a :: newA (Nat.lor m (Nat.shiftLeft 1 a)) r
def maskA : Nat → List Addr → Nat
  | m, [] => m
  | m, a :: r => maskA (Nat.lor m (Nat.shiftLeft 1 a)) r
def refsA (g : Addr → Option Obj) : List Addr → List Addr
  | [] => []
  | a :: r => (match g a with
    | some o => He.refsD o
    | none => []) ++ refsA g r
def walkA (g : Addr → Option Obj) : Nat → Nat → List Addr → List Addr
  | 0, _, fr => fr
  | n + 1, m, fr => fr ++ walkA g n (maskA m (newA m (refsA g fr))) (newA m (refsA g fr))
def rootsA (g : Addr → Option Obj) (xs : List Str) : List Addr := xs.map (ga (frG g [mainGlobals]))
def asM (g : Addr → Option Obj) (n : Nat) (xs : List Str) : List Addr := mainGlobals :: cStatics :: walkA g n (maskA 0 (mainGlobals :: cStatics :: newA 0 (rootsA g xs))) (newA 0 (rootsA g xs))
def obsMG (n : Nat) (xs : List Str) (fa : List Fa) (fb : List Fb) (fn : List He5.DefA) (ts : List Tab) (g : Addr → Option Obj) : AlM := obsM fa fb fn ts (frM g (asM g n xs))
def hookM (n : Nat) (xs : List Str) (fa : List Fa) (fb : List Fb) (fn : List He5.DefA) (ts : List Tab) : PySem.W.Hook where
  α := AlM
  obs := fun s => obsMG n xs fa fb fn ts s.heap.get?
  val := fun w => valM fn ts w
  says := fun w h => ∃ K : PySem.W.Frag, K.In h ∧ NoL K ∧ SaysM fa fb fn ts w K
  of := fun _ _ e => ⟨_, frM_in, frM_noL, e⟩
  keeps := fun _ _ _ ⟨K, hK, c⟩ k => ⟨K, PySem.W.Frag.In.keeps hK k, c⟩
theorem obsMG_eq {n : Nat} {xs : List Str} {fa : List Fa} {fb : List Fb} {fn : List He5.DefA} {ts : List Tab} {g : Addr → Option Obj} {s : Shared} (h : ∀ a, g a = s.heap.get? a) : obsMG n xs fa fb fn ts g = (hookM n xs fa fb fn ts).obs s := by
  have e : g = s.heap.get? := funext h
  rw [e] <;> rfl
section
variable {fa : List Fa} {fb : List Fb} {fn : List He5.DefA} {ts : List Tab} {w : World} {K : PySem.W.Frag}
theorem SaysM.all (c : SaysM fa fb fn ts w K) : ((fa.all fun f => f.ok K) && ((fb.all fun f => f.ok K) && fn.all fun d => d.ok K)) = true := congrArg (fun z : AlM => z.1.1) c
theorem SaysM.fact (c : SaysM fa fb fn ts w K) (i : Nat) {f : Fa} (h : fa[i]? = some f) : f.ok K = true := List.all_eq_true.mp (ba c.all).1 f (List.mem_of_getElem? h)
theorem SaysM.more (c : SaysM fa fb fn ts w K) (i : Nat) {f : Fb} (h : fb[i]? = some f) : f.ok K = true := List.all_eq_true.mp (ba (ba c.all).2).1 f (List.mem_of_getElem? h)
theorem SaysM.def_ (c : SaysM fa fb fn ts w K) (i : Nat) {d : He5.DefA} (h : fn[i]? = some d) : ∃ fd, FunD K d.name d.qual d.params d.body d.scope (d.dvs K) (d.kws K) (d.at_ K) fd := by
  have c2 := List.all_eq_true.mp (ba (ba c.all).2).2
  have e : fn.map (fun d => He5.fnA K (d.at_ K)) = fn.map He5.DefA.val := congrArg (fun z : AlM => z.1.2) c
  have e2 : (fn.map fun d => He5.fnA K (d.at_ K))[i]? = (fn.map He5.DefA.val)[i]? := by rw [e]
  rw [List.getElem?_map, List.getElem?_map, h] at e2
  exact He5.DefA.funD (Option.some.inj e2) (c2 d (List.mem_of_getElem? h))
theorem SaysM.tab (c : SaysM fa fb fn ts w K) (i : Nat) {t : Tab} (h : ts[i]? = some t) : dicW K (t.1 K) = some (keysIn w.params t.2) := by
  have e : ts.map (fun t => dicW K (t.1 K)) = ts.map fun t => some (keysIn w.params t.2) := congrArg (fun z : AlM => z.2) c
  have e2 : (ts.map fun t => dicW K (t.1 K))[i]? = (ts.map fun t => some (keysIn w.params t.2))[i]? := by rw [e]
  rw [List.getElem?_map, List.getElem?_map, h] at e2
  exact Option.some.inj e2
end
/-! ### the end -/
theorem frz_of {K : PySem.W.Frag} {H : Hp} {a : Addr} {xs : List V} (n : NoL K) (hO : Only H) (hS : SqL K H a xs) : ∃ ob, H a = some (.frz ob (.lst xs)) := by
  rcases hS with (h | h) | ⟨o, its, m, hk, hc, _⟩
  · rcases hO a with e | ⟨o, ys, e⟩
    · rw [e] at h; cases h
    · rw [e] at h; cases h
  · exact h
  · have := n a o hk
    unfold notL at this
    rw [hc] at this
    simp at this
theorem walk_dl {l : PySem.W.OpenLaw} {n k : Nat} {q : Program} {loose : List Str} {XP : (Str → Option Value) → Heap → Prop} {YP : World → Heap → Prop} {d : DefRec} {x : Str} {fn : Fn}
    (hn : l.most = some n) (hn2 : n ≤ sizeLine) (hdf : d.params.defaults = []) (hr : Room k callerA)
    (hlaw : ∀ ns : List Int, ns.length ≤ n → (∀ z ∈ ns, Builtin.Int.intBits z ≤ 1048576) → ∃ G, fn [.ref 0] [.flst (ns.map VV.int)] = .ok (.bl true) G)
    (F : ∀ (w : World) (mg : Str → Option Value) (fa : Addr) (h : Heap), YP w h → h.Ns mainGlobals mg → mg d.name = some (.ref fa) →
      ∃ (K : PySem.W.Frag) (fd : FuncData), K.In h ∧ NoL K ∧ (∀ (s : Shared) (u : Value), BindsTo s fd ⟨[u], []⟩ [(x, u)]) ∧
        ∀ base : Heap, K.In base → base.Ns mainGlobals mg → FnOk l.prog w K mg base (L2.CX l.prog w) k fa fd [x] (spD K mg 1 fn)) :
    PySem.W.WalkO q loose XP YP l.row.toRowW d [] (fun f vs => PySem.call f vs) := by
  refine Att.attach_callB hn hdf fun w s₀ s₁ mg mb fa o pm cd doc a vs ns G Y ho hd hcd hmg hobj hints hlen hbits hg => ?_
  obtain ⟨K, fd, KX, nl, hb, hF⟩ := F w mg fa _ Y G.T.g hmg
  refine law_call KX G.T.g G.T.b G.T.builtins G.T.nolimit hg hobj hints (Nat.le_trans hlen hn2) hr hF hb (fun H hO hS => ?_) fun H e s' z => ?_
  · obtain ⟨G', e⟩ := hlaw ns hlen hbits
    exact law_read (frz_of nl hO hS) e
  · obtain ⟨_, _, _, _, _, _, _, _, _, _, _, _, z⟩ := z
    exact z.elim
end DL
end S_Rules10
section S_Rules11
set_option Elab.async false
set_option linter.all false
set_option maxRecDepth 100000
set_option maxHeartbeats 2000000
/-! Rules11: bits, counts, isinstance of an own class, defaults, two clauses. -/
namespace DL
open PySem PySem.Spec PyProof.Rows L2
section
variable {X : Cx} {ep : List (Addr × Obj)} {W : WX} {a b c : Expr} {da db dc : DE} {pos p apos : Pos}
theorem so_oShl : OpR X (binaryOp .LShift) (rD (rc X ep) oShl) := by
  intro pins s σ H x' y' v u Q I rx ry ⟨as, G, x, y, rg, hx, hy, h⟩
  unfold oShl at h
  split at h
  · rename_i i j
    split at h
    · rename_i hl
      have h3 := Nat.le_of_ble_eq_true hl.2.2
      have hb : Builtin.Int.intBits i ≤ i.natAbs.log2 + 1 := by
        unfold Builtin.Int.intBits
        split <;> omega
      have e : (2 : Int) ^ 27 = 134217728 := by decide
      refine op_shlW pins s σ H _ _ v u Q I rx ry ⟨_, _, hx.int, hy.int, ⟨hl.2.1, ?_⟩, h _ _ _ .refl rg .mkInt⟩
      rw [e]
      omega
    · exact h.elim
  · exact h.elim
theorem so_oShr : OpR X (binaryOp .RShift) (rD (rc X ep) oShr) := by
  intro pins s σ H x' y' v u Q I rx ry ⟨as, G, x, y, rg, hx, hy, h⟩
  unfold oShr at h
  split at h
  · split at h
    · rename_i hl
      exact op_shr pins s σ H _ _ v u Q I rx ry ⟨_, _, hx.int, hy.int, hl, h _ _ _ .refl rg .mkInt⟩
    · exact h.elim
  · exact h.elim
theorem so_oBand : OpR X (binaryOp .BitAnd) (rD (rc X ep) oBand) := by
  intro pins s σ H x' y' v u Q I rx ry ⟨as, G, x, y, rg, hx, hy, h⟩
  unfold oBand at h
  split at h
  · split at h
    · rename_i hl
      refine op_and pins s σ H _ _ v u Q I rx ry ⟨_, _, hx.int, hy.int, ?_⟩
      show Q (.int (Builtin.bitAnd _ _)) H
      rw [bitAnd_pp hl.1 hl.2]
      exact h _ _ _ .refl rg .mkInt
    · exact h.elim
  · exact h.elim
theorem so_oBor : OpR X (binaryOp .BitOr) (rD (rc X ep) oBor) := by
  intro pins s σ H x' y' v u Q I rx ry ⟨as, G, x, y, rg, hx, hy, h⟩
  unfold oBor at h
  split at h
  · split at h
    · rename_i hl
      refine op_or pins s σ H _ _ v u Q I rx ry ⟨_, _, hx.int, hy.int, ?_⟩
      show Q (.int (Builtin.bitOr _ _)) H
      rw [bitOr_nn hl.1 hl.2]
      exact h _ _ _ .refl rg .mkInt
    · exact h.elim
  · exact h.elim
theorem so_oBxor : OpR X (binaryOp .BitXor) (rD (rc X ep) oBxor) := by
  intro pins s σ H x' y' v u Q I rx ry ⟨as, G, x, y, rg, hx, hy, h⟩
  unfold oBxor at h
  split at h
  · split at h
    · rename_i hl
      refine op_xor pins s σ H _ _ v u Q I rx ry ⟨_, _, hx.int, hy.int, ?_⟩
      show Q (.int (Builtin.bitXor _ _)) H
      rw [Bits.bitXor_pp hl.1 hl.2]
      exact h _ _ _ .refl rg .mkInt
    · exact h.elim
  · exact h.elim
theorem sm_count : MtR X "list.count" (rM (rc X ep) mCount) := by
  intro pins s σ H x' vs' v us Q I rx rv ⟨as, G, x, vs, rg, hx, hv, h⟩
  unfold mCount at h
  split at h
  · rename_i k
    split at h
    · rename_i xs q
      cases q2 : asInts xs with
      | none => rw [q2] at h; exact h.elim
      | some is =>
        rw [q2] at h
        obtain ⟨w, rfl, ry⟩ := hv.one
        cases x with
        | ref i =>
          unfold asList at q
          simp only at q
          cases q3 : G[i]? with
          | none => rw [q3] at q; cases q
          | some o =>
            rw [q3] at q
            cases o with
            | lst zs =>
              cases q
              obtain ⟨a, ys, ha, rfl, h1, r1⟩ := RV.lst rg hx q3
              have e := r1.ints q2
              subst e
              exact mt_lcount pins s σ H _ _ v us Q I rx rv ⟨a, is, k, rfl, by rw [ry.int], SqL.of h1, h _ _ _ .refl rg .mkInt⟩
            | _ => cases q
        | _ => cases q
    · exact h.elim
  · exact h.elim
theorem se_isC {c : Nat} {Ca : Addr} {x : Str} {p2 : Pos} (T : ClsOk X.K X.mg c Ca) (hx : nameOf c = x) (ic : C8.InsC X.K Ca) (hmi : X.mg "isinstance" = none) (hgi : Gl X "isinstance") (hgt : Gl X x) (ha : SndE X ep W a da) (hn : x ≠ "__name__" := by decide) (hdb : (x == ("__debug__" : Str)) = false := by decide)
    (he : starEach [a, .Name x p2] X.env = (false, eval a X.env) :: starEach [.Name x p2] X.env := by rfl) (he2 : starEach [.Name x p2] X.env = (false, eval (.Name x p2) X.env) :: starEach [] X.env := by rfl) (hpl : (backTo pos (starEach [.Name x p2] X.env)).any (·.1) = false := by rfl) :
    SndE X ep W (.Call (.Name "isinstance" p) [a, .Name x p2] [] pos) (dIsC c da) := by
  subst hx
  refine (pe_callB (C8.call_isC ic) hgi hmi (by decide +kernel) (pa_cons ha (pa_cons (pe_glob (v := .ref Ca) hgt T.mg rfl hdb) pa_nil he2) he) (by decide) (by decide) he hpl).imp fun σ H Q ⟨as, G, S, rg, rs, h⟩ => tD.bind rg rs h fun x G1 as1 H1 x' e1 rg1 rs1 rx h1 => ?_
  split at h1
  · rename_i hi
    unfold isC at hi
    split at hi
    · rename_i i
      split at hi
      · rename_i d fs q
        have hd : c = d := of_decide_eq_true hi
        subst hd
        obtain ⟨a0, ha0, rfl⟩ := rx.ref
        obtain ⟨ho, h2, Ca', dx, ys, hm, rfl, _⟩ := rg1.at q ha0
        have : Ca' = Ca := by
          have e2 := T.mg.symm.trans hm
          cases e2
          rfl
        subst this
        exact ⟨a0, dx, ys, rfl, h2, h1 _ _ _ .refl rg1 .mkBl⟩
      · cases hi
    · cases hi
  · exact h1.elim
end
/-! ### two clauses -/
theorem lc2_imp {C : RC} {W : WX} {vs vs1 : List Nat} {di di1 : DI} {g g1 : DG} {t t1 : DT} {e : DE} {σ : St} {H : Hp} {Q : VK} (h : tDE C W (dLc2 vs vs1 di g t di1 g1 t1 e) σ H Q) :
    tLc2 (tD C W (RI C) di) (tDw C W0 vs g) (tDT C W0 t) (tD C W0 (RI C) di1) (tDw C W0 vs1 g1) (tDT C W0 t1) (tDE C W0 e) vs vs1 σ H Q := by
  obtain ⟨as, G, S, rg, rs, h⟩ := h
  refine tD.bind rg rs h fun p G1 as1 H1 J e1 rg1 rs1 hJ h1 => fun D hD => ?_
  obtain ⟨xs, chk⟩ := p
  have eD : Ext as1 H1 (as1 ++ [D]) (L2.upd H1 D (.lst [])) := Ext.new hD
  have rgD : RelG C (as1 ++ [D]) (G1 ++ [.lst []]) (L2.upd H1 D (.lst [])) := rg1.new hD ⟨[], rfl, .nil⟩
  refine ⟨fun i m H => m = xs.length - i ∧ i ≤ xs.length ∧ ∃ as2 G2, Ext (as1 ++ [D]) (L2.upd H1 D (.lst [])) as2 H ∧ RelG C as2 G2 H ∧ tR C W (RV C) (lc2L chk g t di1 g1 t1 e vs vs1 (DL.wipe S vs) G1.length (xs.drop i) G2) as2 H σ Q, ⟨_, rfl, Nat.zero_le _, _, _, .refl, rgD, tR.step eD h1⟩, ?_⟩
  rintro i m H2 ⟨rfl, hle, as2, G2, e2, rg2, h2⟩
  have rD : RV C as2 H2 (.ref G1.length) (.ref D) := .mkRef (e2.at rg1.newAt)
  have sv := hJ i as2 G2 H2 (eD.trans e2) rg2
  have rs2 : RS C as2 H2 (DL.wipe S vs) (L2.wipe σ vs) := rs_wipe (rs1.mono (eD.trans e2)) vs
  by_cases hlt : i < xs.length
  · have hx : xs[i]? = some xs[i] := List.getElem?_eq_getElem hlt
    rw [List.drop_eq_getElem_cons hlt] at h2
    simp only [lc2L] at h2
    split at h2
    · rename_i hst
      have sv := sv hst hle
      rw [hx] at sv
      obtain ⟨hgo, hyl⟩ := sv
      refine .inr ⟨hgo, fun H' => ∃ as3 G3, Ext (as1 ++ [D]) (L2.upd H1 D (.lst [])) as3 H' ∧ RelG C as3 G3 H' ∧ tR C W (RV C) (lc2L chk g t di1 g1 t1 e vs vs1 (DL.wipe S vs) G1.length (xs.drop (i + 1)) G3) as3 H' σ Q, fun H' n => ⟨xs.length - (i + 1), by omega, rfl, hlt, n⟩, fun v H' y => ?_⟩
      obtain ⟨e3, rg3, rv⟩ := hyl v H' y
      refine ⟨as2, G2, DL.wipe S vs, xs[i], rg3, rs2.mono e3, rv, ?_⟩
      have h3 := tR.step e3 h2
      cases q : g xs[i] (DL.wipe S vs) G2 with
      | nx S4 G4 =>
        rw [q] at h3
        refine fun as4 H4 σ4 e4 rg4 rs4 sm => ⟨wipe_same sm, as4, G4, S4, rg4, rs4, ?_⟩
        have h4 := tR.step e4 h3
        simp only at h4
        cases q2 : t S4 G4 with
        | ok b G5 =>
          rw [q2] at h4
          intro as5 H5 b' e5 rg5 rb
          obtain rfl : b = b' := rb
          have h5 := tR.step e5 h4
          cases b with
          | false =>
            rw [if_neg Bool.false_ne_true]
            exact ⟨as5, G5, e2.trans (e3.trans (e4.trans e5)), rg5, h5⟩
          | true =>
            rw [if_pos rfl]
            refine ⟨as5, G5, S4, rg5, rs4.mono e5, ?_⟩
            simp only at h5
            cases q3 : di1 S4 G5 with
            | ok p1 G6 =>
              rw [q3] at h5
              obtain ⟨ys, chk1⟩ := p1
              intro as6 H6 J1 e6 rg6 hJ1
              have h6 := tR.step e6 h5
              simp only at h6
              have rs6 : RS C as6 H6 S4 σ4 := (rs4.mono e5).mono e6
              have eb : Ext (as1 ++ [D]) (L2.upd H1 D (.lst [])) as6 H6 := e2.trans (e3.trans (e4.trans (e5.trans e6)))
              -- the second clause's own loop
              refine ⟨fun j k H => k = ys.length - j ∧ j ≤ ys.length ∧ ∃ as7 G7, Ext as6 H6 as7 H ∧ RelG C as7 G7 H ∧ tR C W (RV C) (lcK (lcL chk1 g1 t1 e vs1 (DL.wipe S4 vs1) G1.length (ys.drop j) G7) fun G4 => lc2L chk g t di1 g1 t1 e vs vs1 (DL.wipe S vs) G1.length (xs.drop (i + 1)) G4) as7 H σ Q, ⟨_, rfl, Nat.zero_le _, _, _, .refl, rg6, h6⟩, ?_⟩
              rintro j k H7 ⟨rfl, hle7, as7, G7, e7, rg7, h7⟩
              have rD7 : RV C as7 H7 (.ref G1.length) (.ref D) := .mkRef ((eb.trans e7).at rg1.newAt)
              have sv1 := hJ1 j as7 G7 H7 e7 rg7
              have rs7 : RS C as7 H7 (DL.wipe S4 vs1) (L2.wipe σ4 vs1) := rs_wipe (rs6.mono e7) vs1
              by_cases hlt7 : j < ys.length
              · have hy : ys[j]? = some ys[j] := List.getElem?_eq_getElem hlt7
                rw [List.drop_eq_getElem_cons hlt7] at h7
                simp only [lcL] at h7
                split at h7
                · rename_i hst1
                  have sv1 := sv1 hst1 hle7
                  rw [hy] at sv1
                  obtain ⟨hgo1, hyl1⟩ := sv1
                  refine .inr ⟨hgo1, fun H' => ∃ as8 G8, Ext as6 H6 as8 H' ∧ RelG C as8 G8 H' ∧ tR C W (RV C) (lcK (lcL chk1 g1 t1 e vs1 (DL.wipe S4 vs1) G1.length (ys.drop (j + 1)) G8) fun G4 => lc2L chk g t di1 g1 t1 e vs vs1 (DL.wipe S vs) G1.length (xs.drop (i + 1)) G4) as8 H' σ Q, fun H' n => ⟨ys.length - (j + 1), by omega, rfl, hlt7, n⟩, fun v1 H' y1 => ?_⟩
                  obtain ⟨e8, rg8, rv1⟩ := hyl1 v1 H' y1
                  refine ⟨as7, G7, DL.wipe S4 vs1, ys[j], rg8, rs7.mono e8, rv1, ?_⟩
                  have h8 := tR.step e8 h7
                  cases q5 : g1 ys[j] (DL.wipe S4 vs1) G7 with
                  | nx S9 G9 =>
                    rw [q5] at h8
                    refine fun as9 H9 σ9 e9 rg9 rs9 sm9 => ⟨wipe_same sm9, as9, G9, S9, rg9, rs9, ?_⟩
                    have h9 := tR.step e9 h8
                    simp only at h9
                    cases q6 : t1 S9 G9 with
                    | ok b1 G10 =>
                      rw [q6] at h9
                      intro as10 H10 b1' e10 rg10 rb1
                      obtain rfl : b1 = b1' := rb1
                      have h10 := tR.step e10 h9
                      cases b1 with
                      | false =>
                        rw [if_neg Bool.false_ne_true]
                        exact ⟨as10, G10, e7.trans (e8.trans (e9.trans e10)), rg10, h10⟩
                      | true =>
                        rw [if_pos rfl]
                        refine ⟨as10, G10, S9, rg10, rs9.mono e10, ?_⟩
                        simp only at h10
                        cases q7 : e S9 G10 with
                        | ok z G11 =>
                          rw [q7] at h10
                          intro as11 H11 z' e11 rg11 rz
                          have h11 := tR.step e11 h10
                          simp only at h11
                          cases q8 : G11[G1.length]? with
                          | none => rw [q8] at h11; exact h11.elim
                          | some o =>
                            rw [q8] at h11
                            cases o with
                            | lst acc =>
                              simp only at h11
                              split at h11
                              · rename_i hacc
                                have hD11 := rD7.mono (e8.trans (e9.trans (e10.trans e11)))
                                obtain ⟨pa, zs, hpa, hva, hHa, hra⟩ := RV.lst rg11 hD11 q8
                                cases hva
                                refine ⟨zs, hHa, ?_, as11, _, (e7.trans (e8.trans (e9.trans (e10.trans e11)))).trans (Ext.wr (fun ws => by rw [hHa]; simp) (.inl (List.mem_of_getElem? hpa))), rg11.write (o := .lst (acc ++ [z])) hpa (fun ws => by rw [hHa]; simp) ⟨_, rfl, hra.append (.cons rz .nil)⟩, tR.step (Ext.wr (fun ws => by rw [hHa]; simp) (.inl (List.mem_of_getElem? hpa))) h11⟩
                                rw [← hra.length]
                                exact hacc
                              · exact h11.elim
                            | _ => exact h11.elim
                        | exn _ _ => rw [q7] at h10; exact h10.elim
                        | bad => rw [q7] at h10; exact h10.elim
                    | exn _ _ => rw [q6] at h9; exact h9.elim
                    | bad => rw [q6] at h9; exact h9.elim
                  | _ => rw [q5] at h8; exact h8.elim
                · exact h7.elim
              · have hj' : j = ys.length := by omega
                subst hj'
                rw [List.drop_length] at h7
                unfold lcL at h7
                split at h7
                · rename_i hst1
                  have sv1 := sv1 hst1 (Nat.le_refl _)
                  rw [List.getElem?_eq_none (Nat.le_refl _)] at sv1
                  exact .inl ⟨sv1, as7, G7, eb.trans e7, rg7, h7⟩
                · exact h7.elim
            | exn _ _ => rw [q3] at h5; exact h5.elim
            | bad => rw [q3] at h5; exact h5.elim
        | exn _ _ => rw [q2] at h4; exact h4.elim
        | bad => rw [q2] at h4; exact h4.elim
      | _ => rw [q] at h3; exact h3.elim
    · exact h2.elim
  · have hi' : i = xs.length := by omega
    subst hi'
    rw [List.drop_length] at h2
    unfold lc2L at h2
    split at h2
    · rename_i hst
      have sv := sv hst (Nat.le_refl _)
      rw [List.getElem?_eq_none (Nat.le_refl _)] at sv
      exact .inl ⟨sv, h2 as2 H2 _ .refl rg2 rD⟩
    · exact h2.elim
end DL
end S_Rules11
section S_Rules12
set_option Elab.async false
set_option linter.all false
set_option maxRecDepth 100000
set_option maxHeartbeats 4000000
/-! Rules12: a set made of a list of whole numbers, then sorted. -/
namespace DL
open PySem PySem.Spec PyProof.Rows L2
section
variable {P : Program} {w : World} {A : Around} {E : Value → Shared → Prop} {s : Shared}
/-- what the set holds behind so many of the numbers -/
def Holds (ks : List Int) (i : Nat) (S : Int → Bool) (m : Nat) : Prop := m ≤ i ∧ ∀ z, S z = true ↔ z ∈ ks.take i
abbrev emptySet (w : World) : Obj := { cls := .type "set", dict := none, data := .set #[] 0 (.fresh 0 0 (!w.params.followText "set-order")) }
theorem Holds.next {ks : List Int} {i m : Nat} {S : Int → Bool} {k : Int} (h : Holds ks i S m) (hk : ks[i]? = some k) : Holds ks (i + 1) (fun j => S j || decide (j = k)) (if S k = true then m else m + 1) := by
  refine ⟨by have := h.1; split <;> omega, fun z => ?_⟩
  rw [List.take_succ, hk, Bool.or_eq_true, decide_eq_true_eq, h.2 z]
  simp
theorem upd_loop {I : Addr} {fp wr : List Addr} {GG : Array GenState → Array GenState → Prop} {n : Nat} {Pv : Nat → Value → Prop} {Stt : Nat → Shared → Prop} {R : Result → Shared → Prop}
    (Wk : WalksS P w A.in1 I fp wr GG n Pv Stt) (B : Addr) (hBf : B ∉ fp) (ks : List Int) (hn : n = ks.length) (hb : n < 4000) (hval : ∀ i v, Pv i v → ∃ k tk, ks[i]? = some k ∧ v = .int k tk)
    (h0 : Heap) (hB0 : h0.get? B = none) (hw0 : ∀ b ∈ wr, h0.get? b = none) : ∀ (d i : Nat) (s : Shared), n - i = d → i ≤ n → Stt i s → (∀ b o, h0.get? b = some o → s.heap.get? b = some o) → (∃ S m, SetR w s.heap B S m ∧ Holds ks i S m) →
      (∀ s' S m, Moved (B :: wr) GG s s' → SetR w s'.heap B S m → Holds ks n S m → (∀ b o, h0.get? b = some o → s'.heap.get? b = some o) → R (.ok (.ret .none)) s') → codeAny (model P w) A (.builtin "set.update.loop" ⟨[.ref B, .ref I], []⟩) R s := by
  have hBw : B ∉ wr := fun h => hBf (Wk.sub _ h)
  have more : ∀ b ∈ wr, b ∈ B :: wr := fun b hb => List.mem_cons_of_mem _ hb
  have stay : ∀ {s s' : Shared}, Moved wr GG s s' → (∀ b o, h0.get? b = some o → s.heap.get? b = some o) → ∀ b o, h0.get? b = some o → s'.heap.get? b = some o := fun hm hk b o e => hm.heap b o (fun z => by rw [hw0 b z] at e; cases e) (hk b o e)
  intro d
  induction d with
  | zero =>
    intro i s hd hi hst hk ⟨S, m, hS, g⟩ hR
    obtain rfl : i = n := by omega
    refine codeAny_builtin F.entry_set_update_loop ?_
    rw [Around.under_plainId F.plain_set_update_loop _]
    show wpAny _ A.in1 (pyNext (.ref I) >>= _) _ _ s
    refine wpAny_bind (Wk.done s _ _ hst fun s' hm => ?_)
    show wpAny _ A.in1 (ret Value.none) _ _ s'
    exact wpAny_pure (hR s' S m (hm.mono more) (hS.at fun o e => hm.heap B o hBw e) g (stay hm hk))
  | succ d ih =>
    intro i s hd hi hst hk ⟨S, m, hS, g⟩ hR
    have hlt : i < n := by omega
    refine codeAny_builtin F.entry_set_update_loop ?_
    rw [Around.under_plainId F.plain_set_update_loop _]
    show wpAny _ A.in1 (pyNext (.ref I) >>= _) _ _ s
    refine wpAny_bind (Wk.item i s _ _ hlt hst fun v s' hP hst' hm => ?_)
    obtain ⟨k, tk, hp, rfl⟩ := hval i v hP
    have hk' := stay hm hk
    have hS' : SetR w s'.heap B S m := hS.at fun o e => hm.heap B o hBw e
    show wpAny _ A.in1 (holding [Value.int k tk] (setAdd B (.int k tk)) >>= _) _ _ s'
    refine wpAny_bind (wpAny_holding ?_)
    unfold setAdd
    refine wpAny_holding ?_
    refine wpAny_bind ((intKind P w).pyHash (intKind_is P w k tk) ?_)
    refine setR_add_hashed (s := { s' with toks := s'.toks + 1 }) hS' (by have := g.1; show _ < 4096; omega) fun h' sb r => ?_
    have hk2 : ∀ b o, h0.get? b = some o → h'.get? b = some o := fun b o e => (sb.2 b (fun z => by rw [z, hB0] at e; cases e)).trans (hk' b o e)
    refine wpAny_pure ⟨plainId_quiet F.plain_set_update_loop _, ih (i + 1) _ (by omega) hlt (Wk.frame _ s' _ _ hst' (Nat.le_add_right _ _) fun b hb o e => ?_) hk2 ⟨_, _, r, g.next hp⟩ fun s'' S2 m2 hm2 hS2 g2 hk3 => ?_⟩
    · rw [sb.2 b (fun z : b = B => hBf (by rw [← z]; exact hb))]
      exact e
    · refine hR s'' S2 m2 (Moved.trans Wk.gtrans ((hm.mono more).then_heap (Nat.le_add_right _ _) fun b o hb e => ?_) hm2) hS2 g2 hk3
      rw [sb.2 b (fun z : b = B => hb (by rw [z]; exact List.mem_cons_self))]
      exact e
theorem call_set_nums {l : Addr} {items : Array Value} (ks : List Int) {Q : Value → Shared → Prop} (hh : A.handled = none) (hl : s.heap.IsList l items) (hit : Vals (ks.map V.int) items.toList) (hb : ks.length < 4000)
    (h : ∀ (h' : Heap) (tk : Nat) (S : Int → Bool) (m : Nat), SetR w h' s.heap.objs.size S m → Holds ks ks.length S m → (∀ b o, s.heap.get? b = some o → h'.get? b = some o) → Q (.ref s.heap.objs.size) { s with heap := h', toks := tk }) :
    wpAny (model P w) A (call (.type "set") [.ref l]) Q E s := by
  have hisz : items.size = ks.length := by
    have q := hit.length
    rw [List.length_map, Array.length_toList] at q
    exact q.symm
  obtain ⟨c, tl, hmro⟩ := F.called_set.mro
  have g1 := F.called_set.made
  have g2 := F.called_set.sub
  refine wpAny_call (codeAny_of_tree ?_)
  show wpAny _ _ (callAny (.type "set") _) _ _ _
  refine wpAny_pure ⟨Code.quiet_builtin _ (by decide +kernel), codeAny_builtin F.entry_type_call ?_⟩
  rw [Around.under_plain (weight_type_call_type "set" [.ref l] []) rfl]
  have g3 := F.called_set.notType
  have g4 := F.called_set.canCreate
  have g5 := F.typeCall_set_1 (.ref l)
  repeat any_goals (first | assumption | wp_step)
  refine codeAny_mono (code_set_led1 (.ref l) (E := E) (Q₁ := fun obj t => obj = .ref s.heap.objs.size ∧ t = { s with heap := s.heap.push (emptySet w) }) ⟨rfl, rfl⟩) fun r t hr => ?_
  cases r with
  | error e => exact hr
  | ok fl =>
    cases fl with
    | ret obj =>
      obtain ⟨rfl, rfl⟩ := hr
      have hS : (s.heap.push (emptySet w)).get? s.heap.objs.size = some (emptySet w) := Heap.get?_push_size _ rfl
      have hT : Shared.TypeIs { s with heap := s.heap.push (emptySet w) } (.ref s.heap.objs.size) "set" := ⟨_, hS, rfl⟩
      have g6 := F.called_set.init.lookup
      have g7 := F.called_set.init.bind (.ref s.heap.objs.size)
      repeat any_goals (first | assumption | wp_step)
      refine codeAny_mono (codeAny_call_builtin (R := wants (fun r t => r = .none ∧ ∃ h' tk S m, t = { s with heap := h', toks := tk } ∧ SetR w h' s.heap.objs.size S m ∧ Holds ks ks.length S m ∧ ∀ b o, s.heap.get? b = some o → h'.get? b = some o) E)
        F.called_set.init.plain F.entry_set_init (check_set_init_1 hT ?_)) fun r2 t2 hr2 => ?_
      · obtain ⟨ol, hol, hcl, nl, hdl⟩ := hl
        obtain ⟨ocls, odict, odata, oslots⟩ := ol
        simp only at hcl hdl
        subst hcl
        subst hdl
        have hol2 : (s.heap.push (emptySet w)).get? l = some { cls := .type "list", dict := odict, data := .seq items nl, slots := oslots } := Heap.get?_push_of_some _ hol
        have g8 := F.sub_list_set
        have g9 := F.sub_list_frozenset
        have g10 : (Value.type "list" == Value.type "dict") = false := by decide
        have hl1 : (s.heap.push (emptySet w)).IsList l items := ⟨_, hol2, rfl, nl, rfl⟩
        unfold Builtin.«set.__init__» noKeywords Builtin.Frozenset.updateFrom
        generalize hPI : pyIter = PI
        wp_walk
        subst hPI
        refine wpAny_pyIter_list hl1 ?_
        refine wpAny_bind (wpAny_runValue ?_)
        have hlS : l < s.heap.objs.size := Heap.lt_size hol
        have hh3 : A.in1.in1.in1.handled = none := by simp [hh]
        have hneI : l ≠ (s.heap.push (emptySet w)).objs.size := by
          rw [Heap.size_push]
          exact fun z => Nat.lt_irrefl _ (Nat.lt_trans hlS (by rw [z]; exact Nat.lt_succ_self _))
        have hSf : s.heap.objs.size ∉ [(s.heap.push (emptySet w)).objs.size, l] := by
          rw [Heap.size_push]
          intro z
          rcases List.mem_cons.mp z with z | z
          · exact Nat.ne_of_lt (Nat.lt_succ_self _) z
          · rw [List.mem_singleton.mp z] at hlS
            exact Nat.lt_irrefl _ hlS
        have hval : ∀ (i : Nat) (v : Value), items[i]? = some v → ∃ k tk, ks[i]? = some k ∧ v = .int k tk := fun i v hv => by
          have q : items.toList[i]? = some v := by rw [Array.getElem?_toList]; exact hv
          have gen : ∀ (ks : List Int) (us : List Value) (i : Nat) (v : Value), Vals (ks.map V.int) us → us[i]? = some v → ∃ k tk, ks[i]? = some k ∧ v = .int k tk := fun ks => by
            induction ks with
            | nil => intro us i v r hv; cases r; simp at hv
            | cons k ks ih =>
              intro us i v r hv
              cases r with
              | cons r1 r2 =>
                cases i with
                | zero =>
                  obtain ⟨tk, rfl⟩ := r1
                  simp at hv
                  exact ⟨k, tk, rfl, hv.symm⟩
                | succ i => exact ih _ i v r2 (by simpa using hv)
          exact gen ks _ i v hit q
        have none_of : ∀ b, s.heap.objs.size ≤ b → s.heap.get? b = none := fun b hb => by
          cases q : s.heap.get? b with
          | none => rfl
          | some o =>
            exact (Nat.not_lt.mpr hb (Heap.lt_size q)).elim
        refine upd_loop ((Walks.list hh3 _ l hneI items).toS) s.heap.objs.size hSf ks hisz (by omega) hval s.heap (none_of _ (Nat.le_refl _)) (fun b hb => none_of b (by
            rw [List.mem_singleton.mp hb, Heap.size_push]
            omega)) (items.size - 0) 0 _ (by omega) (Nat.zero_le _)
          ⟨⟨_, Heap.get?_push_size _ rfl, rfl, rfl⟩, (hl1.push _)⟩ (fun b o e => Heap.get?_push_of_some _ (Heap.get?_push_of_some _ e)) ?hS0 ?hR
        case hS0 =>
          exact ⟨_, 0, (setR_fresh (h := s.heap) w).at fun o e => Heap.get?_push_of_some _ e, Nat.le_refl _, fun z => by simp⟩
        case hR =>
          intro s' S m hm hS2 gg hkp
          obtain ⟨h', g2, d', tk', os'⟩ := s'
          have eg : g2 = s.gens := hm.gens
          have ed : d' = s.drawn := hm.drawn
          have eo : os' = s.os := hm.os
          subst eg ed eo
          show wpAny _ _ _ _ _ _
          refine wpAny_pure ?_
          show wpAny _ _ (ret Value.none) _ _ _
          rw [hisz] at gg
          exact wpAny_pure ⟨rfl, h', tk', S, m, rfl, hS2, gg, hkp⟩
      · cases r2 with
        | error e => exact hr2
        | ok fl2 =>
          cases fl2 with
          | ret r =>
            obtain ⟨rfl, h', tk, S, m, rfl, hS2, gg, hk2⟩ := hr2
            repeat any_goals (first | assumption | wp_step)
            exact h _ _ _ _ hS2 gg hk2
          | _ => exact hr2.elim
    | _ => exact hr.elim
end
/-! ### lists that ascend -/
theorem mem_insI (k z : Int) : ∀ l : List Int, z ∈ insI k l ↔ z = k ∨ z ∈ l
  | [] => by simp [insI]
  | x :: r => by
    unfold insI
    split
    · simp
    · split
      · rename_i h
        subst h
        simp
      · rw [List.mem_cons, mem_insI k z r, List.mem_cons]
        constructor
        · rintro (h | h | h) <;> simp [h]
        · rintro (h | h | h) <;> simp [h]
theorem asc_insI (k : Int) : ∀ l : List Int, l.Pairwise (· < ·) → (insI k l).Pairwise (· < ·)
  | [], _ => by simp [insI]
  | x :: r, h => by
    have h1 := List.pairwise_cons.mp h
    unfold insI
    split
    · rename_i hk
      refine List.pairwise_cons.mpr ⟨fun z hz => ?_, h⟩
      rcases List.mem_cons.mp hz with rfl | hz
      · exact hk
      · have := h1.1 z hz
        omega
    · split
      · exact h
      · refine List.pairwise_cons.mpr ⟨fun z hz => ?_, asc_insI k r h1.2⟩
        rcases (mem_insI k z r).mp hz with rfl | hz
        · omega
        · exact h1.1 z hz
theorem mem_sortU (z : Int) : ∀ l : List Int, z ∈ sortU l ↔ z ∈ l
  | [] => by simp [sortU]
  | x :: r => by rw [sortU, mem_insI, mem_sortU z r, List.mem_cons]
theorem asc_sortU : ∀ l : List Int, (sortU l).Pairwise (· < ·)
  | [] => by simp [sortU]
  | x :: r => by rw [sortU]; exact asc_insI x _ (asc_sortU r)
theorem asc_unique : ∀ {a b : List Int}, a.Pairwise (· < ·) → b.Pairwise (· < ·) → (∀ z, z ∈ a ↔ z ∈ b) → a = b
  | [], [], _, _, _ => rfl
  | [], y :: b, _, _, h => by have := (h y).mpr (by simp); simp at this
  | x :: a, [], _, _, h => by have := (h x).mp (by simp); simp at this
  | x :: a, y :: b, ha, hb, h => by
    have h1 := List.pairwise_cons.mp ha
    have h2 := List.pairwise_cons.mp hb
    have e : x = y := by
      have m1 := (h x).mp (by simp)
      have m2 := (h y).mpr (by simp)
      rcases List.mem_cons.mp m1 with e | m1
      · exact e
      · rcases List.mem_cons.mp m2 with e | m2
        · exact e.symm
        · have := h2.1 x m1
          have := h1.1 y m2
          omega
    subst e
    refine congrArg _ (asc_unique h1.2 h2.2 fun z => ⟨fun m => ?_, fun m => ?_⟩)
    · rcases List.mem_cons.mp ((h z).mp (List.mem_cons_of_mem _ m)) with e | m'
      · have := h1.1 z m
        omega
      · exact m'
    · rcases List.mem_cons.mp ((h z).mpr (List.mem_cons_of_mem _ m)) with e | m'
      · have := h2.1 z m
        omega
      · exact m'
theorem same_len {a b : List Int} (ha : a.Nodup) (hb : b.Nodup) (h : ∀ z, z ∈ a ↔ z ∈ b) : a.length = b.length :=
  ((List.perm_ext_iff_of_nodup ha hb).mpr h).length_eq
theorem asc_nodup {a : List Int} (h : a.Pairwise (· < ·)) : a.Nodup := h.imp fun h e => by omega
section
variable {X : Cx} {ep : List (Addr × Obj)} {W : WX} {a : Expr} {da : DE} {pos p p2 pos2 : Pos}
theorem RVs.ofInts {C : RC} {as : List Addr} {H : Hp} : ∀ is : List Int, RVs C as H (is.map VV.int) (is.map V.int)
  | [] => .nil
  | _ :: is => .cons .mkInt (RVs.ofInts is)
/-- set(xs), xs a list of whole numbers -/
def rSetI (K : PySem.W.Frag) (w : World) : List V → Hp → VK → Prop := fun xs H Q => ∃ (l : Addr) (ks : List Int), xs = [V.ref l] ∧ SqL K H l (ks.map V.int) ∧ ks.length < 4000 ∧
  ∀ (b : Addr) (S : Int → Bool), H b = none → (∀ z, S z = true ↔ z ∈ ks) → Q (.ref b) (upd H b (SetO w b S (sortU ks).length))
theorem cr_setI (hc : X.calm = true) : CallR X (.type "set") (rSetI X.K X.w) := by
  intro pins s σ H xs us Q I r h
  obtain ⟨l, ks, rfl, hl, hb, q⟩ := h
  rw [Vals.ref1 r]
  obtain ⟨its, rv, pl, hz⟩ := I.list hl
  have hn : H s.heap.objs.size = none := I.hok.fresh (Nat.le_refl _)
  refine call_set_nums (P := X.prog) (w := X.w) ks (I.ok.hd hc) pl.isList (by simpa using rv) hb fun h' tk S m R g k => ?_
  have hS : ∀ z, S z = true ↔ z ∈ ks := fun z => by have := g.2 z; rwa [List.take_length] at this
  have hm : m = (sortU ks).length := by
    obtain ⟨o, es, e2, t, _, _, _, _, nd, mem, _, _, sz, _⟩ := R
    rw [← sz, ← Array.length_toList, ← List.length_map (f := keyOf) (as := es.toList)]
    exact same_len nd (asc_nodup (asc_sortU ks)) fun z => by rw [← mem z, hS z, mem_sortU]
  subst hm
  exact ⟨.ref s.heap.objs.size, upd H s.heap.objs.size (SetO X.w s.heap.objs.size S (sortU ks).length), I.laid (t' := tk) k (Nat.le_refl _) (setO_new R), rfl, q _ S hn hS⟩
theorem se_sortSet (hc : X.calm = true) (hms : X.mg "sorted" = none) (hmt : X.mg "set" = none) (hgs : Gl X "sorted") (hgt : Gl X "set") (ha : SndE X ep W a da)
    (he : starEach [a] X.env = (false, eval a X.env) :: starEach [] X.env := by rfl) (hpl : (backTo pos2 (starEach [] X.env)).any (·.1) = false := by rfl)
    (he2 : starEach [.Call (.Name "set" p2) [a] [] pos2] X.env = (false, eval (.Call (.Name "set" p2) [a] [] pos2) X.env) :: starEach [] X.env := by rfl) (hpl2 : (backTo pos (starEach [] X.env)).any (·.1) = false := by rfl) :
    SndE X ep W (.Call (.Name "sorted" p) [.Call (.Name "set" p2) [a] [] pos2] [] pos) (dSortSet da) :=
  (pe_callB (cr_sortedSet hc) hgs hms (by decide +kernel) (pa_cons (pe_callTy (cr_setI hc) hgt hmt (by decide +kernel) (pa_cons ha pa_nil he) (by decide) (by decide) he hpl) pa_nil he2) (by decide) (by decide) he2 hpl2).imp fun σ H Q ⟨as, G, S, rg, rs, h⟩ =>
    tD.bind rg rs h fun x G1 as1 H1 x' e1 rg1 rs1 rx h1 => by
      unfold oSortSet at h1
      cases q : asList G1 x with
      | none => rw [q] at h1; exact h1.elim
      | some xs =>
        rw [q] at h1
        simp only at h1
        cases q2 : asInts xs with
        | none => rw [q2] at h1; exact h1.elim
        | some is =>
          rw [q2] at h1
          simp only at h1
          split at h1
          · rename_i hl
            cases x with
            | ref i =>
              unfold asList at q
              simp only at q
              cases q3 : G1[i]? with
              | none => rw [q3] at q; cases q
              | some o =>
                rw [q3] at q
                cases o with
                | lst zs =>
                  cases q
                  obtain ⟨a0, ys, ha0, rfl, h2, r1⟩ := RV.lst rg1 rx q3
                  have ei := r1.ints q2
                  subst ei
                  refine ⟨a0, is, rfl, SqL.of h2, hl.1, fun b SS hb hSS => ⟨b, SS, _, rfl, upd_same, hl.2, fun ns pp asc mem hlen hp => ?_⟩⟩
                  have en : ns = sortU is := asc_unique asc (asc_sortU is) fun z => by rw [mem z, hSS z, mem_sortU]
                  subst en
                  have e2 : Ext as1 H1 as1 (upd H1 b (SetO X.w b SS (sortU is).length)) := Ext.side hb
                  have rg2 := rg1.side (o := SetO X.w b SS (sortU is).length) hb
                  exact h1 _ _ _ (e2.trans (Ext.new hp)) (rg2.new hp ⟨_, rfl, RVs.ofInts _⟩) (.mkRef rg2.newAt)
                | _ => cases q
            | _ => cases q
          · exact h1.elim
end
end DL
end S_Rules12
section S_Rules13
set_option Elab.async false
set_option linter.all false
set_option maxRecDepth 100000
set_option maxHeartbeats 2000000
/-! Rules13: two clauses in a comprehension; keyword-only parameters with defaults. -/
namespace DL
open PySem PySem.Spec PyProof.Rows L2
section
variable {X : Cx} {ep : List (Addr × Obj)} {W : WX} {pos p : Pos}
theorem sw_sub {ws vs : List Nat} {e : Expr} {d : DG} (hs : ∀ j ∈ ws, j ∈ vs) (h : SndW' X ep W ws e d) : SndW' X ep W vs e d :=
  h.imp fun v σ H Q ⟨as, G, S, x, rg, rs, rx, q⟩ => by
    refine ⟨as, G, S, x, rg, rs, rx, ?_⟩
    cases r : d x S G with
    | nx S1 G1 =>
      rw [r] at q
      exact fun as' H' σ' e1 rg1 rs1 sm => q as' H' σ' e1 rg1 rs1 (sm.sub hs)
    | rt _ _ => rw [r] at q; exact q
    | bk _ _ => rw [r] at q; exact q
    | ct _ _ => rw [r] at q; exact q
    | exn _ _ _ => rw [r] at q; exact q
    | bad => rw [r] at q; exact q
theorem se_lc2 {elt tg iter tg1 iter1 : Expr} {ifs ifs1 : List Expr} {scope : Scope} (own : List (Str × Nat)) (vs1 : List Nat) {vs : List Nat} {di di1 : DI} {g g1 : DG} {t t1 : DT} {d : DE} (hc : X.calm = true) (hN : X.N.Nodup) (hi : SndI X ep W tg iter di)
    (hg : ∀ (s : Shared) (H : Hp) (C : Addr) (cl : List (Str × Addr)) (fp : List Addr), SndW' (X.blk s H scope (compEnvC scope cl C X.env) fp) ep W0 vs tg g)
    (ht : ∀ (s : Shared) (H : Hp) (C : Addr) (cl : List (Str × Addr)) (fp : List Addr), SndTs (X.blk s H scope (compEnvC scope cl C X.env) fp) ep W0 ifs t)
    (hi1 : ∀ (s : Shared) (H : Hp) (C : Addr) (cl : List (Str × Addr)) (fp : List Addr), SndI (X.blk s H scope (compEnvC scope cl C X.env) fp) ep W0 tg1 iter1 di1)
    (hg1 : ∀ (s : Shared) (H : Hp) (C : Addr) (cl : List (Str × Addr)) (fp : List Addr), SndW' (X.blk s H scope (compEnvC scope cl C X.env) fp) ep W0 vs1 tg1 g1)
    (ht1 : ∀ (s : Shared) (H : Hp) (C : Addr) (cl : List (Str × Addr)) (fp : List Addr), SndTs (X.blk s H scope (compEnvC scope cl C X.env) fp) ep W0 ifs1 t1)
    (he : ∀ (s : Shared) (H : Hp) (C : Addr) (cl : List (Str × Addr)) (fp : List Addr), SndE (X.blk s H scope (compEnvC scope cl C X.env) fp) ep W0 elt d)
    (ok : BlkOk X.N X.env.scope scope own) (hv1 : ∀ i ∈ vs1, i ∈ own.map (·.2) := by decide) (hv : own.map (·.2) = vs := by rfl) (hs : ∀ x, foldedSetIterable iter X.env x = pure x := by intro _; rfl) (hs1 : ∀ env x, foldedSetIterable iter1 env x = pure x := by intro _ _; rfl) :
    SndE X ep W (.ListComp elt [⟨tg, iter, ifs, 0⟩, ⟨tg1, iter1, ifs1, 0⟩] scope pos) (dLc2 vs vs1 di g t di1 g1 t1 d) := by
  subst hv
  exact (pe_lc2 hc hN hi ok hv1 hg ht hi1 hg1 ht1 he hs hs1).imp fun σ H Q h => lc2_imp h
end
theorem fold_rep (c : Nat) : ∀ (m : Nat) (acc : Array Nat), (List.replicate m #[c]).foldl (· ++ ·) acc = acc ++ (List.replicate m c).toArray
  | 0, acc => by simp
  | m + 1, acc => by
    rw [List.replicate_succ, List.foldl_cons, fold_rep c m, List.replicate_succ]
    apply Array.ext'
    simp
theorem mul_one_sign (c : Nat) (k : Int) : Txt.mul (mkS [c]) k = mkS (List.replicate k.toNat c) := by
  unfold Txt.mul
  by_cases h : k < 1
  · rw [if_pos h]
    have : k.toNat = 0 := by omega
    rw [this]
    rfl
  · rw [if_neg h]
    by_cases h1 : k = 1
    · subst h1
      rfl
    · have e : (k == 1 || (mkS [c]).length == 0) = false := by
        have : (k == 1) = false := by simpa using h1
        rw [this]
        rfl
      rw [e]
      simp only [Bool.false_eq_true, if_false]
      show (⟨_⟩ : Str) = ⟨_⟩
      congr 1
      have := fold_rep c k.toNat #[]
      show List.foldl (fun x1 x2 => x1 ++ x2) #[] (List.replicate k.toNat #[c]) = _
      refine this.trans ?_
      simp
theorem so_oMulS {X : Cx} {ep : List (Addr × Obj)} : OpR X (binaryOp .Mult) (rD (rc X ep) oMulS) := by
  intro pins s σ H x' y' v u Q I rx ry ⟨as, G, x, y, rg, hx, hy, h⟩
  unfold oMulS at h
  split at h
  · rename_i c k
    split at h
    · rename_i hl
      have hk := Nat.le_of_ble_eq_true hl
      have hs := hx.sok
      have e1 := hx.str
      have e2 := hy.int
      subst e1 e2
      obtain ⟨t, rfl⟩ := rx
      obtain ⟨t', rfl⟩ := ry
      have ok : sOk (List.replicate k.toNat c) = true := by
        unfold sOk at hs ⊢
        rw [List.all_eq_true] at hs ⊢
        intro z hz
        exact hs z (by rw [(List.mem_replicate.mp hz).2]; simp)
      have mo : PySem.MulOk (mkS [c]) k := by
        have hl1 : (mkS [c]).length = 1 := rfl
        refine ⟨?_, fun h1 _ => ?_, fun h1 _ => ?_⟩
        · rw [Bool.or_eq_false_iff, decide_eq_false_iff_not, decide_eq_false_iff_not]
          omega
        · rw [hl1]
          have : (1000 : Int) ≤ (2 ^ 63 - 1) / k := by
            rw [Int.le_ediv_iff_mul_le (by omega)]
            omega
          omega
        · rw [hl1]
          unfold Builtin.Str.tooLong
          rw [decide_eq_false_iff_not, sizeLine_eq]
          omega
      refine SB.mul mo fun t'' k' => ⟨.str (mkS (List.replicate k.toNat c)), H, I.tok _, ⟨_, by rw [mul_one_sign]⟩, h _ _ _ .refl rg (.mkStr ok)⟩
    · exact h.elim
  · exact h.elim
/-- a def whose keyword-only parameters stand at their defaults (whole numbers) -/
structure DefOkD (P : Program) (w : World) (K : PySem.W.Frag) (mg : Str → Option Value) (base : Heap) (k : Nat) (f : Addr) (ps : List Str) (ds : List Int) (fn : Fn) : Prop where
  ex : ∃ fd us, FnD P w K mg base k f fd ps fn ∧ Vals (ds.map V.int) us ∧ Binds K fd ps us
  kp : PySem.W.keepIn K (.ref f) = true
  ar : ∀ vs G, vs.length ≠ ps.length → fn vs G = .bad
theorem DefOkD.mono {P : Program} {w : World} {K : PySem.W.Frag} {mg : Str → Option Value} {base : Heap} {k k' : Nat} {f : Addr} {ps : List Str} {ds : List Int} {fn : Fn} (h : DefOkD P w K mg base k f ps ds fn) (hk : k ≤ k') : DefOkD P w K mg base k' f ps ds fn := by
  obtain ⟨⟨fd, us, F1, F3, F2⟩, kp, ar⟩ := h
  exact ⟨⟨fd, us, F1.mono hk, F3, F2⟩, kp, ar⟩
theorem def_okD {P : Program} {w : World} {K : PySem.W.Frag} {mg : Str → Option Value} {base : Heap} {x qual : Str} {params : Arguments} {body : List Stmt} {scope : Scope} {f : Addr} {fd : FuncData} {N ps : List Str} {k n : Nat} {b : DS} {kws : List (Str × V)} {ds : List Int}
    (F : FunD K x qual params body scope [] kws f fd) (hkw : kws.map (·.2) = ds.map V.int) (hbd : ∃ us, Vals (kws.map (·.2)) us ∧ Binds K fd ps us) (S : FnScope N ps scope) (hN : N.length = n) (hp : ps.length ≤ n)
    (hbody : ∀ (cdv : Value) (A : Around) (outer : List PySem.Env) (s : Shared) (H : Hp) (E : XK), Room k (A.deeper (envOfC qual scope s.heap.objs.size f cdv)) → SndSs (cxOf (L2.CX P w) P w K mg base N qual scope f cdv A outer s H E) [] (fun cls d _ H => E cls d H) body b) :
    DefOkD P w K mg base (k + 1) f ps ds (dDef ps.length n b) := by
  obtain ⟨us, hv, hb⟩ := hbd
  rw [hkw] at hv
  refine ⟨⟨fd, us, F.ok S (fun vs H Q E h => h.1) (fun cdv A outer s H vs Q E hr h => ⟨_, hbody cdv A outer s H E hr, body_read hN hp h⟩), hv, hb⟩, F.kp, fun vs G h => ?_⟩
  unfold dDef
  rw [if_neg h]
section
variable {X : Cx} {W : WX} {pos p : Pos} {k : Nat} {g : Addr} {ps : List Str} {fn : Fn} {e : Expr} {es : List Expr} {dr : DA}
theorem se_callD {x : Str} {ds : List Int} {vv : List VV} (F : DefOkD X.prog X.w X.K X.mg X.base k g ps ds fn) (hvv : ds.map VV.int = vv) (hg : Gl X x) (hm : X.mg x = some (.ref g)) (hr : Room k X.A) (tk : Takes X W) (ha : SndA X [] W (e :: es) dr) (hdb : (x == ("__debug__" : Str)) = false := by decide)
    (he : starEach (e :: es) X.env = (false, eval e X.env) :: starEach es X.env := by rfl) (hpl : (backTo pos (starEach es X.env)).any (·.1) = false := by rfl) :
    SndE X [] W (.Call (.Name x p) (e :: es) [] pos) (dCallD fn vv dr) := by
  subst hvv
  obtain ⟨⟨fd, us, F1, F3, F2⟩, kp, ar⟩ := F
  refine (pe_callSD (E := fun σ cls d H' => W cls d σ H') F1 hr hg hm kp F2 F3 (fun σ => L2.passAt tk σ) ha hdb he hpl).imp fun σ H Q ⟨as, G, S, rg, rs, h⟩ => ?_
  refine tD.bind rg rs h fun xs G1 as1 H1 vs e1 rg1 rs1 rxs h1 => ?_
  exact spD_of ar rg1 (rxs.append (RVs.ofInts ds)) (tF_of h1)
end
end DL
end S_Rules13
section S_K70Mir
/-! Mir: what each def does, printed by gen.py -/
set_option linter.all false
namespace DL
def c_MOST_LAYERS : VV := (.int 4)
def c_MOST_PLACES : VV := (.int 60)
def c_MOST_ROUNDS : VV := (.int 6)
def c_MOST_WIDTH : VV := (.int 8)
def c_PLANS : VV := (.tup [(.str [98, 101, 104, 105, 110, 100]), (.str [102, 114, 111, 110, 116]), (.str [106, 111, 105, 110, 101, 100]), (.str [112, 97, 99, 107, 101, 100]), (.str [97, 110, 121])])
def c_FIGURES : VV := (.tup [(.str [97, 108, 108]), (.str [49]), (.str [50]), (.str [51])])
def c_KINDS : VV := (.tup [(.str [102, 105, 108, 108, 105, 110, 103]), (.str [111, 116, 104, 101, 114]), (.str [115, 116, 114, 97, 110, 103, 101]), (.str [108, 97, 116, 101, 114]), (.str [101, 97, 114, 108, 105, 101, 114])])
def c_SIZES : List (List Nat × VV) := [([110, 101, 118, 101, 114], (.int 4)), ([99, 97, 110], (.int 4)), ([101, 118, 101, 114], (.int 4)), ([115, 111, 109, 101, 116, 105, 109, 101], (.int 4)), ([117, 110, 108, 105, 107, 101], (.int 4)), ([109, 111, 114, 101], (.int 3))]
/-- _law_spring(script, at); names 0:script 1:at 2:cell 3:older 4:digits -/
def b__law_spring : DS :=
  dSeq (sAsg (dBin oAdd (dBin oMul (dC (.int 104711)) (dVar 1)) (dBin oMul (dC (.int 31)) (dB bLen (aCons (dVar 0) (aNil))))) (gName 2)) (
  dSeq (sIf (tV (dCmp cLt (dVar 1) (dB bLen (aCons (dVar 0) (aNil))))) (sAsg (dIx (dVar 0) (dVar 1)) (gName 2)) (sFor (iSeq (dSl (dVar 0) (oNone) (oSome (dC (.int 5))))) (gName 3) (sAsg (dBin oMod (dB bInt (aCons (dBin oAdd (dBin oMul (dVar 2) (dC (.int 38699))) (dVar 3)) (aNil))) (dC (.int 2147483549))) (gName 2)))) (
  dSeq (sAsg (dIf (tV (dCmp cGe (dB bAbs (aCons (dVar 2) (aNil))) (dBin oPow (dC (.int 10)) (dC (.int 18))))) (dB bAbs (aCons (dVar 2) (aNil))) (dC (.int 0))) (gName 4)) (
  dRet (dLst (aCons (dBin oMod (dB bInt (aCons (dBin oAdd (dBin oMul (dVar 2) (dC (.int 92821))) (dVar 1)) (aNil))) (dC (.int 2147483587))) (aCons (dBin oMod (dB bInt (aCons (dBin oAdd (dBin oAdd (dBin oMul (dVar 2) (dVar 2)) (dBin oMul (dC (.int 68917)) (dVar 1))) (dC (.int 5))) (aNil))) (dC (.int 2147483563))) (aCons (dVar 4) (aNil))))))))
def f__law_spring : Fn := dDef 2 5 b__law_spring

/-- _law_take(spring, many); names 0:spring 1:many 2:one 3:other 4:digit -/
def b__law_take : DS :=
  dSeq (sAsg (dTup (aCons (dB bInt (aCons (dIx (dVar 0) (dC (.int 0))) (aNil))) (aCons (dB bInt (aCons (dIx (dVar 0) (dC (.int 1))) (aNil))) (aNil)))) (gTup [gName 2, gName 3])) (
  dSeq (sAsg (dVar 3) (gSub (dVar 0) (dC (.int 0)))) (
  dSeq (sAsg (dBin oMod (dB bInt (aCons (dBin oAdd (dBin oAdd (dBin oMul (dVar 2) (dC (.int 47903))) (dBin oMul (dVar 3) (dBin oAdd (dBin oMod (dB bInt (aCons (dVar 3) (aNil))) (dC (.int 30011))) (dC (.int 1013))))) (dC (.int 29))) (aNil))) (dC (.int 2147483563))) (gSub (dVar 0) (dC (.int 1)))) (
  dSeq (sIf (tV (dCmp cGt (dIx (dVar 0) (dC (.int 2))) (dC (.int 0)))) (dSeq (sAsg (dB bDivmod (aCons (dIx (dVar 0) (dC (.int 2))) (aCons (dVar 1) (aNil)))) (gTup [gSub (dVar 0) (dC (.int 2)), gName 4])) (
  dRet (dVar 4))) (dNext)) (
  dRet (dBin oMod (dB bInt (aCons (dBin oFdiv (dIx (dVar 0) (dC (.int 1))) (dC (.int 128))) (aNil))) (dVar 1))))))
def f__law_take : Fn := dDef 2 5 b__law_take

/-- _law_plan(spring); names 0:spring -/
def b__law_plan : DS :=
  dRet (dIx (dLst (aCons (dC (.str [98, 101, 104, 105, 110, 100])) (aCons (dC (.str [102, 114, 111, 110, 116])) (aCons (dC (.str [106, 111, 105, 110, 101, 100])) (aCons (dC (.str [112, 97, 99, 107, 101, 100])) (aCons (dC (.str [97, 110, 121])) (aNil))))))) (dCall f__law_take (aCons (dVar 0) (aCons (dC (.int 5)) (aNil)))))
def f__law_plan : Fn := dDef 1 1 b__law_plan

/-- _law_layer(spring, room); names 0:spring 1:room 2:word 3:scope 4:form 5:own 6:spare 7:number 8:way -/
def b__law_layer : DS :=
  dSeq (sAsg (dIx (dLst (aCons (dC (.str [108, 111, 111, 107])) (aCons (dC (.str [97, 100, 100])) (aCons (dC (.str [108, 111, 111, 107])) (aCons (dC (.str [99, 108, 101, 97, 114])) (aCons (dC (.str [108, 111, 111, 107])) (aNil))))))) (dCall f__law_take (aCons (dVar 0) (aCons (dC (.int 5)) (aNil))))) (gName 2)) (
  dSeq (sIf (tOr (tV (dCmp cEq (dVar 2) (dC (.str [99, 108, 101, 97, 114])))) (tV (dCmp cLt (dVar 1) (dC (.int 1))))) (dRet (dTup (aCons (dC (.str [99, 108, 101, 97, 114])) (aCons (dC (.str [])) (aCons (dC (.str [])) (aCons (dC (.int 0)) (aCons (dC (.int 1)) (aCons (dC (.bl false)) (aCons (dC (.bl false)) (aNil)))))))))) (dNext)) (
  dSeq (sAsg (dTup (aCons (dIx (dLst (aCons (dC (.str [114, 111, 119])) (aCons (dC (.str [116, 114, 117, 101])) (aCons (dC (.str [108, 105, 110, 101])) (aNil))))) (dCall f__law_take (aCons (dVar 0) (aCons (dC (.int 3)) (aNil))))) (aCons (dCall f__law_take (aCons (dVar 0) (aCons (dC (.int 6)) (aNil)))) (aNil)))) (gTup [gName 3, gName 4])) (
  dSeq (sAsg (dTup (aCons (dOr (dCmp cEq (dVar 2) (dC (.str [97, 100, 100]))) (dCmp cEq (dCall f__law_take (aCons (dVar 0) (aCons (dC (.int 2)) (aNil)))) (dC (.int 0)))) (aCons (dCmp cEq (dCall f__law_take (aCons (dVar 0) (aCons (dC (.int 4)) (aNil)))) (dC (.int 0))) (aNil)))) (gTup [gName 5, gName 6])) (
  dSeq (sIf (tV (dCmp cEq (dVar 4) (dC (.int 5)))) (dRet (dTup (aCons (dVar 2) (aCons (dC (.str [114, 111, 119])) (aCons (dIx (dLst (aCons (dC (.str [102, 105, 114, 115, 116])) (aCons (dC (.str [108, 97, 115, 116])) (aNil)))) (dCall f__law_take (aCons (dVar 0) (aCons (dC (.int 2)) (aNil))))) (aCons (dC (.int 0)) (aCons (dC (.int 1)) (aCons (dVar 5) (aCons (dVar 6) (aNil)))))))))) (dNext)) (
  dSeq (sAsg (dBin oAdd (dC (.int 1)) (dCall f__law_take (aCons (dVar 0) (aCons (dB bMin2 (aCons (dVar 1) (aCons (dC (.int 3)) (aNil)))) (aNil))))) (gName 7)) (
  dSeq (sIf (tV (dCmp cEq (dVar 4) (dC (.int 4)))) (dRet (dTup (aCons (dVar 2) (aCons (dVar 3) (aCons (dIx (dLst (aCons (dC (.str [97, 116, 32, 98, 97, 99, 107])) (aCons (dC (.str [97, 116, 32, 97, 104, 101, 97, 100])) (aNil)))) (dCall f__law_take (aCons (dVar 0) (aCons (dC (.int 2)) (aNil))))) (aCons (dVar 7) (aCons (dC (.int 1)) (aCons (dVar 5) (aCons (dVar 6) (aNil)))))))))) (dNext)) (
  dSeq (sAsg (dIx (dLst (aCons (dC (.str [98, 97, 99, 107])) (aCons (dC (.str [97, 104, 101, 97, 100])) (aCons (dC (.str [97, 114, 111, 117, 110, 100])) (aNil))))) (dCall f__law_take (aCons (dVar 0) (aCons (dC (.int 3)) (aNil))))) (gName 8)) (
  dSeq (sIf (tV (dCmp cEq (dVar 4) (dC (.int 3)))) (dRet (dTup (aCons (dVar 2) (aCons (dVar 3) (aCons (dVar 8) (aCons (dC (.int 0)) (aCons (dVar 7) (aCons (dVar 5) (aCons (dVar 6) (aNil)))))))))) (dNext)) (
  dRet (dTup (aCons (dVar 2) (aCons (dVar 3) (aCons (dVar 8) (aCons (dVar 7) (aCons (dIx (dLst (aCons (dC (.int 1)) (aCons (dC (.int 1)) (aCons (dC (.int 2)) (aCons (dC (.int 3)) (aNil)))))) (dCall f__law_take (aCons (dVar 0) (aCons (dC (.int 4)) (aNil))))) (aCons (dVar 5) (aCons (dVar 6) (aNil))))))))))))))))))
def f__law_layer : Fn := dDef 2 9 b__law_layer

/-- _law_size(spring); names 0:spring -/
def b__law_size : DS :=
  dRet (dBin oAdd (dC (.int 1)) (dCall f__law_take (aCons (dVar 0) (aCons (dC (.int 4)) (aNil)))))
def f__law_size : Fn := dDef 1 1 b__law_size

/-- _law_line(spring, laid); names 0:spring 1:laid 2:found 3:turn 4:sign -/
def b__law_line : DS :=
  dSeq (sAsg (dTup (aCons (dCall f__law_size (aCons (dVar 0) (aNil))) (aNil))) (gName 2)) (
  dSeq (sIf (tV (dCmp cIn (dVar 1) (dLst (aCons (dC (.str [106, 111, 105, 110, 101, 100])) (aCons (dC (.str [112, 97, 99, 107, 101, 100])) (aNil)))))) (sFor (iRange1 (aCons (dCall f__law_take (aCons (dVar 0) (aCons (dC (.int 4)) (aNil)))) (aNil))) (gName 3) (sAsg (dBin oAdd (dVar 2) (dTup (aCons (dCall f__law_size (aCons (dVar 0) (aNil))) (aNil)))) (gName 2))) (dNext)) (
  dSeq (sIf (tV (dCmp cEq (dVar 1) (dC (.str [97, 110, 121])))) (dSeq (sFor (iRange1 (aCons (dCall f__law_take (aCons (dVar 0) (aCons (dC (.int 4)) (aNil)))) (aNil))) (gName 3) (dSeq (sAsg (dIf (tAnd (tV (dCmp cGt (dIx (dVar 2) (dUn oNeg (dC (.int 1)))) (dC (.int 0)))) (tV (dCmp cEq (dCall f__law_take (aCons (dVar 0) (aCons (dC (.int 2)) (aNil)))) (dC (.int 0))))) (dUn oNeg (dC (.int 1))) (dC (.int 1))) (gName 4)) (
  sAsg (dBin oAdd (dVar 2) (dTup (aCons (dBin oMul (dVar 4) (dCall f__law_size (aCons (dVar 0) (aNil)))) (aNil)))) (gName 2)))) (
  sIf (tV (dCmp cEq (dCall f__law_take (aCons (dVar 0) (aCons (dC (.int 3)) (aNil)))) (dC (.int 0)))) (sAsg (dBin oAdd (dTup (aCons (dUn oNeg (dCall f__law_size (aCons (dVar 0) (aNil)))) (aNil))) (dSl (dVar 2) (oNone) (oSome (dC (.int 3))))) (gName 2)) (dNext))) (dNext)) (
  dSeq (sIf (tAnd (tV (dCmp cIn (dVar 1) (dLst (aCons (dC (.str [98, 101, 104, 105, 110, 100])) (aCons (dC (.str [112, 97, 99, 107, 101, 100])) (aNil)))))) (tV (dCmp cGt (dCall f__law_take (aCons (dVar 0) (aCons (dC (.int 4)) (aNil)))) (dC (.int 0))))) (sAsg (dBin oAdd (dVar 2) (dTup (aCons (dUn oNeg (dCall f__law_size (aCons (dVar 0) (aNil)))) (aNil)))) (gName 2)) (dNext)) (
  dSeq (sIf (tAnd (tV (dCmp cEq (dVar 1) (dC (.str [102, 114, 111, 110, 116])))) (tV (dCmp cGt (dCall f__law_take (aCons (dVar 0) (aCons (dC (.int 4)) (aNil)))) (dC (.int 0))))) (sAsg (dBin oAdd (dTup (aCons (dUn oNeg (dCall f__law_size (aCons (dVar 0) (aNil)))) (aNil))) (dVar 2)) (gName 2)) (dNext)) (
  dRet (dVar 2))))))
def f__law_line : Fn := dDef 2 5 b__law_line

/-- _law_text(layer); names 0:layer 1:word 2:scope 3:way 4:number 5:every 6:own 7:spare 8:far 9:found -/
def b__law_text : DS :=
  dSeq (sAsg (dVar 0) (gTup [gName 1, gName 2, gName 3, gName 4, gName 5, gName 6, gName 7])) (
  dSeq (sIf (tV (dCmp cEq (dVar 1) (dC (.str [99, 108, 101, 97, 114])))) (dRet (dVar 1)) (dNext)) (
  dSeq (sAsg (dTup (aCons (dIf (tV (dCmp cGt (dVar 4) (dC (.int 0)))) (dB bStr (aCons (dVar 4) (aNil))) (dC (.str [97, 108, 108]))) (aCons (dBin oAdd (dBin oAdd (dBin oAdd (dVar 1) (dC (.str [32]))) (dVar 2)) (dC (.str [32]))) (aNil)))) (gTup [gName 8, gName 9])) (
  dSeq (sIf (tV (dCmp cIn (dVar 3) (dLst (aCons (dC (.str [102, 105, 114, 115, 116])) (aCons (dC (.str [108, 97, 115, 116])) (aNil)))))) (sAsg (dBin oAdd (dVar 9) (dVar 3)) (gName 9)) (sIf (tV (dCmp cIn (dVar 3) (dLst (aCons (dC (.str [97, 116, 32, 98, 97, 99, 107])) (aCons (dC (.str [97, 116, 32, 97, 104, 101, 97, 100])) (aNil)))))) (sAsg (dBin oAdd (dBin oAdd (dBin oAdd (dVar 9) (dC (.str [97, 116, 32]))) (dVar 8)) (dSl (dVar 3) (oSome (dC (.int 2))) (oNone))) (gName 9)) (sAsg (dBin oAdd (dBin oAdd (dBin oAdd (dBin oAdd (dVar 9) (dVar 3)) (dC (.str [32]))) (dVar 8)) (dIf (tV (dCmp cGt (dVar 5) (dC (.int 1)))) (dBin oAdd (dC (.str [32, 101, 118, 101, 114, 121, 32])) (dB bStr (aCons (dVar 5) (aNil)))) (dC (.str [])))) (gName 9)))) (
  dSeq (sIf (tAnd (tV (dVar 6)) (tV (dCmp cEq (dVar 1) (dC (.str [108, 111, 111, 107]))))) (sAsg (dBin oAdd (dVar 9) (dC (.str [32, 111, 119, 110]))) (gName 9)) (dNext)) (
  dRet (dBin oAdd (dVar 9) (dIf (tV (dVar 7)) (dC (.str [32, 102, 111, 114, 32, 116, 114, 117, 101])) (dC (.str [])))))))))
def f__law_text : Fn := dDef 1 10 b__law_text

/-- _law_rows(run); names 0:run 1:found 2:at 3:number -/
def b__law_rows : DS :=
  dSeq (sAsg (dLst (aNil)) (gName 1)) (
  dSeq (sFor (iRange1 (aCons (dB bLen (aCons (dVar 0) (aNil))) (aNil))) (gName 2) (dSeq (sAsg (dIf (tV (dCmp cGt (dIx (dVar 0) (dVar 2)) (dC (.int 0)))) (dVar 2) (dUn oNeg (dC (.int 1)))) (gName 3)) (
  sAsg (dBin oAdd (dVar 1) (dBin oMul (dLst (aCons (dVar 3) (aNil))) (dB bAbs (aCons (dIx (dVar 0) (dVar 2)) (aNil))))) (gName 1)))) (
  dRet (dVar 1)))
def f__law_rows : Fn := dDef 1 4 b__law_rows

/-- _law_looks(layer, track, x, z); names 0:layer 1:track 2:x 3:z 4:scope 5:way 6:number 7:gap -/
def b__law_looks : DS :=
  dSeq (sAsg (dSl (dVar 0) (oSome (dC (.int 1))) (oSome (dC (.int 4)))) (gTup [gName 4, gName 5, gName 6])) (
  dSeq (sAsg (dBin oSub (dVar 3) (dVar 2)) (gName 7)) (
  dSeq (sIf (tAnd (tV (dCmp cEq (dVar 4) (dC (.str [114, 111, 119])))) (tOr (tV (dCmp cLt (dIx (dVar 1) (dVar 2)) (dC (.int 0)))) (tV (dCmp cNe (dIx (dVar 1) (dVar 3)) (dIx (dVar 1) (dVar 2)))))) (dRet (dC (.bl false))) (dNext)) (
  dSeq (sIf (tAnd (tV (dCmp cEq (dVar 4) (dC (.str [116, 114, 117, 101])))) (tV (dCmp cLt (dIx (dVar 1) (dVar 3)) (dC (.int 0))))) (dRet (dC (.bl false))) (dNext)) (
  dSeq (sIf (tV (dCmp cEq (dVar 5) (dC (.str [102, 105, 114, 115, 116])))) (dRet (dCmp cEq (dM .lst mIndex (dVar 1) (aCons (dIx (dVar 1) (dVar 2)) (aNil))) (dVar 3))) (dNext)) (
  dSeq (sIf (tV (dCmp cEq (dVar 5) (dC (.str [108, 97, 115, 116])))) (dRet (dOr (dCmp cEq (dBin oAdd (dVar 3) (dC (.int 1))) (dB bLen (aCons (dVar 1) (aNil)))) (dCmp cNe (dIx (dVar 1) (dBin oAdd (dVar 3) (dC (.int 1)))) (dIx (dVar 1) (dVar 2))))) (dNext)) (
  dSeq (sIf (tV (dCmp cIn (dVar 5) (dLst (aCons (dC (.str [97, 116, 32, 98, 97, 99, 107])) (aCons (dC (.str [97, 116, 32, 97, 104, 101, 97, 100])) (aNil)))))) (dRet (dCmp cEq (dVar 7) (dIf (tV (dCmp cEq (dVar 5) (dC (.str [97, 116, 32, 97, 104, 101, 97, 100])))) (dVar 6) (dUn oNeg (dVar 6))))) (dNext)) (
  dSeq (sIf (tOr (tV (dCmp cEq (dVar 7) (dC (.int 0)))) (tOr (tAnd (tV (dCmp cEq (dVar 5) (dC (.str [98, 97, 99, 107])))) (tV (dCmp cGt (dVar 7) (dC (.int 0))))) (tAnd (tV (dCmp cEq (dVar 5) (dC (.str [97, 104, 101, 97, 100])))) (tV (dCmp cLt (dVar 7) (dC (.int 0))))))) (dRet (dC (.bl false))) (dNext)) (
  dRet (dAnd (dCmp cEq (dBin oMod (dB bInt (aCons (dB bAbs (aCons (dVar 7) (aNil))) (aNil))) (dIx (dVar 0) (dC (.int 4)))) (dC (.int 0))) (dOr (dCmp cEq (dVar 6) (dC (.int 0))) (dCmp cLe (dB bAbs (aCons (dVar 7) (aNil))) (dVar 6))))))))))))
def f__law_looks : Fn := dDef 4 8 b__law_looks

/-- _law_takes(layer, track, x, z); names 0:layer 1:track 2:x 3:z -/
def b__law_takes : DS :=
  dSeq (sIf (tOr (tV (dCmp cEq (dIx (dVar 0) (dC (.int 0))) (dC (.str [99, 108, 101, 97, 114])))) (tAnd (tV (dIx (dVar 0) (dC (.int 6)))) (tV (dCmp cLt (dIx (dVar 1) (dVar 2)) (dC (.int 0)))))) (dRet (dAnd (dCmp cEq (dVar 2) (dVar 3)) (dOr (dCmp cNe (dIx (dVar 0) (dC (.int 0))) (dC (.str [99, 108, 101, 97, 114]))) (dCmp cGe (dIx (dVar 1) (dVar 2)) (dC (.int 0)))))) (dNext)) (
  dRet (dOr (dAnd (dCmp cEq (dVar 2) (dVar 3)) (dIx (dVar 0) (dC (.int 5)))) (dCall f__law_looks (aCons (dVar 0) (aCons (dVar 1) (aCons (dVar 2) (aCons (dVar 3) (aNil))))))))
def f__law_takes : Fn := dDef 4 4 b__law_takes

/-- _law_step(layer, track); names 0:layer 1:track 2:many 3:z 4:x -/
def b__law_step : DS :=
  dSeq (sAsg (dListRg (dB bLen (aCons (dVar 1) (aNil)))) (gName 2)) (
  dRet (dLc [4] (iSeq (dVar 2)) (gName 4) (tYes) (dLc [3] (iSeq (dVar 2)) (gName 3) (tV (dCall f__law_takes (aCons (dVar 0) (aCons (dVar 1) (aCons (dVar 4) (aCons (dVar 3) (aNil))))))) (dVar 3))))
def f__law_step : Fn := dDef 2 5 b__law_step

/-- _law_through(step, found); names 0:step 1:found 2:later 3:places 4:whole 5:z -/
def b__law_through : DS :=
  dSeq (sAsg (dLst (aNil)) (gName 2)) (
  dSeq (sFor (iSeq (dVar 0)) (gName 3) (dSeq (sAsg (dC (.int 0)) (gName 4)) (
  dSeq (sFor (iSeq (dVar 3)) (gName 5) (sAsg (dBin oBor (dVar 4) (dIx (dVar 1) (dVar 5))) (gName 4))) (
  dExpr (dM .lst mAppend (dVar 2) (aCons (dVar 4) (aNil))))))) (
  dRet (dVar 2)))
def f__law_through : Fn := dDef 2 6 b__law_through

/-- _law_held(parts, track, times); names 0:parts 1:track 2:times 3:found 4:x 5:steps 6:layer 7:step -/
def b__law_held : DS :=
  dSeq (sSet 3 (dLc [4] (iRange1 (aCons (dB bLen (aCons (dVar 1) (aNil))) (aNil))) (gName 4) (tYes) (dBin oShl (dC (.int 1)) (dVar 4)))) (
  dSeq (sSet 5 (dLc [6] (iSeq (dVar 0)) (gName 6) (tYes) (dCall f__law_step (aCons (dVar 6) (aCons (dVar 1) (aNil)))))) (
  dSeq (sFor (iSeq (dBin oMul (dVar 5) (dVar 2))) (gName 7) (sAsg (dCall f__law_through (aCons (dVar 7) (aCons (dVar 3) (aNil)))) (gName 3))) (
  dRet (dVar 3))))
def f__law_held : Fn := dDef 3 8 b__law_held

/-- _law_alone(layers, track); names 0:layers 1:track 2:found 3:begin 4:many 5:inner 6:at -/
def b__law_alone : DS :=
  dSeq (sAsg (dBin oMul (dLst (aCons (dC (.int 0)) (aNil))) (dB bLen (aCons (dVar 1) (aNil)))) (gName 2)) (
  dSeq (sFor (iRange1 (aCons (dB bLen (aCons (dVar 1) (aNil))) (aNil))) (gName 3) (sIf (tAnd (tV (dCmp cGe (dIx (dVar 1) (dVar 3)) (dC (.int 0)))) (tV (dCmp cEq (dM .lst mIndex (dVar 1) (aCons (dIx (dVar 1) (dVar 3)) (aNil))) (dVar 3)))) (dSeq (sAsg (dM .lst mCount (dVar 1) (aCons (dIx (dVar 1) (dVar 3)) (aNil))) (gName 4)) (
  dSeq (sAsg (dCall f__law_held (aCons (dVar 0) (aCons (dBin oMul (dLst (aCons (dC (.int 0)) (aNil))) (dVar 4)) (aCons (dC (.int 1)) (aNil))))) (gName 5)) (
  sFor (iRange1 (aCons (dVar 4) (aNil))) (gName 6) (sAsg (dBin oShl (dIx (dVar 5) (dVar 6)) (dVar 3)) (gSub (dVar 2) (dBin oAdd (dVar 3) (dVar 6))))))) (dNext))) (
  dRet (dVar 2)))
def f__law_alone : Fn := dDef 2 7 b__law_alone

/-- _law_pairs(layers, other, track); names 0:layers 1:other 2:track 3:here 4:there 5:found 6:many 7:x 8:y -/
def b__law_pairs : DS :=
  dSeq (sAsg (dCall f__law_held (aCons (dVar 0) (aCons (dVar 2) (aCons (dC (.int 1)) (aNil))))) (gName 3)) (
  dSeq (sAsg (dIf (tV (dIsN (dVar 1))) (dCall f__law_alone (aCons (dVar 0) (aCons (dVar 2) (aNil)))) (dCall f__law_held (aCons (dVar 1) (aCons (dVar 2) (aCons (dC (.int 1)) (aNil)))))) (gName 4)) (
  dSeq (sAsg (dTup (aCons (dLst (aNil)) (aCons (dListRg (dB bLen (aCons (dVar 2) (aNil)))) (aNil)))) (gTup [gName 5, gName 6])) (
  dSeq (sFor (iSeq (dVar 6)) (gName 7) (sIf (tV (dCmp cGe (dIx (dVar 2) (dVar 7)) (dC (.int 0)))) (sAsg (dBin oAdd (dVar 5) (dLc [8] (iSeq (dVar 6)) (gName 8) (tV (dCmp cEq (dBin oBand (dBin oShr (dBin oBxor (dIx (dVar 3) (dVar 7)) (dIx (dVar 4) (dVar 7))) (dVar 8)) (dC (.int 1))) (dC (.int 1)))) (dTup (aCons (dVar 7) (aCons (dVar 8) (aNil)))))) (gName 5)) (dNext))) (
  dSeq (sIf (tV (dIsN (dVar 1))) (sSet 5 (dLc [7, 8] (iSeq (dVar 5)) (gTup [gName 7, gName 8]) (tV (dCmp cEq (dBin oBand (dBin oShr (dIx (dVar 3) (dVar 7)) (dVar 8)) (dC (.int 1))) (dC (.int 1)))) (dTup (aCons (dVar 7) (aCons (dVar 8) (aNil)))))) (dNext)) (
  dRet (dVar 5))))))
def f__law_pairs : Fn := dDef 3 9 b__law_pairs

/-- _law_bent(spring, paper); names 0:spring 1:paper 2:run 3:x 4:y 5:many 6:pick 7:way 8:piece 9:odd 10:lines -/
def b__law_bent : DS :=
  dSeq (sAsg (dVar 1) (gTup [gName 2, gName 3, gName 4])) (
  dSeq (sAsg (dTup (aCons (dB bSum (aCons (dLc [8] (iSeq (dVar 2)) (gName 8) (tYes) (dB bAbs (aCons (dVar 8) (aNil)))) (aNil))) (aCons (dCall f__law_take (aCons (dVar 0) (aCons (dC (.int 9)) (aNil)))) (aCons (dCall f__law_take (aCons (dVar 0) (aCons (dC (.int 6)) (aNil)))) (aNil))))) (gTup [gName 5, gName 6, gName 7])) (
  dSeq (sAsg (dIx (dLst (aCons (dC .non) (aCons (dC (.bl true)) (aCons (dC (.bl false)) (aCons (dUn oNeg (dC (.int 1))) (aCons (dVar 5) (aCons (dC (.str [48])) (aCons (dTup (aCons (dC (.int 0)) (aNil))) (aCons (dLst (aCons (dC (.int 0)) (aNil))) (aCons (dBin oPow (dC (.int 10)) (dC (.int 39))) (aNil))))))))))) (dVar 6)) (gName 9)) (
  dSeq (sIf (tV (dCmp cEq (dVar 7) (dC (.int 0)))) (dRet (dTup (aCons (dVar 2) (aCons (dVar 9) (aCons (dVar 4) (aNil)))))) (dNext)) (
  dSeq (sIf (tV (dCmp cEq (dVar 7) (dC (.int 1)))) (dRet (dTup (aCons (dVar 2) (aCons (dVar 3) (aCons (dVar 9) (aNil)))))) (dNext)) (
  dSeq (sIf (tV (dCmp cEq (dVar 7) (dC (.int 2)))) (dRet (dTup (aCons (dVar 2) (aCons (dCall f__law_take (aCons (dVar 0) (aCons (dVar 5) (aNil)))) (aCons (dVar 4) (aNil)))))) (dNext)) (
  dSeq (sIf (tV (dCmp cEq (dVar 7) (dC (.int 3)))) (dRet (dTup (aCons (dVar 2) (aCons (dVar 3) (aCons (dCall f__law_take (aCons (dVar 0) (aCons (dVar 5) (aNil)))) (aNil)))))) (dNext)) (
  dSeq (sIf (tV (dCmp cEq (dVar 7) (dC (.int 4)))) (dRet (dIx (dLst (aCons (dC .non) (aCons (dTup (aCons (dVar 2) (aCons (dVar 3) (aNil)))) (aCons (dLst (aCons (dVar 2) (aCons (dVar 3) (aCons (dVar 4) (aNil))))) (aCons (dTup (aCons (dB bList (aCons (dVar 2) (aNil))) (aCons (dVar 3) (aCons (dVar 4) (aNil))))) (aCons (dTup (aCons (dVar 2) (aCons (dVar 3) (aCons (dVar 4) (aCons (dVar 4) (aNil)))))) (aCons (dTup (aCons (dVar 3) (aCons (dVar 4) (aCons (dVar 2) (aNil))))) (aCons (dTup (aCons (dVar 2) (aCons (dTup (aCons (dVar 3) (aCons (dVar 4) (aNil)))) (aNil)))) (aCons (dDic0) (aCons (dC (.int 0)) (aNil))))))))))) (dVar 6))) (dNext)) (
  dSeq (sAsg (dLst (aCons (dTup aNil) (aCons (dTup (aCons (dC (.int 0)) (aNil))) (aCons (dBin oAdd (dVar 2) (dTup (aCons (dC (.int 0)) (aNil)))) (aCons (dTup (aCons (dUn oNeg (dC (.int 1))) (aCons (dUn oNeg (dC (.int 1))) (aNil)))) (aCons (dBin oAdd (dVar 2) (dTup (aCons (dUn oNeg (dC (.int 1))) (aNil)))) (aCons (dTup (aCons (dC (.bl true)) (aNil))) (aCons (dC (.int 3)) (aCons (dBin oAdd (dVar 2) (dTup (aCons (dC (.int 1)) (aNil)))) (aCons (dSl (dVar 2) (oSome (dC (.int 1))) (oNone)) (aNil))))))))))) (gName 10)) (
  dRet (dTup (aCons (dIx (dVar 10) (dVar 6)) (aCons (dVar 3) (aCons (dVar 4) (aNil))))))))))))))
def f__law_bent : Fn := dDef 2 11 b__law_bent

/-- _law_is_line(value); names 0:value 1:piece 2:at -/
def b__law_is_line : DS :=
  dSeq (sIf (tOr (tNot (tV (dIsi .tuple (dVar 0)))) (tV (dCmp cEq (dVar 0) (dTup aNil)))) (dRet (dC (.bl false))) (dNext)) (
  dSeq (sFor (iSeq (dVar 0)) (gName 1) (sIf (tOr (tNot (tV (dIsi .int (dVar 1)))) (tOr (tV (dIsi .bool (dVar 1))) (tV (dCmp cEq (dVar 1) (dC (.int 0)))))) (dRet (dC (.bl false))) (dNext))) (
  dSeq (sIf (tV (dCmp cGt (dB bSum (aCons (dLc [1] (iSeq (dVar 0)) (gName 1) (tYes) (dB bAbs (aCons (dVar 1) (aNil)))) (aNil))) (dC (.int 60)))) (dRet (dC (.bl false))) (dNext)) (
  dRet (dNot (dB bAny (aCons (dLc [2] (iRange1 (aCons (dBin oSub (dB bLen (aCons (dVar 0) (aNil))) (dC (.int 1))) (aNil))) (gName 2) (tYes) (dAnd (dCmp cLt (dIx (dVar 0) (dVar 2)) (dC (.int 0))) (dCmp cLt (dIx (dVar 0) (dBin oAdd (dVar 2) (dC (.int 1)))) (dC (.int 0))))) (aNil)))))))
def f__law_is_line : Fn := dDef 1 3 b__law_is_line

/-- _law_fits(run, laid); names 0:run 1:laid 2:signs 3:piece -/
def b__law_fits : DS :=
  dSeq (sSet 2 (dLc [3] (iSeq (dVar 0)) (gName 3) (tYes) (dCmp cGt (dVar 3) (dC (.int 0))))) (
  dSeq (sIf (tV (dCmp cEq (dVar 1) (dC (.str [98, 101, 104, 105, 110, 100])))) (dRet (dCmp cIn (dVar 2) (dLst (aCons (dLst (aCons (dC (.bl true)) (aNil))) (aCons (dLst (aCons (dC (.bl true)) (aCons (dC (.bl false)) (aNil)))) (aNil)))))) (dNext)) (
  dSeq (sIf (tV (dCmp cEq (dVar 1) (dC (.str [102, 114, 111, 110, 116])))) (dRet (dCmp cIn (dVar 2) (dLst (aCons (dLst (aCons (dC (.bl true)) (aNil))) (aCons (dLst (aCons (dC (.bl false)) (aCons (dC (.bl true)) (aNil)))) (aNil)))))) (dNext)) (
  dSeq (sIf (tV (dCmp cEq (dVar 1) (dC (.str [106, 111, 105, 110, 101, 100])))) (dRet (dCmp cNin (dC (.bl false)) (dVar 2))) (dNext)) (
  dRet (dOr (dCmp cEq (dVar 1) (dC (.str [97, 110, 121]))) (dAnd (dIx (dVar 2) (dC (.int 0))) (dCmp cNin (dC (.bl false)) (dSl (dVar 2) (oNone) (oSome (dUn oNeg (dC (.int 1))))))))))))
def f__law_fits : Fn := dDef 2 4 b__law_fits

/-- _law_are_places(values, many); names 0:values 1:many 2:value -/
def b__law_are_places : DS :=
  dSeq (sFor (iSeq (dVar 0)) (gName 2) (sIf (tOr (tNot (tV (dIsi .int (dVar 2)))) (tOr (tV (dIsi .bool (dVar 2))) (tOr (tV (dCmp cLt (dVar 2) (dC (.int 0)))) (tV (dCmp cGe (dVar 2) (dVar 1)))))) (dRet (dC (.bl false))) (dNext))) (
  dRet (dC (.bl true)))
def f__law_are_places : Fn := dDef 2 3 b__law_are_places

/-- _law_shows(layers, other, laid, paper); names 0:layers 1:other 2:laid 3:paper 4:track -/
def b__law_shows : DS :=
  dSeq (sIf (tOr (tNot (tV (dIsi .tuple (dVar 3)))) (tOr (tV (dCmp cNe (dB bLen (aCons (dVar 3) (aNil))) (dC (.int 3)))) (tNot (tV (dCall f__law_is_line (aCons (dIx (dVar 3) (dC (.int 0))) (aNil))))))) (dRet (dC (.bl false))) (dNext)) (
  dSeq (sAsg (dCall f__law_rows (aCons (dIx (dVar 3) (dC (.int 0))) (aNil))) (gName 4)) (
  dSeq (sIf (tOr (tNot (tV (dCall f__law_fits (aCons (dIx (dVar 3) (dC (.int 0))) (aCons (dVar 2) (aNil)))))) (tNot (tV (dCall f__law_are_places (aCons (dSl (dVar 3) (oSome (dC (.int 1))) (oNone)) (aCons (dB bLen (aCons (dVar 4) (aNil))) (aNil))))))) (dRet (dC (.bl false))) (dNext)) (
  dRet (dCmp cIn (dTup (aCons (dIx (dVar 3) (dC (.int 1))) (aCons (dIx (dVar 3) (dC (.int 2))) (aNil)))) (dCall f__law_pairs (aCons (dVar 0) (aCons (dVar 1) (aCons (dVar 4) (aNil)))))))))
def f__law_shows : Fn := dDef 4 5 b__law_shows

/-- Part.__init__(self, heads, span, more); names 0:self 1:heads 2:span 3:more -/
def b_PartX_initX : DS :=
  dSeq (sAsg (dVar 1) (gTup [gFld 1953653072 1685221239 (dVar 0), gFld 1953653072 435678045043 (dVar 0)])) (
  dSeq (sAsg (dVar 2) (gTup [gFld 1953653072 7954807 (dVar 0), gFld 1953653072 125779768604014 (dVar 0)])) (
  sAsg (dVar 3) (gTup [gFld 1953653072 521610294885 (dVar 0), gFld 1953653072 7239535 (dVar 0), gFld 1953653072 435710685299 (dVar 0)])))
def f_PartX_initX : Fn := dDef 4 4 b_PartX_initX

/-- figure_at(figure); names 0:figure 1:number 2:other -/
def b_figure_at : DS :=
  dSeq (sFor (iEnum (aCons (dC c_FIGURES) (aNil))) (gTup [gName 1, gName 2]) (sIf (tV (dCmp cEq (dVar 2) (dVar 0))) (dRet (dVar 1)) (dNext))) (
  dRet (dC .non))
def f_figure_at : Fn := dDef 1 3 b_figure_at

/-- span_of(scope, words); names 0:scope 1:words -/
def b_span_of : DS :=
  dSeq (sIf (tV (dCmp cIn (dIx (dVar 1) (dC (.int 0))) (dTup (aCons (dC (.str [102, 105, 114, 115, 116])) (aCons (dC (.str [108, 97, 115, 116])) (aNil)))))) (dRet (dIf (tV (dCmp cEq (dVar 0) (dC (.str [114, 111, 119])))) (dTup (aCons (dTup (aCons (dIx (dVar 1) (dC (.int 0))) (aCons (dC (.int 0)) (aNil)))) (aCons (dC (.int 1)) (aNil)))) (dC .non))) (dNext)) (
  dSeq (sIf (tAnd (tV (dCmp cGt (dB bLen (aCons (dVar 1) (aNil))) (dC (.int 1)))) (tAnd (tV (dCmp cIn (dIx (dVar 1) (dC (.int 0))) (dTup (aCons (dC (.str [98, 97, 99, 107])) (aCons (dC (.str [97, 104, 101, 97, 100])) (aCons (dC (.str [97, 114, 111, 117, 110, 100])) (aNil))))))) (tV (dCmp cIn (dIx (dVar 1) (dC (.int 1))) (dC c_FIGURES))))) (dRet (dTup (aCons (dTup (aCons (dIx (dVar 1) (dC (.int 0))) (aCons (dCall f_figure_at (aCons (dIx (dVar 1) (dC (.int 1))) (aNil))) (aNil)))) (aCons (dC (.int 2)) (aNil))))) (dNext)) (
  dSeq (sIf (tAnd (tV (dCmp cGt (dB bLen (aCons (dVar 1) (aNil))) (dC (.int 2)))) (tAnd (tV (dCmp cEq (dIx (dVar 1) (dC (.int 0))) (dC (.str [97, 116])))) (tAnd (tV (dCmp cIn (dIx (dVar 1) (dC (.int 1))) (dSl (dC c_FIGURES) (oSome (dC (.int 1))) (oNone)))) (tV (dCmp cIn (dIx (dVar 1) (dC (.int 2))) (dTup (aCons (dC (.str [98, 97, 99, 107])) (aCons (dC (.str [97, 104, 101, 97, 100])) (aNil))))))))) (dRet (dTup (aCons (dTup (aCons (dFmt [97, 116, 32] (dIx (dVar 1) (dC (.int 2)))) (aCons (dCall f_figure_at (aCons (dIx (dVar 1) (dC (.int 1))) (aNil))) (aNil)))) (aCons (dC (.int 3)) (aNil))))) (dNext)) (
  dRet (dC .non))))
def f_span_of : Fn := dDef 2 2 b_span_of

/-- part_of(layer); names 0:layer 1:words 2:found 3:span 4:many 5:rest 6:every 7:own -/
def b_part_of : DS :=
  dSeq (sIf (tNot (tV (dIsi .str (dVar 0)))) (dRet (dC .non)) (dNext)) (
  dSeq (sAsg (dM .str mSplit (dVar 0) (aCons (dC (.str [32])) (aNil))) (gName 1)) (
  dSeq (sIf (tV (dCmp cEq (dVar 1) (dLst (aCons (dC (.str [99, 108, 101, 97, 114])) (aNil))))) (dRet (dMake 1953653072 f_PartX_initX (aCons (dTup (aCons (dC (.str [99, 108, 101, 97, 114])) (aCons (dC (.str [])) (aNil)))) (aCons (dTup (aCons (dC (.str [])) (aCons (dC (.int 0)) (aNil)))) (aCons (dTup (aCons (dC (.int 1)) (aCons (dC (.bl false)) (aCons (dC (.bl false)) (aNil))))) (aNil)))))) (dNext)) (
  dSeq (sIf (tOr (tV (dCmp cLt (dB bLen (aCons (dVar 1) (aNil))) (dC (.int 3)))) (tOr (tV (dCmp cNin (dIx (dVar 1) (dC (.int 0))) (dTup (aCons (dC (.str [108, 111, 111, 107])) (aCons (dC (.str [97, 100, 100])) (aNil)))))) (tV (dCmp cNin (dIx (dVar 1) (dC (.int 1))) (dTup (aCons (dC (.str [114, 111, 119])) (aCons (dC (.str [116, 114, 117, 101])) (aCons (dC (.str [108, 105, 110, 101])) (aNil))))))))) (dRet (dC .non)) (dNext)) (
  dSeq (sAsg (dCall f_span_of (aCons (dIx (dVar 1) (dC (.int 1))) (aCons (dSl (dVar 1) (oSome (dC (.int 2))) (oNone)) (aNil)))) (gName 2)) (
  dSeq (sIf (tV (dIsN (dVar 2))) (dRet (dC .non)) (dNext)) (
  dSeq (sAsg (dVar 2) (gTup [gName 3, gName 4])) (
  dSeq (sAsg (dTup (aCons (dSl (dVar 1) (oSome (dBin oAdd (dC (.int 2)) (dVar 4))) (oNone)) (aCons (dC (.int 1)) (aNil)))) (gTup [gName 5, gName 6])) (
  dSeq (sIf (tAnd (tV (dCmp cEq (dSl (dVar 5) (oNone) (oSome (dC (.int 1)))) (dLst (aCons (dC (.str [101, 118, 101, 114, 121])) (aNil))))) (tAnd (tV (dCmp cIn (dIx (dVar 3) (dC (.int 0))) (dTup (aCons (dC (.str [98, 97, 99, 107])) (aCons (dC (.str [97, 104, 101, 97, 100])) (aCons (dC (.str [97, 114, 111, 117, 110, 100])) (aNil))))))) (tV (dCmp cIn (dSl (dVar 5) (oSome (dC (.int 1))) (oSome (dC (.int 2)))) (dTup (aCons (dLst (aCons (dC (.str [50])) (aNil))) (aCons (dLst (aCons (dC (.str [51])) (aNil))) (aNil)))))))) (sAsg (dTup (aCons (dSl (dVar 5) (oSome (dC (.int 2))) (oNone)) (aCons (dB bInt (aCons (dIx (dVar 5) (dC (.int 1))) (aNil))) (aNil)))) (gTup [gName 5, gName 6])) (dNext)) (
  dSeq (sAsg (dOr (dCmp cEq (dIx (dVar 1) (dC (.int 0))) (dC (.str [97, 100, 100]))) (dCmp cEq (dSl (dVar 5) (oNone) (oSome (dC (.int 1)))) (dLst (aCons (dC (.str [111, 119, 110])) (aNil))))) (gName 7)) (
  dSeq (sIf (tAnd (tV (dCmp cEq (dIx (dVar 1) (dC (.int 0))) (dC (.str [108, 111, 111, 107])))) (tV (dVar 7))) (sAsg (dSl (dVar 5) (oSome (dC (.int 1))) (oNone)) (gName 5)) (dNext)) (
  dSeq (sIf (tV (dCmp cNin (dVar 5) (dTup (aCons (dLst (aNil)) (aCons (dLst (aCons (dC (.str [102, 111, 114])) (aCons (dC (.str [116, 114, 117, 101])) (aNil)))) (aNil)))))) (dRet (dC .non)) (dNext)) (
  dRet (dMake 1953653072 f_PartX_initX (aCons (dTup (aCons (dIx (dVar 1) (dC (.int 0))) (aCons (dIx (dVar 1) (dC (.int 1))) (aNil)))) (aCons (dVar 3) (aCons (dTup (aCons (dVar 6) (aCons (dVar 7) (aCons (dCmp cNe (dVar 5) (dLst (aNil))) (aNil))))) (aNil)))))))))))))))))
def f_part_of : Fn := dDef 1 8 b_part_of

/-- width_of(part); names 0:part -/
def b_width_of : DS :=
  dSeq (sIf (tV (dCmp cEq (dFld 1953653072 1685221239 (dVar 0)) (dC (.str [99, 108, 101, 97, 114])))) (dRet (dC (.int 0))) (dNext)) (
  dSeq (sIf (tV (dCmp cIn (dFld 1953653072 7954807 (dVar 0)) (dTup (aCons (dC (.str [102, 105, 114, 115, 116])) (aCons (dC (.str [108, 97, 115, 116])) (aNil)))))) (dRet (dC (.int 1))) (dNext)) (
  dRet (dIf (tV (dCmp cEq (dFld 1953653072 125779768604014 (dVar 0)) (dC (.int 0)))) (dFld 1953653072 521610294885 (dVar 0)) (dFld 1953653072 125779768604014 (dVar 0)))))
def f_width_of : Fn := dDef 1 1 b_width_of

/-- first_wrong(layers); names 0:layers 1:whole 2:index 3:layer 4:part -/
def b_first_wrong : DS :=
  dSeq (sAsg (dC (.int 0)) (gName 1)) (
  dSeq (sFor (iEnum (aCons (dVar 0) (aNil))) (gTup [gName 2, gName 3]) (dSeq (sAsg (dCall f_part_of (aCons (dVar 3) (aNil))) (gName 4)) (
  dSeq (sIf (tOr (tV (dCmp cEq (dVar 2) (dC c_MOST_LAYERS))) (tOr (tV (dIsN (dVar 4))) (tV (dCmp cGt (dBin oAdd (dVar 1) (dCall f_width_of (aCons (dVar 4) (aNil)))) (dC c_MOST_WIDTH))))) (dRet (dVar 2)) (dNext)) (
  sAug aAdd 1 (dCall f_width_of (aCons (dVar 4) (aNil))))))) (
  dRet (dC .non)))
def f_first_wrong : Fn := dDef 1 5 b_first_wrong

/-- Program.__init__(self, layers); names 0:self 1:layers 2:wrong -/
def b_ProgramX_initX : DS :=
  dSeq (sIf (tOr (tNot (tV (dIsi .tuple (dVar 1)))) (tV (dCmp cEq (dVar 1) (dTup aNil)))) (sBad) (dNext)) (
  dSeq (sAsg (dCall f_first_wrong (aCons (dVar 1) (aNil))) (gName 2)) (
  dSeq (sIf (tV (dNotN (dVar 2))) (sBad) (dNext)) (
  sAsg (dVar 1) (gFld 30787916450984528 495622973804 (dVar 0)))))
def f_ProgramX_initX : Fn := dDef 2 3 b_ProgramX_initX

/-- Program.read(cls, text); names 0:cls 1:text 2:lines 3:wrong -/
def b_Program_read : DS :=
  dSeq (sIf (tNot (tV (dIsi .str (dVar 1)))) (sBad) (dNext)) (
  dSeq (sAsg (dM .str mSplit (dVar 1) (aCons (dC (.str [10])) (aNil))) (gName 2)) (
  dSeq (sAsg (dCall f_first_wrong (aCons (dVar 2) (aNil))) (gName 3)) (
  dSeq (sIf (tV (dNotN (dVar 3))) (sBad) (dNext)) (
  dRet (dMakeV 30787916450984528 f_ProgramX_initX (dVar 0) (aCons (dB bTuple (aCons (dVar 2) (aNil))) (aNil)))))))
def f_Program_read : Fn := dDef 2 4 b_Program_read

/-- program_of(value); names 0:value -/
def b_program_of : DS :=
  dSeq (sIf (tNot (tV (dIsi .str (dVar 0)))) (dRet (dC .non)) (dNext)) (
  sThru (dRet (dCallC f_Program_read 30787916450984528 (aCons (dVar 0) (aNil)))))
def f_program_of : Fn := dDef 1 1 b_program_of

/-- is_integer(value); names 0:value -/
def b_is_integer : DS :=
  dRet (dAnd (dIsi .int (dVar 0)) (dNot (dIsi .bool (dVar 0))))
def f_is_integer : Fn := dDef 1 1 b_is_integer

/-- is_line(value); names 0:value 1:piece 2:at -/
def b_is_line : DS :=
  dSeq (sIf (tOr (tNot (tV (dIsi .tuple (dVar 0)))) (tOr (tV (dCmp cEq (dVar 0) (dTup aNil))) (tNot (tV (dB bAll (aCons (dLc [1] (iSeq (dVar 0)) (gName 1) (tYes) (dAnd (dCall f_is_integer (aCons (dVar 1) (aNil))) (dCmp cNe (dVar 1) (dC (.int 0))))) (aNil))))))) (dRet (dC (.bl false))) (dNext)) (
  dSeq (sIf (tV (dCmp cGt (dB bSum (aCons (dLc [1] (iSeq (dVar 0)) (gName 1) (tYes) (dB bAbs (aCons (dVar 1) (aNil)))) (aNil))) (dC c_MOST_PLACES))) (dRet (dC (.bl false))) (dNext)) (
  dRet (dNot (dB bAny (aCons (dLc [2] (iRange2 (aCons (dC (.int 1)) (aCons (dB bLen (aCons (dVar 0) (aNil))) (aNil)))) (gName 2) (tYes) (dAnd (dCmp cLt (dIx (dVar 0) (dBin oSub (dVar 2) (dC (.int 1)))) (dC (.int 0))) (dCmp cLt (dIx (dVar 0) (dVar 2)) (dC (.int 0))))) (aNil))))))
def f_is_line : Fn := dDef 1 3 b_is_line

/-- is_of(line, plan); names 0:line 1:plan 2:whole 3:piece -/
def b_is_of : DS :=
  dSeq (sSet 2 (dLc [3] (iSeq (dVar 0)) (gName 3) (tYes) (dCmp cGt (dVar 3) (dC (.int 0))))) (
  dSeq (sIf (tV (dCmp cEq (dVar 1) (dC (.str [98, 101, 104, 105, 110, 100])))) (dRet (dCmp cIn (dVar 2) (dTup (aCons (dLst (aCons (dC (.bl true)) (aNil))) (aCons (dLst (aCons (dC (.bl true)) (aCons (dC (.bl false)) (aNil)))) (aNil)))))) (dNext)) (
  dSeq (sIf (tV (dCmp cEq (dVar 1) (dC (.str [102, 114, 111, 110, 116])))) (dRet (dCmp cIn (dVar 2) (dTup (aCons (dLst (aCons (dC (.bl true)) (aNil))) (aCons (dLst (aCons (dC (.bl false)) (aCons (dC (.bl true)) (aNil)))) (aNil)))))) (dNext)) (
  dSeq (sIf (tV (dCmp cEq (dVar 1) (dC (.str [106, 111, 105, 110, 101, 100])))) (dRet (dCmp cNin (dC (.bl false)) (dVar 2))) (dNext)) (
  dRet (dOr (dCmp cEq (dVar 1) (dC (.str [97, 110, 121]))) (dAnd (dIx (dVar 2) (dC (.int 0))) (dCmp cNin (dC (.bl false)) (dSl (dVar 2) (oNone) (oSome (dUn oNeg (dC (.int 1))))))))))))
def f_is_of : Fn := dDef 2 4 b_is_of

/-- is_line_of(value, plan); names 0:value 1:plan -/
def b_is_line_of : DS :=
  dRet (dAnd (dCall f_is_line (aCons (dVar 0) (aNil))) (dCall f_is_of (aCons (dVar 0) (aCons (dVar 1) (aNil)))))
def f_is_line_of : Fn := dDef 2 2 b_is_line_of

/-- stretches(line); names 0:line 1:found 2:begin 3:piece -/
def b_stretches : DS :=
  dSeq (sAsg (dTup (aCons (dLst (aNil)) (aCons (dC (.int 0)) (aNil)))) (gTup [gName 1, gName 2])) (
  dSeq (sFor (iSeq (dVar 0)) (gName 3) (dSeq (dExpr (dM .lst mAppend (dVar 1) (aCons (dTup (aCons (dVar 2) (aCons (dBin oSub (dBin oAdd (dVar 2) (dB bAbs (aCons (dVar 3) (aNil)))) (dC (.int 1))) (aNil)))) (aNil)))) (
  sAug aAdd 2 (dB bAbs (aCons (dVar 3) (aNil)))))) (
  dRet (dVar 1)))
def f_stretches : Fn := dDef 1 4 b_stretches

/-- rows_by_place(line); names 0:line 1:found 2:piece 3:stretch -/
def b_rows_by_place : DS :=
  dSeq (sAsg (dLst (aNil)) (gName 1)) (
  dSeq (sFor (iZip (aCons (dVar 0) (aCons (dCall f_stretches (aCons (dVar 0) (aNil))) (aNil)))) (gTup [gName 2, gName 3]) (dExpr (dM .lst mExtend (dVar 1) (aCons (dBin oMul (dLst (aCons (dIf (tV (dCmp cGt (dVar 2) (dC (.int 0)))) (dVar 3) (dC .non)) (aNil))) (dB bAbs (aCons (dVar 2) (aNil)))) (aNil))))) (
  dRet (dVar 1)))
def f_rows_by_place : Fn := dDef 1 4 b_rows_by_place

/-- is_within(value, low, high); names 0:value 1:low 2:high -/
def b_is_within : DS :=
  dRet (dAnd (dCall f_is_integer (aCons (dVar 0) (aNil))) (dChain cLe cLe (dVar 1) (dVar 0) (dVar 2)))
def f_is_within : Fn := dDef 3 3 b_is_within

/-- is_place_pair(plan, certificate); names 0:plan 1:certificate 2:places 3:place -/
def b_is_place_pair : DS :=
  dSeq (sIf (tOr (tNot (tV (dIsi .tuple (dVar 1)))) (tOr (tV (dCmp cNe (dB bLen (aCons (dVar 1) (aNil))) (dC (.int 3)))) (tNot (tV (dCall f_is_line_of (aCons (dIx (dVar 1) (dC (.int 0))) (aCons (dVar 0) (aNil)))))))) (dRet (dC (.bl false))) (dNext)) (
  dSeq (sAsg (dCall f_rows_by_place (aCons (dIx (dVar 1) (dC (.int 0))) (aNil))) (gName 2)) (
  dSeq (sIf (tNot (tV (dB bAll (aCons (dLc [3] (iSeq (dSl (dVar 1) (oSome (dC (.int 1))) (oNone))) (gName 3) (tYes) (dCall f_is_within (aCons (dVar 3) (aCons (dC (.int 0)) (aCons (dBin oSub (dB bLen (aCons (dVar 2) (aNil))) (dC (.int 1))) (aNil)))))) (aNil))))) (dRet (dC (.bl false))) (dNext)) (
  dRet (dNotN (dIx (dVar 2) (dIx (dVar 1) (dC (.int 1))))))))
def f_is_place_pair : Fn := dDef 2 4 b_is_place_pair

/-- check_program(value); names 0:value -/
def b_check_program : DS :=
  sIf (tNot (tV (dIsC 30787916450984528 (dVar 0)))) (sBad) (dNext)
def f_check_program : Fn := dDef 1 1 b_check_program

/-- check_line(line); names 0:line -/
def b_check_line : DS :=
  sIf (tNot (tV (dCall f_is_line (aCons (dVar 0) (aNil))))) (sBad) (dNext)
def f_check_line : Fn := dDef 1 1 b_check_line

/-- check_held(program, line, rounds); names 0:program 1:line 2:rounds -/
def b_check_held : DS :=
  dSeq (dExpr (dCall f_check_program (aCons (dVar 0) (aNil)))) (
  dSeq (dExpr (dCall f_check_line (aCons (dVar 1) (aNil)))) (
  sIf (tNot (tV (dCall f_is_within (aCons (dVar 2) (aCons (dC (.int 1)) (aCons (dC c_MOST_ROUNDS) (aNil))))))) (sBad) (dNext)))
def f_check_held : Fn := dDef 3 3 b_check_held

/-- is_looked_at(part, places, x, z); names 0:part 1:places 2:x 3:z 4:mine 5:distance -/
def b_is_looked_at : DS :=
  dSeq (sAsg (dIx (dVar 1) (dVar 2)) (gName 4)) (
  dSeq (sIf (tV (dCmp cIn (dFld 1953653072 7954807 (dVar 0)) (dTup (aCons (dC (.str [102, 105, 114, 115, 116])) (aCons (dC (.str [108, 97, 115, 116])) (aNil)))))) (dRet (dAnd (dNotN (dVar 4)) (dCmp cEq (dVar 3) (dIx (dVar 4) (dIf (tV (dCmp cEq (dFld 1953653072 7954807 (dVar 0)) (dC (.str [102, 105, 114, 115, 116])))) (dC (.int 0)) (dC (.int 1))))))) (dNext)) (
  dSeq (sIf (tAnd (tV (dCmp cEq (dFld 1953653072 435678045043 (dVar 0)) (dC (.str [114, 111, 119])))) (tOr (tV (dIsN (dVar 4))) (tV (dCmp cNe (dIx (dVar 1) (dVar 3)) (dVar 4))))) (dRet (dC (.bl false))) (dNext)) (
  dSeq (sIf (tAnd (tV (dCmp cEq (dFld 1953653072 435678045043 (dVar 0)) (dC (.str [116, 114, 117, 101])))) (tV (dIsN (dIx (dVar 1) (dVar 3))))) (dRet (dC (.bl false))) (dNext)) (
  dSeq (sIf (tV (dCmp cIn (dFld 1953653072 7954807 (dVar 0)) (dTup (aCons (dC (.str [97, 116, 32, 98, 97, 99, 107])) (aCons (dC (.str [97, 116, 32, 97, 104, 101, 97, 100])) (aNil)))))) (dRet (dCmp cEq (dBin oSub (dVar 3) (dVar 2)) (dIf (tV (dCmp cEq (dFld 1953653072 7954807 (dVar 0)) (dC (.str [97, 116, 32, 97, 104, 101, 97, 100])))) (dFld 1953653072 125779768604014 (dVar 0)) (dUn oNeg (dFld 1953653072 125779768604014 (dVar 0)))))) (dNext)) (
  dSeq (sIf (tOr (tV (dCmp cEq (dVar 3) (dVar 2))) (tOr (tAnd (tV (dCmp cEq (dFld 1953653072 7954807 (dVar 0)) (dC (.str [98, 97, 99, 107])))) (tV (dCmp cGt (dVar 3) (dVar 2)))) (tAnd (tV (dCmp cEq (dFld 1953653072 7954807 (dVar 0)) (dC (.str [97, 104, 101, 97, 100])))) (tV (dCmp cLt (dVar 3) (dVar 2)))))) (dRet (dC (.bl false))) (dNext)) (
  dSeq (sAsg (dB bAbs (aCons (dBin oSub (dVar 3) (dVar 2)) (aNil))) (gName 5)) (
  dRet (dAnd (dCmp cEq (dBin oMod (dVar 5) (dFld 1953653072 521610294885 (dVar 0))) (dC (.int 0))) (dOr (dCmp cEq (dFld 1953653072 125779768604014 (dVar 0)) (dC (.int 0))) (dCmp cLe (dVar 5) (dFld 1953653072 125779768604014 (dVar 0))))))))))))
def f_is_looked_at : Fn := dDef 4 6 b_is_looked_at

/-- is_taken(part, places, x, z); names 0:part 1:places 2:x 3:z 4:filling -/
def b_is_taken : DS :=
  dSeq (sAsg (dIsN (dIx (dVar 1) (dVar 2))) (gName 4)) (
  dSeq (sIf (tV (dCmp cEq (dFld 1953653072 1685221239 (dVar 0)) (dC (.str [99, 108, 101, 97, 114])))) (dRet (dAnd (dCmp cEq (dVar 2) (dVar 3)) (dNot (dVar 4)))) (dNext)) (
  dSeq (sIf (tAnd (tV (dFld 1953653072 435710685299 (dVar 0))) (tV (dVar 4))) (dRet (dCmp cEq (dVar 2) (dVar 3))) (dNext)) (
  dRet (dOr (dAnd (dCmp cEq (dVar 2) (dVar 3)) (dFld 1953653072 7239535 (dVar 0))) (dCall f_is_looked_at (aCons (dVar 0) (aCons (dVar 1) (aCons (dVar 2) (aCons (dVar 3) (aNil))))))))))
def f_is_taken : Fn := dDef 4 5 b_is_taken

/-- taken_by(part, line); names 0:part 1:line 2:places 3:many 4:z 5:x -/
def b_taken_by : DS :=
  dSeq (sAsg (dCall f_rows_by_place (aCons (dVar 1) (aNil))) (gName 2)) (
  dSeq (sAsg (dListRg (dB bLen (aCons (dVar 2) (aNil)))) (gName 3)) (
  dRet (dLc [5] (iSeq (dVar 3)) (gName 5) (tYes) (dLc [4] (iSeq (dVar 3)) (gName 4) (tV (dCall f_is_taken (aCons (dVar 0) (aCons (dVar 2) (aCons (dVar 5) (aCons (dVar 4) (aNil))))))) (dVar 4)))))
def f_taken_by : Fn := dDef 2 6 b_taken_by

/-- held_on(parts, line, rounds); names 0:parts 1:line 2:rounds 3:steps 4:part 5:found 6:x 7:piece 8:step 9:z 10:y 11:places -/
def b_held_on : DS :=
  dSeq (sSet 3 (dLc [4] (iSeq (dVar 0)) (gName 4) (tYes) (dCall f_taken_by (aCons (dVar 4) (aCons (dVar 1) (aNil)))))) (
  dSeq (sSet 5 (dLc [6] (iRange1 (aCons (dB bSum (aCons (dLc [7] (iSeq (dVar 1)) (gName 7) (tYes) (dB bAbs (aCons (dVar 7) (aNil)))) (aNil))) (aNil))) (gName 6) (tYes) (dLst (aCons (dVar 6) (aNil))))) (
  dSeq (sFor (iSeq (dBin oMul (dVar 3) (dVar 2))) (gName 8) (sSet 5 (dLc [11] (iSeq (dVar 8)) (gName 11) (tYes) (dSortSet (dLc2 [9, 10] [10] (iSeq (dVar 11)) (gName 9) (tYes) (iSeq (dIx (dVar 5) (dVar 9))) (gName 10) (tYes) (dVar 10)))))) (
  dRet (dVar 5))))
def f_held_on : Fn := dDef 3 12 b_held_on

/-- Program.layers(self); names 0:self -/
def b_Program_layers : DS :=
  dRet (dFld 30787916450984528 495622973804 (dVar 0))
def f_Program_layers : Fn := dDef 1 1 b_Program_layers

/-- parts_of(program); names 0:program 1:layer -/
def b_parts_of : DS :=
  dRet (dLc [1] (iSeq (dProp 30787916450984528 126935165919596 f_Program_layers (dVar 0))) (gName 1) (tYes) (dCall f_part_of (aCons (dVar 1) (aNil))))
def f_parts_of : Fn := dDef 1 2 b_parts_of

/-- held(program, line, rounds); names 0:program 1:line 2:rounds 3:places -/
def b_held : DS :=
  dSeq (dExpr (dCall f_check_held (aCons (dVar 0) (aCons (dVar 1) (aCons (dVar 2) (aNil)))))) (
  dRet (dB bTuple (aCons (dLc [3] (iSeq (dCall f_held_on (aCons (dCall f_parts_of (aCons (dVar 0) (aNil))) (aCons (dVar 1) (aCons (dVar 2) (aNil)))))) (gName 3) (tYes) (dB bTuple (aCons (dVar 3) (aNil)))) (aNil))))
def f_held : Fn := dDef 3 4 b_held

/-- letters(line); names 0:line 1:piece -/
def b_letters : DS :=
  dSeq (dExpr (dCall f_check_line (aCons (dVar 0) (aNil)))) (
  dRet (dM .str mJoin (dC (.str [])) (aCons (dLc [1] (iSeq (dVar 0)) (gName 1) (tYes) (dIf (tV (dCmp cGt (dVar 1) (dC (.int 0)))) (dBin oAdd (dC (.str [98])) (dBin oMulS (dC (.str [111])) (dBin oSub (dVar 1) (dC (.int 1))))) (dBin oMulS (dC (.str [102])) (dUn oNeg (dVar 1))))) (aNil))))
def f_letters : Fn := dDef 1 2 b_letters

/-- rows(line); names 0:line 1:piece 2:stretch -/
def b_rows : DS :=
  dSeq (dExpr (dCall f_check_line (aCons (dVar 0) (aNil)))) (
  dRet (dB bTuple (aCons (dLc [1, 2] (iZip (aCons (dVar 0) (aCons (dCall f_stretches (aCons (dVar 0) (aNil))) (aNil)))) (gTup [gName 1, gName 2]) (tV (dCmp cGt (dVar 1) (dC (.int 0)))) (dVar 2)) (aNil))))
def f_rows : Fn := dDef 1 3 b_rows

/-- alone(program, line, rounds); names 0:program 1:line 2:rounds 3:found 4:first 5:last 6:place 7:held_there 8:y -/
def b_alone : DS :=
  dSeq (dExpr (dCall f_check_held (aCons (dVar 0) (aCons (dVar 1) (aCons (dVar 2) (aNil)))))) (
  dSeq (sAsg (dBin oMul (dLst (aCons (dTup aNil) (aNil))) (dB bLen (aCons (dCall f_letters (aCons (dVar 1) (aNil))) (aNil)))) (gName 3)) (
  dSeq (sFor (iSeq (dCall f_rows (aCons (dVar 1) (aNil)))) (gTup [gName 4, gName 5]) (sFor (iEnum (aCons (dCall f_held_on (aCons (dCall f_parts_of (aCons (dVar 0) (aNil))) (aCons (dTup (aCons (dBin oAdd (dBin oSub (dVar 5) (dVar 4)) (dC (.int 1))) (aNil))) (aCons (dVar 2) (aNil))))) (aNil))) (gTup [gName 6, gName 7]) (sAsg (dB bTuple (aCons (dLc [8] (iSeq (dVar 7)) (gName 8) (tYes) (dBin oAdd (dVar 4) (dVar 8))) (aNil))) (gSub (dVar 3) (dBin oAdd (dVar 4) (dVar 6)))))) (
  dRet (dB bTuple (aCons (dVar 3) (aNil))))))
def f_alone : Fn := dDef 3 9 b_alone

/-- shows_more(program, plan, certificate); names 0:program 1:plan 2:certificate 3:line 4:x 5:y -/
def b_shows_more : DS :=
  dSeq (sIf (tNot (tV (dCall f_is_place_pair (aCons (dVar 1) (aCons (dVar 2) (aNil)))))) (dRet (dC (.bl false))) (dNext)) (
  dSeq (sAsg (dVar 2) (gTup [gName 3, gName 4, gName 5])) (
  dRet (dAnd (dCmp cIn (dVar 5) (dIx (dCallD f_held [(.int 1)] (aCons (dVar 0) (aCons (dVar 3) (aNil)))) (dVar 4))) (dCmp cNin (dVar 5) (dIx (dCallD f_alone [(.int 1)] (aCons (dVar 0) (aCons (dVar 3) (aNil)))) (dVar 4))))))
def f_shows_more : Fn := dDef 3 6 b_shows_more

/-- shows_unlike(one, other, plan, certificate); names 0:one 1:other 2:plan 3:certificate 4:line 5:x 6:y -/
def b_shows_unlike : DS :=
  dSeq (sIf (tNot (tV (dCall f_is_place_pair (aCons (dVar 2) (aCons (dVar 3) (aNil)))))) (dRet (dC (.bl false))) (dNext)) (
  dSeq (sAsg (dVar 3) (gTup [gName 4, gName 5, gName 6])) (
  dRet (dCmp cNe (dCmp cIn (dVar 6) (dIx (dCallD f_held [(.int 1)] (aCons (dVar 0) (aCons (dVar 4) (aNil)))) (dVar 5))) (dCmp cIn (dVar 6) (dIx (dCallD f_held [(.int 1)] (aCons (dVar 1) (aCons (dVar 4) (aNil)))) (dVar 5))))))
def f_shows_unlike : Fn := dDef 4 7 b_shows_unlike

/-- accepts(claim, certificate); names 0:claim 1:certificate 2:word 3:plan 4:program 5:other 6:kind 7:parts -/
def b_accepts : DS :=
  dSeq (sIf (tOr (tNot (tV (dIsi .tuple (dVar 0)))) (tOr (tV (dCmp cEq (dVar 0) (dTup aNil))) (tNot (tV (dIsi .str (dIx (dVar 0) (dC (.int 0)))))))) (dRet (dC (.bl false))) (dNext)) (
  dSeq (sAsg (dTup (aCons (dIx (dVar 0) (dC (.int 0))) (aCons (dIx (dVar 0) (dUn oNeg (dC (.int 1)))) (aNil)))) (gTup [gName 2, gName 3])) (
  dSeq (sIf (tOr (tV (dCmp cNe (dGetC c_SIZES (dVar 2) (dC (.int 0))) (dB bLen (aCons (dVar 0) (aNil))))) (tOr (tNot (tV (dIsi .str (dVar 3)))) (tV (dCmp cNin (dVar 3) (dC c_PLANS))))) (dRet (dC (.bl false))) (dNext)) (
  dSeq (sAsg (dCall f_program_of (aCons (dIx (dVar 0) (dC (.int 1))) (aNil))) (gName 4)) (
  dSeq (sIf (tV (dIsN (dVar 4))) (dRet (dC (.bl false))) (dNext)) (
  dSeq (sIf (tV (dCmp cEq (dVar 2) (dC (.str [109, 111, 114, 101])))) (dRet (dCall f_shows_more (aCons (dVar 4) (aCons (dVar 3) (aCons (dVar 1) (aNil)))))) (dNext)) (
  dSeq (sIf (tV (dCmp cEq (dVar 2) (dC (.str [117, 110, 108, 105, 107, 101])))) (dSeq (sAsg (dCall f_program_of (aCons (dIx (dVar 0) (dC (.int 2))) (aNil))) (gName 5)) (
  dRet (dAnd (dNotN (dVar 5)) (dCall f_shows_unlike (aCons (dVar 4) (aCons (dVar 5) (aCons (dVar 3) (aCons (dVar 1) (aNil))))))))) (dNext)) (
  dSeq (sAsg (dTup (aCons (dIx (dVar 0) (dC (.int 2))) (aCons (dCall f_parts_of (aCons (dVar 4) (aNil))) (aNil)))) (gTup [gName 6, gName 7])) (
  dSeq (sIf (tOr (tNot (tV (dIsi .str (dVar 6)))) (tV (dCmp cNin (dVar 6) (dC c_KINDS)))) (dRet (dC (.bl false))) (dNext)) (
  dSeq (sIf (tV (dCmp cEq (dVar 2) (dC (.str [110, 101, 118, 101, 114])))) (dRet (dBad)) (dNext)) (
  dSeq (sIf (tV (dCmp cEq (dVar 2) (dC (.str [101, 118, 101, 114])))) (dRet (dBad)) (dNext)) (
  dRet (dBad))))))))))))
def f_accepts : Fn := dDef 2 8 b_accepts

/-- _law_judged_right(spring); names 0:spring 1:rooms 2:layers 3:laid 4:other 5:room 6:text 7:run 8:layer 9:track 10:pairs 11:x 12:y 13:paper 14:saying 15:due -/
def b__law_judged_right : DS :=
  dSeq (sAsg (dIx (dLst (aCons (dLst (aCons (dC (.int 3)) (aNil))) (aCons (dLst (aCons (dC (.int 2)) (aCons (dC (.int 2)) (aNil)))) (aCons (dLst (aCons (dC (.int 3)) (aCons (dC (.int 2)) (aNil)))) (aCons (dLst (aCons (dC (.int 2)) (aCons (dC (.int 0)) (aCons (dC (.int 2)) (aNil))))) (aCons (dLst (aCons (dC (.int 1)) (aCons (dC (.int 2)) (aCons (dC (.int 3)) (aNil))))) (aNil))))))) (dCall f__law_take (aCons (dVar 0) (aCons (dC (.int 5)) (aNil))))) (gName 1)) (
  dSeq (sAsg (dTup (aCons (dLc [5] (iSeq (dVar 1)) (gName 5) (tYes) (dCall f__law_layer (aCons (dVar 0) (aCons (dVar 5) (aNil))))) (aCons (dCall f__law_plan (aCons (dVar 0) (aNil))) (aCons (dC .non) (aNil))))) (gTup [gName 2, gName 3, gName 4])) (
  dSeq (sAsg (dTup (aCons (dM .str mJoin (dC (.str [10])) (aCons (dLc [8] (iSeq (dVar 2)) (gName 8) (tYes) (dCall f__law_text (aCons (dVar 8) (aNil)))) (aNil))) (aCons (dCall f__law_line (aCons (dVar 0) (aCons (dVar 3) (aNil)))) (aNil)))) (gTup [gName 6, gName 7])) (
  dSeq (sIf (tV (dCmp cEq (dCall f__law_take (aCons (dVar 0) (aCons (dC (.int 2)) (aNil)))) (dC (.int 0)))) (dSeq (sAsg (dB bList (aCons (dVar 2) (aNil))) (gName 4)) (
  sAsg (dCall f__law_layer (aCons (dVar 0) (aCons (dC (.int 2)) (aNil)))) (gSub (dVar 4) (dCall f__law_take (aCons (dVar 0) (aCons (dB bLen (aCons (dVar 1) (aNil))) (aNil))))))) (dNext)) (
  dSeq (sAsg (dCall f__law_rows (aCons (dVar 7) (aNil))) (gName 9)) (
  dSeq (sAsg (dCall f__law_pairs (aCons (dVar 2) (aCons (dVar 4) (aCons (dVar 9) (aNil))))) (gName 10)) (
  dSeq (sAsg (dTup (aCons (dCall f__law_take (aCons (dVar 0) (aCons (dB bLen (aCons (dVar 9) (aNil))) (aNil)))) (aCons (dCall f__law_take (aCons (dVar 0) (aCons (dB bLen (aCons (dVar 9) (aNil))) (aNil)))) (aNil)))) (gTup [gName 11, gName 12])) (
  dSeq (sIf (tAnd (tV (dCmp cNe (dVar 10) (dLst (aNil)))) (tV (dCmp cGt (dCall f__law_take (aCons (dVar 0) (aCons (dC (.int 4)) (aNil)))) (dC (.int 0))))) (sAsg (dIx (dVar 10) (dCall f__law_take (aCons (dVar 0) (aCons (dB bLen (aCons (dVar 10) (aNil))) (aNil))))) (gTup [gName 11, gName 12])) (dNext)) (
  dSeq (sAsg (dIf (tV (dCmp cEq (dCall f__law_take (aCons (dVar 0) (aCons (dC (.int 2)) (aNil)))) (dC (.int 0)))) (dTup (aCons (dVar 7) (aCons (dVar 11) (aCons (dVar 12) (aNil))))) (dCall f__law_bent (aCons (dVar 0) (aCons (dTup (aCons (dVar 7) (aCons (dVar 11) (aCons (dVar 12) (aNil))))) (aNil))))) (gName 13)) (
  dSeq (sIf (tV (dCmp cEq (dCall f__law_take (aCons (dVar 0) (aCons (dC (.int 10)) (aNil)))) (dC (.int 0)))) (sAsg (dCall f__law_plan (aCons (dVar 0) (aNil))) (gName 3)) (dNext)) (
  dSeq (sAsg (dTup (aCons (dC (.str [109, 111, 114, 101])) (aCons (dVar 6) (aCons (dVar 3) (aNil))))) (gName 14)) (
  dSeq (sIf (tV (dNotN (dVar 4))) (sAsg (dTup (aCons (dC (.str [117, 110, 108, 105, 107, 101])) (aCons (dVar 6) (aCons (dM .str mJoin (dC (.str [10])) (aCons (dLc [8] (iSeq (dVar 4)) (gName 8) (tYes) (dCall f__law_text (aCons (dVar 8) (aNil)))) (aNil))) (aCons (dVar 3) (aNil)))))) (gName 14)) (dNext)) (
  dSeq (sAsg (dCall f__law_shows (aCons (dVar 2) (aCons (dVar 4) (aCons (dVar 3) (aCons (dVar 13) (aNil)))))) (gName 15)) (
  dRet (dCmp cEq (dB bReprB (aCons (dCall f_accepts (aCons (dVar 14) (aCons (dVar 13) (aNil)))) (aNil))) (dB bReprB (aCons (dVar 15) (aNil)))))))))))))))))
def f__law_judged_right : Fn := dDef 1 16 b__law_judged_right

/-- law(script); names 0:script 1:at 2:spring -/
def b_law : DS :=
  dSeq (sFor (iRange1 (aCons (dB bMax2 (aCons (dC (.int 2)) (aCons (dB bMin2 (aCons (dB bLen (aCons (dVar 0) (aNil))) (aCons (dC (.int 6)) (aNil)))) (aNil)))) (aNil))) (gName 1) (dSeq (sAsg (dCall f__law_spring (aCons (dVar 0) (aCons (dVar 1) (aNil)))) (gName 2)) (
  sIf (tOr (tNot (tV (dCall f__law_judged_right (aCons (dVar 2) (aNil))))) (tNot (tV (dCall f__law_judged_right (aCons (dVar 2) (aNil)))))) (dRet (dC (.bl false))) (dNext)))) (
  dRet (dC (.bl true)))
def f_law : Fn := dDef 1 3 b_law

end DL
end S_K70Mir
section S_K70Walk
set_option Elab.async false
set_option linter.all false
set_option maxRecDepth 100000
set_option maxHeartbeats 0
/-! Walk: each def has its denotation, printed by gen.py -/
namespace DW
open DL
open PySem PySem.Spec PyProof.Rows L2 He
abbrev prog : Program := (PySem.Challenge.rw_filledrows_k70_places_judged).prog
def top (i : Nat) : Stmt := PySem.Challenge.pw_filledrows_k70_places_judged.main.body.getD i (.Pass ⟨0, 0, 0, 0⟩)
def cls (i j : Nat) : Stmt := match top i with
  | .ClassDef _ _ _ b _ _ _ _ _ _ _ => b.getD j (.Pass ⟨0, 0, 0, 0⟩)
  | s => s
def d__law_spring : He5.DefA := ⟨fun K => ga K "_law_spring", "_law_spring", "_law_spring", defArgs (top 78), defBody (top 78), defScope (top 78), [], []⟩
def d__law_take : He5.DefA := ⟨fun K => ga K "_law_take", "_law_take", "_law_take", defArgs (top 79), defBody (top 79), defScope (top 79), [], []⟩
def d__law_plan : He5.DefA := ⟨fun K => ga K "_law_plan", "_law_plan", "_law_plan", defArgs (top 89), defBody (top 89), defScope (top 89), [], []⟩
def d__law_layer : He5.DefA := ⟨fun K => ga K "_law_layer", "_law_layer", "_law_layer", defArgs (top 80), defBody (top 80), defScope (top 80), [], []⟩
def d__law_size : He5.DefA := ⟨fun K => ga K "_law_size", "_law_size", "_law_size", defArgs (top 90), defBody (top 90), defScope (top 90), [], []⟩
def d__law_line : He5.DefA := ⟨fun K => ga K "_law_line", "_law_line", "_law_line", defArgs (top 91), defBody (top 91), defScope (top 91), [], []⟩
def d__law_text : He5.DefA := ⟨fun K => ga K "_law_text", "_law_text", "_law_text", defArgs (top 81), defBody (top 81), defScope (top 81), [], []⟩
def d__law_rows : He5.DefA := ⟨fun K => ga K "_law_rows", "_law_rows", "_law_rows", defArgs (top 82), defBody (top 82), defScope (top 82), [], []⟩
def d__law_looks : He5.DefA := ⟨fun K => ga K "_law_looks", "_law_looks", "_law_looks", defArgs (top 83), defBody (top 83), defScope (top 83), [], []⟩
def d__law_takes : He5.DefA := ⟨fun K => ga K "_law_takes", "_law_takes", "_law_takes", defArgs (top 84), defBody (top 84), defScope (top 84), [], []⟩
def d__law_step : He5.DefA := ⟨fun K => ga K "_law_step", "_law_step", "_law_step", defArgs (top 85), defBody (top 85), defScope (top 85), [], []⟩
def d__law_through : He5.DefA := ⟨fun K => ga K "_law_through", "_law_through", "_law_through", defArgs (top 86), defBody (top 86), defScope (top 86), [], []⟩
def d__law_held : He5.DefA := ⟨fun K => ga K "_law_held", "_law_held", "_law_held", defArgs (top 87), defBody (top 87), defScope (top 87), [], []⟩
def d__law_alone : He5.DefA := ⟨fun K => ga K "_law_alone", "_law_alone", "_law_alone", defArgs (top 94), defBody (top 94), defScope (top 94), [], []⟩
def d__law_pairs : He5.DefA := ⟨fun K => ga K "_law_pairs", "_law_pairs", "_law_pairs", defArgs (top 95), defBody (top 95), defScope (top 95), [], []⟩
def d__law_bent : He5.DefA := ⟨fun K => ga K "_law_bent", "_law_bent", "_law_bent", defArgs (top 97), defBody (top 97), defScope (top 97), [], []⟩
def d__law_is_line : He5.DefA := ⟨fun K => ga K "_law_is_line", "_law_is_line", "_law_is_line", defArgs (top 92), defBody (top 92), defScope (top 92), [], []⟩
def d__law_fits : He5.DefA := ⟨fun K => ga K "_law_fits", "_law_fits", "_law_fits", defArgs (top 88), defBody (top 88), defScope (top 88), [], []⟩
def d__law_are_places : He5.DefA := ⟨fun K => ga K "_law_are_places", "_law_are_places", "_law_are_places", defArgs (top 93), defBody (top 93), defScope (top 93), [], []⟩
def d__law_shows : He5.DefA := ⟨fun K => ga K "_law_shows", "_law_shows", "_law_shows", defArgs (top 96), defBody (top 96), defScope (top 96), [], []⟩
def d_PartX_initX : He5.DefA := ⟨fun K => ma K (ga K "Part") "__init__", "__init__", "Part.__init__", defArgs (cls 27 0), defBody (cls 27 0), defScope (cls 27 0), [], []⟩
def d_figure_at : He5.DefA := ⟨fun K => ga K "figure_at", "figure_at", "figure_at", defArgs (top 28), defBody (top 28), defScope (top 28), [], []⟩
def d_span_of : He5.DefA := ⟨fun K => ga K "span_of", "span_of", "span_of", defArgs (top 29), defBody (top 29), defScope (top 29), [], []⟩
def d_part_of : He5.DefA := ⟨fun K => ga K "part_of", "part_of", "part_of", defArgs (top 30), defBody (top 30), defScope (top 30), [], []⟩
def d_width_of : He5.DefA := ⟨fun K => ga K "width_of", "width_of", "width_of", defArgs (top 31), defBody (top 31), defScope (top 31), [], []⟩
def d_first_wrong : He5.DefA := ⟨fun K => ga K "first_wrong", "first_wrong", "first_wrong", defArgs (top 32), defBody (top 32), defScope (top 32), [], []⟩
def d_ProgramX_initX : He5.DefA := ⟨fun K => ma K (ga K "Program") "__init__", "__init__", "Program.__init__", defArgs (cls 33 0), defBody (cls 33 0), defScope (cls 33 0), [], []⟩
def d_Program_read : He5.DefA := ⟨fun K => He5.wf K (ga K "Program") "classmethod" "read", "read", "Program.read", defArgs (cls 33 1), defBody (cls 33 1), defScope (cls 33 1), [], []⟩
def d_program_of : He5.DefA := ⟨fun K => ga K "program_of", "program_of", "program_of", defArgs (top 75), defBody (top 75), defScope (top 75), [], []⟩
def d_is_integer : He5.DefA := ⟨fun K => ga K "is_integer", "is_integer", "is_integer", defArgs (top 15), defBody (top 15), defScope (top 15), [], []⟩
def d_is_line : He5.DefA := ⟨fun K => ga K "is_line", "is_line", "is_line", defArgs (top 17), defBody (top 17), defScope (top 17), [], []⟩
def d_is_of : He5.DefA := ⟨fun K => ga K "is_of", "is_of", "is_of", defArgs (top 23), defBody (top 23), defScope (top 23), [], []⟩
def d_is_line_of : He5.DefA := ⟨fun K => ga K "is_line_of", "is_line_of", "is_line_of", defArgs (top 70), defBody (top 70), defScope (top 70), [], []⟩
def d_stretches : He5.DefA := ⟨fun K => ga K "stretches", "stretches", "stretches", defArgs (top 20), defBody (top 20), defScope (top 20), [], []⟩
def d_rows_by_place : He5.DefA := ⟨fun K => ga K "rows_by_place", "rows_by_place", "rows_by_place", defArgs (top 22), defBody (top 22), defScope (top 22), [], []⟩
def d_is_within : He5.DefA := ⟨fun K => ga K "is_within", "is_within", "is_within", defArgs (top 16), defBody (top 16), defScope (top 16), [], []⟩
def d_is_place_pair : He5.DefA := ⟨fun K => ga K "is_place_pair", "is_place_pair", "is_place_pair", defArgs (top 72), defBody (top 72), defScope (top 72), [], []⟩
def d_check_program : He5.DefA := ⟨fun K => ga K "check_program", "check_program", "check_program", defArgs (top 34), defBody (top 34), defScope (top 34), [], []⟩
def d_check_line : He5.DefA := ⟨fun K => ga K "check_line", "check_line", "check_line", defArgs (top 18), defBody (top 18), defScope (top 18), [], []⟩
def d_check_held : He5.DefA := ⟨fun K => ga K "check_held", "check_held", "check_held", defArgs (top 58), defBody (top 58), defScope (top 58), [], []⟩
def d_is_looked_at : He5.DefA := ⟨fun K => ga K "is_looked_at", "is_looked_at", "is_looked_at", defArgs (top 54), defBody (top 54), defScope (top 54), [], []⟩
def d_is_taken : He5.DefA := ⟨fun K => ga K "is_taken", "is_taken", "is_taken", defArgs (top 55), defBody (top 55), defScope (top 55), [], []⟩
def d_taken_by : He5.DefA := ⟨fun K => ga K "taken_by", "taken_by", "taken_by", defArgs (top 56), defBody (top 56), defScope (top 56), [], []⟩
def d_held_on : He5.DefA := ⟨fun K => ga K "held_on", "held_on", "held_on", defArgs (top 57), defBody (top 57), defScope (top 57), [], []⟩
def d_Program_layers : He5.DefA := ⟨fun K => He5.wf K (ga K "Program") "property" "layers", "layers", "Program.layers", defArgs (cls 33 2), defBody (cls 33 2), defScope (cls 33 2), [], []⟩
def d_parts_of : He5.DefA := ⟨fun K => ga K "parts_of", "parts_of", "parts_of", defArgs (top 35), defBody (top 35), defScope (top 35), [], []⟩
def d_held : He5.DefA := ⟨fun K => ga K "held", "held", "held", defArgs (top 59), defBody (top 59), defScope (top 59), [], [("rounds", .int 1)]⟩
def d_letters : He5.DefA := ⟨fun K => ga K "letters", "letters", "letters", defArgs (top 19), defBody (top 19), defScope (top 19), [], []⟩
def d_rows : He5.DefA := ⟨fun K => ga K "rows", "rows", "rows", defArgs (top 21), defBody (top 21), defScope (top 21), [], []⟩
def d_alone : He5.DefA := ⟨fun K => ga K "alone", "alone", "alone", defArgs (top 60), defBody (top 60), defScope (top 60), [], [("rounds", .int 1)]⟩
def d_shows_more : He5.DefA := ⟨fun K => ga K "shows_more", "shows_more", "shows_more", defArgs (top 74), defBody (top 74), defScope (top 74), [], []⟩
def d_shows_unlike : He5.DefA := ⟨fun K => ga K "shows_unlike", "shows_unlike", "shows_unlike", defArgs (top 73), defBody (top 73), defScope (top 73), [], []⟩
def d_accepts : He5.DefA := ⟨fun K => ga K "accepts", "accepts", "accepts", defArgs (top 76), defBody (top 76), defScope (top 76), [], []⟩
def d__law_judged_right : He5.DefA := ⟨fun K => ga K "_law_judged_right", "_law_judged_right", "_law_judged_right", defArgs (top 98), defBody (top 98), defScope (top 98), [], []⟩
def d_law : He5.DefA := ⟨fun K => ga K "law", "law", "law", defArgs (top 99), defBody (top 99), defScope (top 99), [], []⟩
def need : List Str := (["_law_spring", "_law_take", "_law_plan", "_law_layer", "_law_size", "_law_line", "_law_text", "_law_rows", "_law_looks", "_law_takes"] : List Str) ++ (["_law_step", "_law_through", "_law_held", "_law_alone", "_law_pairs", "_law_bent", "_law_is_line", "_law_fits", "_law_are_places", "_law_shows"] : List Str) ++ (["SIZES", "Part", "figure_at", "span_of", "part_of", "width_of", "first_wrong", "Program", "program_of", "is_integer"] : List Str) ++ (["is_line", "is_of", "is_line_of", "stretches", "rows_by_place", "is_within", "is_place_pair", "check_program", "check_line", "check_held"] : List Str) ++ (["is_looked_at", "is_taken", "taken_by", "parts_of", "held_on", "held", "letters", "rows", "alone", "shows_more"] : List Str) ++ (["shows_unlike", "accepts", "_law_judged_right", "law", "PLANS", "FIGURES", "MOST_LAYERS", "MOST_WIDTH", "MOST_PLACES", "MOST_ROUNDS"] : List Str) ++ (["KINDS"] : List Str)
def fa : List Fa := [.free "len", .free "abs", .free "int", .free "str", .free "divmod", .free "list", .free "tuple", .free "sum", .free "all", .free "any", .free "repr", .free "isinstance", .free "min", .free "max", .free "range", .free "enumerate", .free "zip", .free "sorted", .free "set", .free "dict", .free "bool", .glo "_law_spring", .glo "_law_take", .glo "_law_plan", .glo "_law_layer", .glo "_law_size", .glo "_law_line", .glo "_law_text", .glo "_law_rows", .glo "_law_looks", .glo "_law_takes", .glo "_law_step", .glo "_law_through", .glo "_law_held", .glo "_law_alone", .glo "_law_pairs", .glo "_law_bent", .glo "_law_is_line", .glo "_law_fits", .glo "_law_are_places", .glo "_law_shows", .glo "SIZES", .glo "Part", .cls "Part", .noat "Part" "word", .noat "Part" "scope", .noat "Part" "way", .noat "Part" "number", .noat "Part" "every", .noat "Part" "own", .noat "Part" "spare", .mkr "Part", .glo "figure_at", .glo "span_of", .glo "part_of", .glo "width_of", .glo "first_wrong", .glo "Program", .cls "Program", .noat "Program" "lines", .mkr "Program", .glo "program_of", .glo "is_integer", .glo "is_line", .glo "is_of", .glo "is_line_of", .glo "stretches", .glo "rows_by_place", .glo "is_within", .glo "is_place_pair", .glo "check_program", .glo "check_line", .glo "check_held", .glo "is_looked_at", .glo "is_taken", .glo "taken_by", .glo "parts_of", .glo "held_on", .glo "held", .glo "letters", .glo "rows", .glo "alone", .glo "shows_more", .glo "shows_unlike", .glo "accepts", .glo "_law_judged_right", .glo "law"]
def fb : List Fb := [.tab "SIZES" DL.c_SIZES, .con "PLANS" DL.c_PLANS, .con "FIGURES" DL.c_FIGURES, .con "MOST_LAYERS" DL.c_MOST_LAYERS, .con "MOST_WIDTH" DL.c_MOST_WIDTH, .cm "Program" "read", .con "MOST_PLACES" DL.c_MOST_PLACES, .isc "Program", .con "MOST_ROUNDS" DL.c_MOST_ROUNDS, .prop "Program" "layers", .con "KINDS" DL.c_KINDS]
def fn : List He5.DefA := [d__law_spring, d__law_take, d__law_plan, d__law_layer, d__law_size, d__law_line, d__law_text, d__law_rows, d__law_looks, d__law_takes, d__law_step, d__law_through, d__law_held, d__law_alone, d__law_pairs, d__law_bent, d__law_is_line, d__law_fits, d__law_are_places, d__law_shows, d_PartX_initX, d_figure_at, d_span_of, d_part_of, d_width_of, d_first_wrong, d_ProgramX_initX, d_Program_read, d_program_of, d_is_integer, d_is_line, d_is_of, d_is_line_of, d_stretches, d_rows_by_place, d_is_within, d_is_place_pair, d_check_program, d_check_line, d_check_held, d_is_looked_at, d_is_taken, d_taken_by, d_held_on, d_Program_layers, d_parts_of, d_held, d_letters, d_rows, d_alone, d_shows_more, d_shows_unlike, d_accepts, d__law_judged_right, d_law]
def ts : List Tab := [(fun K => ga K "SIZES", DL.c_SIZES.map fun q => mkS q.1)]
structure TopOk (P : Program) (w : World) (K : PySem.W.Frag) (mg : Str → Option Value) (base : Heap) : Prop where
  bf : BF mg
  d__law_spring : ∃ fd, FunD K d__law_spring.name d__law_spring.qual (defArgs (top 78)) (defBody (top 78)) (defScope (top 78)) [] [] (ga K "_law_spring") fd
  d__law_take : ∃ fd, FunD K d__law_take.name d__law_take.qual (defArgs (top 79)) (defBody (top 79)) (defScope (top 79)) [] [] (ga K "_law_take") fd
  d__law_plan : ∃ fd, FunD K d__law_plan.name d__law_plan.qual (defArgs (top 89)) (defBody (top 89)) (defScope (top 89)) [] [] (ga K "_law_plan") fd
  d__law_layer : ∃ fd, FunD K d__law_layer.name d__law_layer.qual (defArgs (top 80)) (defBody (top 80)) (defScope (top 80)) [] [] (ga K "_law_layer") fd
  d__law_size : ∃ fd, FunD K d__law_size.name d__law_size.qual (defArgs (top 90)) (defBody (top 90)) (defScope (top 90)) [] [] (ga K "_law_size") fd
  d__law_line : ∃ fd, FunD K d__law_line.name d__law_line.qual (defArgs (top 91)) (defBody (top 91)) (defScope (top 91)) [] [] (ga K "_law_line") fd
  d__law_text : ∃ fd, FunD K d__law_text.name d__law_text.qual (defArgs (top 81)) (defBody (top 81)) (defScope (top 81)) [] [] (ga K "_law_text") fd
  d__law_rows : ∃ fd, FunD K d__law_rows.name d__law_rows.qual (defArgs (top 82)) (defBody (top 82)) (defScope (top 82)) [] [] (ga K "_law_rows") fd
  d__law_looks : ∃ fd, FunD K d__law_looks.name d__law_looks.qual (defArgs (top 83)) (defBody (top 83)) (defScope (top 83)) [] [] (ga K "_law_looks") fd
  d__law_takes : ∃ fd, FunD K d__law_takes.name d__law_takes.qual (defArgs (top 84)) (defBody (top 84)) (defScope (top 84)) [] [] (ga K "_law_takes") fd
  d__law_step : ∃ fd, FunD K d__law_step.name d__law_step.qual (defArgs (top 85)) (defBody (top 85)) (defScope (top 85)) [] [] (ga K "_law_step") fd
  d__law_through : ∃ fd, FunD K d__law_through.name d__law_through.qual (defArgs (top 86)) (defBody (top 86)) (defScope (top 86)) [] [] (ga K "_law_through") fd
  d__law_held : ∃ fd, FunD K d__law_held.name d__law_held.qual (defArgs (top 87)) (defBody (top 87)) (defScope (top 87)) [] [] (ga K "_law_held") fd
  d__law_alone : ∃ fd, FunD K d__law_alone.name d__law_alone.qual (defArgs (top 94)) (defBody (top 94)) (defScope (top 94)) [] [] (ga K "_law_alone") fd
  d__law_pairs : ∃ fd, FunD K d__law_pairs.name d__law_pairs.qual (defArgs (top 95)) (defBody (top 95)) (defScope (top 95)) [] [] (ga K "_law_pairs") fd
  d__law_bent : ∃ fd, FunD K d__law_bent.name d__law_bent.qual (defArgs (top 97)) (defBody (top 97)) (defScope (top 97)) [] [] (ga K "_law_bent") fd
  d__law_is_line : ∃ fd, FunD K d__law_is_line.name d__law_is_line.qual (defArgs (top 92)) (defBody (top 92)) (defScope (top 92)) [] [] (ga K "_law_is_line") fd
  d__law_fits : ∃ fd, FunD K d__law_fits.name d__law_fits.qual (defArgs (top 88)) (defBody (top 88)) (defScope (top 88)) [] [] (ga K "_law_fits") fd
  d__law_are_places : ∃ fd, FunD K d__law_are_places.name d__law_are_places.qual (defArgs (top 93)) (defBody (top 93)) (defScope (top 93)) [] [] (ga K "_law_are_places") fd
  d__law_shows : ∃ fd, FunD K d__law_shows.name d__law_shows.qual (defArgs (top 96)) (defBody (top 96)) (defScope (top 96)) [] [] (ga K "_law_shows") fd
  d_PartX_initX : ∃ fd, FunD K d_PartX_initX.name d_PartX_initX.qual (defArgs (cls 27 0)) (defBody (cls 27 0)) (defScope (cls 27 0)) [] [] (ma K (ga K "Part") "__init__") fd
  d_figure_at : ∃ fd, FunD K d_figure_at.name d_figure_at.qual (defArgs (top 28)) (defBody (top 28)) (defScope (top 28)) [] [] (ga K "figure_at") fd
  d_span_of : ∃ fd, FunD K d_span_of.name d_span_of.qual (defArgs (top 29)) (defBody (top 29)) (defScope (top 29)) [] [] (ga K "span_of") fd
  d_part_of : ∃ fd, FunD K d_part_of.name d_part_of.qual (defArgs (top 30)) (defBody (top 30)) (defScope (top 30)) [] [] (ga K "part_of") fd
  d_width_of : ∃ fd, FunD K d_width_of.name d_width_of.qual (defArgs (top 31)) (defBody (top 31)) (defScope (top 31)) [] [] (ga K "width_of") fd
  d_first_wrong : ∃ fd, FunD K d_first_wrong.name d_first_wrong.qual (defArgs (top 32)) (defBody (top 32)) (defScope (top 32)) [] [] (ga K "first_wrong") fd
  d_ProgramX_initX : ∃ fd, FunD K d_ProgramX_initX.name d_ProgramX_initX.qual (defArgs (cls 33 0)) (defBody (cls 33 0)) (defScope (cls 33 0)) [] [] (ma K (ga K "Program") "__init__") fd
  d_Program_read : ∃ fd, FunD K d_Program_read.name d_Program_read.qual (defArgs (cls 33 1)) (defBody (cls 33 1)) (defScope (cls 33 1)) [] [] (He5.wf K (ga K "Program") "classmethod" "read") fd
  d_program_of : ∃ fd, FunD K d_program_of.name d_program_of.qual (defArgs (top 75)) (defBody (top 75)) (defScope (top 75)) [] [] (ga K "program_of") fd
  d_is_integer : ∃ fd, FunD K d_is_integer.name d_is_integer.qual (defArgs (top 15)) (defBody (top 15)) (defScope (top 15)) [] [] (ga K "is_integer") fd
  d_is_line : ∃ fd, FunD K d_is_line.name d_is_line.qual (defArgs (top 17)) (defBody (top 17)) (defScope (top 17)) [] [] (ga K "is_line") fd
  d_is_of : ∃ fd, FunD K d_is_of.name d_is_of.qual (defArgs (top 23)) (defBody (top 23)) (defScope (top 23)) [] [] (ga K "is_of") fd
  d_is_line_of : ∃ fd, FunD K d_is_line_of.name d_is_line_of.qual (defArgs (top 70)) (defBody (top 70)) (defScope (top 70)) [] [] (ga K "is_line_of") fd
  d_stretches : ∃ fd, FunD K d_stretches.name d_stretches.qual (defArgs (top 20)) (defBody (top 20)) (defScope (top 20)) [] [] (ga K "stretches") fd
  d_rows_by_place : ∃ fd, FunD K d_rows_by_place.name d_rows_by_place.qual (defArgs (top 22)) (defBody (top 22)) (defScope (top 22)) [] [] (ga K "rows_by_place") fd
  d_is_within : ∃ fd, FunD K d_is_within.name d_is_within.qual (defArgs (top 16)) (defBody (top 16)) (defScope (top 16)) [] [] (ga K "is_within") fd
  d_is_place_pair : ∃ fd, FunD K d_is_place_pair.name d_is_place_pair.qual (defArgs (top 72)) (defBody (top 72)) (defScope (top 72)) [] [] (ga K "is_place_pair") fd
  d_check_program : ∃ fd, FunD K d_check_program.name d_check_program.qual (defArgs (top 34)) (defBody (top 34)) (defScope (top 34)) [] [] (ga K "check_program") fd
  d_check_line : ∃ fd, FunD K d_check_line.name d_check_line.qual (defArgs (top 18)) (defBody (top 18)) (defScope (top 18)) [] [] (ga K "check_line") fd
  d_check_held : ∃ fd, FunD K d_check_held.name d_check_held.qual (defArgs (top 58)) (defBody (top 58)) (defScope (top 58)) [] [] (ga K "check_held") fd
  d_is_looked_at : ∃ fd, FunD K d_is_looked_at.name d_is_looked_at.qual (defArgs (top 54)) (defBody (top 54)) (defScope (top 54)) [] [] (ga K "is_looked_at") fd
  d_is_taken : ∃ fd, FunD K d_is_taken.name d_is_taken.qual (defArgs (top 55)) (defBody (top 55)) (defScope (top 55)) [] [] (ga K "is_taken") fd
  d_taken_by : ∃ fd, FunD K d_taken_by.name d_taken_by.qual (defArgs (top 56)) (defBody (top 56)) (defScope (top 56)) [] [] (ga K "taken_by") fd
  d_held_on : ∃ fd, FunD K d_held_on.name d_held_on.qual (defArgs (top 57)) (defBody (top 57)) (defScope (top 57)) [] [] (ga K "held_on") fd
  d_Program_layers : ∃ fd, FunD K d_Program_layers.name d_Program_layers.qual (defArgs (cls 33 2)) (defBody (cls 33 2)) (defScope (cls 33 2)) [] [] (He5.wf K (ga K "Program") "property" "layers") fd
  d_parts_of : ∃ fd, FunD K d_parts_of.name d_parts_of.qual (defArgs (top 35)) (defBody (top 35)) (defScope (top 35)) [] [] (ga K "parts_of") fd
  d_held : ∃ fd, FunD K d_held.name d_held.qual (defArgs (top 59)) (defBody (top 59)) (defScope (top 59)) [] [("rounds", V.int 1)] (ga K "held") fd
  d_letters : ∃ fd, FunD K d_letters.name d_letters.qual (defArgs (top 19)) (defBody (top 19)) (defScope (top 19)) [] [] (ga K "letters") fd
  d_rows : ∃ fd, FunD K d_rows.name d_rows.qual (defArgs (top 21)) (defBody (top 21)) (defScope (top 21)) [] [] (ga K "rows") fd
  d_alone : ∃ fd, FunD K d_alone.name d_alone.qual (defArgs (top 60)) (defBody (top 60)) (defScope (top 60)) [] [("rounds", V.int 1)] (ga K "alone") fd
  d_shows_more : ∃ fd, FunD K d_shows_more.name d_shows_more.qual (defArgs (top 74)) (defBody (top 74)) (defScope (top 74)) [] [] (ga K "shows_more") fd
  d_shows_unlike : ∃ fd, FunD K d_shows_unlike.name d_shows_unlike.qual (defArgs (top 73)) (defBody (top 73)) (defScope (top 73)) [] [] (ga K "shows_unlike") fd
  d_accepts : ∃ fd, FunD K d_accepts.name d_accepts.qual (defArgs (top 76)) (defBody (top 76)) (defScope (top 76)) [] [] (ga K "accepts") fd
  d__law_judged_right : ∃ fd, FunD K d__law_judged_right.name d__law_judged_right.qual (defArgs (top 98)) (defBody (top 98)) (defScope (top 98)) [] [] (ga K "_law_judged_right") fd
  d_law : ∃ fd, FunD K d_law.name d_law.qual (defArgs (top 99)) (defBody (top 99)) (defScope (top 99)) [] [] (ga K "law") fd
  gXlaw_spring : mg "_law_spring" = some (.ref (ga K "_law_spring"))
  gXlaw_take : mg "_law_take" = some (.ref (ga K "_law_take"))
  gXlaw_plan : mg "_law_plan" = some (.ref (ga K "_law_plan"))
  gXlaw_layer : mg "_law_layer" = some (.ref (ga K "_law_layer"))
  gXlaw_size : mg "_law_size" = some (.ref (ga K "_law_size"))
  gXlaw_line : mg "_law_line" = some (.ref (ga K "_law_line"))
  gXlaw_text : mg "_law_text" = some (.ref (ga K "_law_text"))
  gXlaw_rows : mg "_law_rows" = some (.ref (ga K "_law_rows"))
  gXlaw_looks : mg "_law_looks" = some (.ref (ga K "_law_looks"))
  gXlaw_takes : mg "_law_takes" = some (.ref (ga K "_law_takes"))
  gXlaw_step : mg "_law_step" = some (.ref (ga K "_law_step"))
  gXlaw_through : mg "_law_through" = some (.ref (ga K "_law_through"))
  gXlaw_held : mg "_law_held" = some (.ref (ga K "_law_held"))
  gXlaw_alone : mg "_law_alone" = some (.ref (ga K "_law_alone"))
  gXlaw_pairs : mg "_law_pairs" = some (.ref (ga K "_law_pairs"))
  gXlaw_bent : mg "_law_bent" = some (.ref (ga K "_law_bent"))
  gXlaw_is_line : mg "_law_is_line" = some (.ref (ga K "_law_is_line"))
  gXlaw_fits : mg "_law_fits" = some (.ref (ga K "_law_fits"))
  gXlaw_are_places : mg "_law_are_places" = some (.ref (ga K "_law_are_places"))
  gXlaw_shows : mg "_law_shows" = some (.ref (ga K "_law_shows"))
  t_SIZES : TabOk K w mg "SIZES" DL.c_SIZES
  c_PLANS : GlobV K mg "PLANS" DL.c_PLANS
  C_Part : ClsOk K mg 1953653072 (ga K "Part")
  n_Part_word : NoAttr K (ga K "Part") "word"
  n_Part_scope : NoAttr K (ga K "Part") "scope"
  n_Part_way : NoAttr K (ga K "Part") "way"
  n_Part_number : NoAttr K (ga K "Part") "number"
  n_Part_every : NoAttr K (ga K "Part") "every"
  n_Part_own : NoAttr K (ga K "Part") "own"
  n_Part_spare : NoAttr K (ga K "Part") "spare"
  mk_Part : Mk K (ga K "Part") (ma K (ga K "Part") "__init__")
  c_FIGURES : GlobV K mg "FIGURES" DL.c_FIGURES
  g_figure_at : mg "figure_at" = some (.ref (ga K "figure_at"))
  g_span_of : mg "span_of" = some (.ref (ga K "span_of"))
  g_part_of : mg "part_of" = some (.ref (ga K "part_of"))
  c_MOST_LAYERS : GlobV K mg "MOST_LAYERS" DL.c_MOST_LAYERS
  g_width_of : mg "width_of" = some (.ref (ga K "width_of"))
  c_MOST_WIDTH : GlobV K mg "MOST_WIDTH" DL.c_MOST_WIDTH
  g_first_wrong : mg "first_wrong" = some (.ref (ga K "first_wrong"))
  C_Program : ClsOk K mg 30787916450984528 (ga K "Program")
  n_Program_lines : NoAttr K (ga K "Program") "lines"
  mk_Program : Mk K (ga K "Program") (ma K (ga K "Program") "__init__")
  cm_Program_read : CmOk K mg 30787916450984528 (ga K "Program") "read" (He5.wf K (ga K "Program") "classmethod" "read")
  g_program_of : mg "program_of" = some (.ref (ga K "program_of"))
  g_is_integer : mg "is_integer" = some (.ref (ga K "is_integer"))
  c_MOST_PLACES : GlobV K mg "MOST_PLACES" DL.c_MOST_PLACES
  g_is_line : mg "is_line" = some (.ref (ga K "is_line"))
  g_is_of : mg "is_of" = some (.ref (ga K "is_of"))
  g_is_line_of : mg "is_line_of" = some (.ref (ga K "is_line_of"))
  g_stretches : mg "stretches" = some (.ref (ga K "stretches"))
  g_rows_by_place : mg "rows_by_place" = some (.ref (ga K "rows_by_place"))
  g_is_within : mg "is_within" = some (.ref (ga K "is_within"))
  g_is_place_pair : mg "is_place_pair" = some (.ref (ga K "is_place_pair"))
  I_Program : C8.InsC K (ga K "Program")
  g_check_program : mg "check_program" = some (.ref (ga K "check_program"))
  g_check_line : mg "check_line" = some (.ref (ga K "check_line"))
  c_MOST_ROUNDS : GlobV K mg "MOST_ROUNDS" DL.c_MOST_ROUNDS
  g_check_held : mg "check_held" = some (.ref (ga K "check_held"))
  g_is_looked_at : mg "is_looked_at" = some (.ref (ga K "is_looked_at"))
  g_is_taken : mg "is_taken" = some (.ref (ga K "is_taken"))
  g_taken_by : mg "taken_by" = some (.ref (ga K "taken_by"))
  p_Program_layers : PropOf K (ga K "Program") "layers" (ma K (ga K "Program") "layers") (He5.wf K (ga K "Program") "property" "layers")
  g_parts_of : mg "parts_of" = some (.ref (ga K "parts_of"))
  g_held_on : mg "held_on" = some (.ref (ga K "held_on"))
  g_held : mg "held" = some (.ref (ga K "held"))
  g_letters : mg "letters" = some (.ref (ga K "letters"))
  g_rows : mg "rows" = some (.ref (ga K "rows"))
  g_alone : mg "alone" = some (.ref (ga K "alone"))
  g_shows_more : mg "shows_more" = some (.ref (ga K "shows_more"))
  g_shows_unlike : mg "shows_unlike" = some (.ref (ga K "shows_unlike"))
  c_KINDS : GlobV K mg "KINDS" DL.c_KINDS
  g_accepts : mg "accepts" = some (.ref (ga K "accepts"))
  gXlaw_judged_right : mg "_law_judged_right" = some (.ref (ga K "_law_judged_right"))
section
variable {P : Program} {w : World} {K : PySem.W.Frag} {mg : Str → Option Value} {base : Heap}
theorem topOk {h : Heap} (X : K.In h) (G : h.Ns mainGlobals mg) (c : SaysM fa fb fn ts w K) : TopOk P w K mg base where
  bf := ⟨free_ok X G (c.fact 0 rfl), free_ok X G (c.fact 1 rfl), free_ok X G (c.fact 2 rfl), free_ok X G (c.fact 3 rfl), free_ok X G (c.fact 4 rfl), free_ok X G (c.fact 5 rfl), free_ok X G (c.fact 6 rfl), free_ok X G (c.fact 7 rfl), free_ok X G (c.fact 8 rfl), free_ok X G (c.fact 9 rfl), free_ok X G (c.fact 10 rfl), free_ok X G (c.fact 11 rfl), free_ok X G (c.fact 12 rfl), free_ok X G (c.fact 13 rfl), free_ok X G (c.fact 14 rfl), free_ok X G (c.fact 15 rfl), free_ok X G (c.fact 16 rfl), free_ok X G (c.fact 17 rfl), free_ok X G (c.fact 18 rfl), free_ok X G (c.fact 19 rfl), free_ok X G (c.fact 20 rfl)⟩
  d__law_spring := c.def_ 0 (d := d__law_spring) rfl
  d__law_take := c.def_ 1 (d := d__law_take) rfl
  d__law_plan := c.def_ 2 (d := d__law_plan) rfl
  d__law_layer := c.def_ 3 (d := d__law_layer) rfl
  d__law_size := c.def_ 4 (d := d__law_size) rfl
  d__law_line := c.def_ 5 (d := d__law_line) rfl
  d__law_text := c.def_ 6 (d := d__law_text) rfl
  d__law_rows := c.def_ 7 (d := d__law_rows) rfl
  d__law_looks := c.def_ 8 (d := d__law_looks) rfl
  d__law_takes := c.def_ 9 (d := d__law_takes) rfl
  d__law_step := c.def_ 10 (d := d__law_step) rfl
  d__law_through := c.def_ 11 (d := d__law_through) rfl
  d__law_held := c.def_ 12 (d := d__law_held) rfl
  d__law_alone := c.def_ 13 (d := d__law_alone) rfl
  d__law_pairs := c.def_ 14 (d := d__law_pairs) rfl
  d__law_bent := c.def_ 15 (d := d__law_bent) rfl
  d__law_is_line := c.def_ 16 (d := d__law_is_line) rfl
  d__law_fits := c.def_ 17 (d := d__law_fits) rfl
  d__law_are_places := c.def_ 18 (d := d__law_are_places) rfl
  d__law_shows := c.def_ 19 (d := d__law_shows) rfl
  d_PartX_initX := c.def_ 20 (d := d_PartX_initX) rfl
  d_figure_at := c.def_ 21 (d := d_figure_at) rfl
  d_span_of := c.def_ 22 (d := d_span_of) rfl
  d_part_of := c.def_ 23 (d := d_part_of) rfl
  d_width_of := c.def_ 24 (d := d_width_of) rfl
  d_first_wrong := c.def_ 25 (d := d_first_wrong) rfl
  d_ProgramX_initX := c.def_ 26 (d := d_ProgramX_initX) rfl
  d_Program_read := c.def_ 27 (d := d_Program_read) rfl
  d_program_of := c.def_ 28 (d := d_program_of) rfl
  d_is_integer := c.def_ 29 (d := d_is_integer) rfl
  d_is_line := c.def_ 30 (d := d_is_line) rfl
  d_is_of := c.def_ 31 (d := d_is_of) rfl
  d_is_line_of := c.def_ 32 (d := d_is_line_of) rfl
  d_stretches := c.def_ 33 (d := d_stretches) rfl
  d_rows_by_place := c.def_ 34 (d := d_rows_by_place) rfl
  d_is_within := c.def_ 35 (d := d_is_within) rfl
  d_is_place_pair := c.def_ 36 (d := d_is_place_pair) rfl
  d_check_program := c.def_ 37 (d := d_check_program) rfl
  d_check_line := c.def_ 38 (d := d_check_line) rfl
  d_check_held := c.def_ 39 (d := d_check_held) rfl
  d_is_looked_at := c.def_ 40 (d := d_is_looked_at) rfl
  d_is_taken := c.def_ 41 (d := d_is_taken) rfl
  d_taken_by := c.def_ 42 (d := d_taken_by) rfl
  d_held_on := c.def_ 43 (d := d_held_on) rfl
  d_Program_layers := c.def_ 44 (d := d_Program_layers) rfl
  d_parts_of := c.def_ 45 (d := d_parts_of) rfl
  d_held := c.def_ 46 (d := d_held) rfl
  d_letters := c.def_ 47 (d := d_letters) rfl
  d_rows := c.def_ 48 (d := d_rows) rfl
  d_alone := c.def_ 49 (d := d_alone) rfl
  d_shows_more := c.def_ 50 (d := d_shows_more) rfl
  d_shows_unlike := c.def_ 51 (d := d_shows_unlike) rfl
  d_accepts := c.def_ 52 (d := d_accepts) rfl
  d__law_judged_right := c.def_ 53 (d := d__law_judged_right) rfl
  d_law := c.def_ 54 (d := d_law) rfl
  gXlaw_spring := glo_ok X G (c.fact 21 rfl)
  gXlaw_take := glo_ok X G (c.fact 22 rfl)
  gXlaw_plan := glo_ok X G (c.fact 23 rfl)
  gXlaw_layer := glo_ok X G (c.fact 24 rfl)
  gXlaw_size := glo_ok X G (c.fact 25 rfl)
  gXlaw_line := glo_ok X G (c.fact 26 rfl)
  gXlaw_text := glo_ok X G (c.fact 27 rfl)
  gXlaw_rows := glo_ok X G (c.fact 28 rfl)
  gXlaw_looks := glo_ok X G (c.fact 29 rfl)
  gXlaw_takes := glo_ok X G (c.fact 30 rfl)
  gXlaw_step := glo_ok X G (c.fact 31 rfl)
  gXlaw_through := glo_ok X G (c.fact 32 rfl)
  gXlaw_held := glo_ok X G (c.fact 33 rfl)
  gXlaw_alone := glo_ok X G (c.fact 34 rfl)
  gXlaw_pairs := glo_ok X G (c.fact 35 rfl)
  gXlaw_bent := glo_ok X G (c.fact 36 rfl)
  gXlaw_is_line := glo_ok X G (c.fact 37 rfl)
  gXlaw_fits := glo_ok X G (c.fact 38 rfl)
  gXlaw_are_places := glo_ok X G (c.fact 39 rfl)
  gXlaw_shows := glo_ok X G (c.fact 40 rfl)
  t_SIZES := tab_ok X G (c.fact 41 rfl) (c.more 0 rfl) (c.tab 0 (t := (fun K => ga K "SIZES", DL.c_SIZES.map fun q => mkS q.1)) rfl)
  c_PLANS := con_ok X G (c.more 1 rfl)
  C_Part := clsOk X G (by decide +kernel) (c.fact 42 rfl) (c.fact 43 rfl)
  n_Part_word := noat_ok (c.fact 44 rfl)
  n_Part_scope := noat_ok (c.fact 45 rfl)
  n_Part_way := noat_ok (c.fact 46 rfl)
  n_Part_number := noat_ok (c.fact 47 rfl)
  n_Part_every := noat_ok (c.fact 48 rfl)
  n_Part_own := noat_ok (c.fact 49 rfl)
  n_Part_spare := noat_ok (c.fact 50 rfl)
  mk_Part := mkr_ok (c.fact 51 rfl)
  c_FIGURES := con_ok X G (c.more 2 rfl)
  g_figure_at := glo_ok X G (c.fact 52 rfl)
  g_span_of := glo_ok X G (c.fact 53 rfl)
  g_part_of := glo_ok X G (c.fact 54 rfl)
  c_MOST_LAYERS := con_ok X G (c.more 3 rfl)
  g_width_of := glo_ok X G (c.fact 55 rfl)
  c_MOST_WIDTH := con_ok X G (c.more 4 rfl)
  g_first_wrong := glo_ok X G (c.fact 56 rfl)
  C_Program := clsOk X G (by decide +kernel) (c.fact 57 rfl) (c.fact 58 rfl)
  n_Program_lines := noat_ok (c.fact 59 rfl)
  mk_Program := mkr_ok (c.fact 60 rfl)
  cm_Program_read := cm_ok X G (by decide +kernel) (c.fact 57 rfl) (c.more 5 rfl)
  g_program_of := glo_ok X G (c.fact 61 rfl)
  g_is_integer := glo_ok X G (c.fact 62 rfl)
  c_MOST_PLACES := con_ok X G (c.more 6 rfl)
  g_is_line := glo_ok X G (c.fact 63 rfl)
  g_is_of := glo_ok X G (c.fact 64 rfl)
  g_is_line_of := glo_ok X G (c.fact 65 rfl)
  g_stretches := glo_ok X G (c.fact 66 rfl)
  g_rows_by_place := glo_ok X G (c.fact 67 rfl)
  g_is_within := glo_ok X G (c.fact 68 rfl)
  g_is_place_pair := glo_ok X G (c.fact 69 rfl)
  I_Program := iscB_ok (He.cls_ok (c.fact 58 rfl)) (c.more 7 rfl)
  g_check_program := glo_ok X G (c.fact 70 rfl)
  g_check_line := glo_ok X G (c.fact 71 rfl)
  c_MOST_ROUNDS := con_ok X G (c.more 8 rfl)
  g_check_held := glo_ok X G (c.fact 72 rfl)
  g_is_looked_at := glo_ok X G (c.fact 73 rfl)
  g_is_taken := glo_ok X G (c.fact 74 rfl)
  g_taken_by := glo_ok X G (c.fact 75 rfl)
  p_Program_layers := propB_ok (c.more 9 rfl)
  g_parts_of := glo_ok X G (c.fact 76 rfl)
  g_held_on := glo_ok X G (c.fact 77 rfl)
  g_held := glo_ok X G (c.fact 78 rfl)
  g_letters := glo_ok X G (c.fact 79 rfl)
  g_rows := glo_ok X G (c.fact 80 rfl)
  g_alone := glo_ok X G (c.fact 81 rfl)
  g_shows_more := glo_ok X G (c.fact 82 rfl)
  g_shows_unlike := glo_ok X G (c.fact 83 rfl)
  c_KINDS := con_ok X G (c.more 10 rfl)
  g_accepts := glo_ok X G (c.fact 84 rfl)
  gXlaw_judged_right := glo_ok X G (c.fact 85 rfl)
theorem G__law_spring (T : TopOk P w K mg base) : DefOk P w K mg base 1 (ga K "_law_spring") ["script", "at"] DL.f__law_spring := by
  obtain ⟨fd, F⟩ := T.d__law_spring
  have hN : (["script", "at", "cell", "older", "digits"] : List Str).Nodup := by decide +kernel
  refine def_ok (N := ["script", "at", "cell", "older", "digits"]) (ps := ["script", "at"]) (n := 5) F ⟨rfl, rfl, rfl, hN, rfl, by decide +kernel, by decide +kernel⟩ rfl (by decide) (fun _ _ _ _ _ _ us hl => match us, hl with | [_, _], _ => rfl) fun cdv A outer s H E hr => ?_
  have hu := hr.units
  have tk := takes_of (X := cxOf (L2.CX P w) P w K mg base ["script", "at", "cell", "older", "digits"] d__law_spring.qual (defScope (top 78)) (ga K "_law_spring") cdv A outer s H E) (E := E) rfl rfl rfl rfl
  unfold DL.b__law_spring
  exact (ss_cons (ss_asg (se_bin so_oAdd (se_bin so_oMul se_int (sv 1)) (se_bin so_oMul se_int (se_b sb_len T.bf.len boot_len rfl (sa_cons (sv 0) sa_nil)))) (sg_name 2 hN))
  (ss_cons (ss_if (st_cmp so_cLt (sv 1) (se_b sb_len T.bf.len boot_len rfl (sa_cons (sv 0) sa_nil))) (ss_one (ss_asg (se_ix (sv 0) (sv 1)) (sg_name 2 hN))) (ss_one (ss_for (si_seq (se_slice (sv 0) so_none (so_some se_int))) (sg_name 3 hN) (ss_one (ss_asg (se_bin so_oMod (se_ty sb_int T.bf.int boot_int rfl (sa_cons (se_bin so_oAdd (se_bin so_oMul (sv 2) se_int) (sv 3)) sa_nil)) se_int) (sg_name 2 hN))) rfl (passes_of rfl))))
  (ss_cons (ss_asg (se_if (st_cmp so_cGe (se_b sb_abs T.bf.abs boot_abs rfl (sa_cons (sv 2) sa_nil)) (se_bin so_oPow se_int se_int)) (se_b sb_abs T.bf.abs boot_abs rfl (sa_cons (sv 2) sa_nil)) se_int) (sg_name 4 hN))
  (ss_one (ss_ret (se_lst (sa_cons (se_bin so_oMod (se_ty sb_int T.bf.int boot_int rfl (sa_cons (se_bin so_oAdd (se_bin so_oMul (sv 2) se_int) (sv 1)) sa_nil)) se_int) (sa_cons (se_bin so_oMod (se_ty sb_int T.bf.int boot_int rfl (sa_cons (se_bin so_oAdd (se_bin so_oAdd (se_bin so_oMul (sv 2) (sv 2)) (se_bin so_oMul se_int (sv 1))) se_int) sa_nil)) se_int) (sa_cons (sv 4) sa_nil)))))))))
theorem G__law_take (T : TopOk P w K mg base) : DefOk P w K mg base 1 (ga K "_law_take") ["spring", "many"] DL.f__law_take := by
  obtain ⟨fd, F⟩ := T.d__law_take
  have hN : (["spring", "many", "one", "other", "digit"] : List Str).Nodup := by decide +kernel
  refine def_ok (N := ["spring", "many", "one", "other", "digit"]) (ps := ["spring", "many"]) (n := 5) F ⟨rfl, rfl, rfl, hN, rfl, by decide +kernel, by decide +kernel⟩ rfl (by decide) (fun _ _ _ _ _ _ us hl => match us, hl with | [_, _], _ => rfl) fun cdv A outer s H E hr => ?_
  have hu := hr.units
  have tk := takes_of (X := cxOf (L2.CX P w) P w K mg base ["spring", "many", "one", "other", "digit"] d__law_take.qual (defScope (top 79)) (ga K "_law_take") cdv A outer s H E) (E := E) rfl rfl rfl rfl
  unfold DL.b__law_take
  exact (ss_cons (by first | exact (ss_par2 rfl (sa_cons (se_ty sb_int T.bf.int boot_int rfl (sa_cons (se_ix (sv 0) se_int) sa_nil)) (sa_cons (se_ty sb_int T.bf.int boot_int rfl (sa_cons (se_ix (sv 0) se_int) sa_nil)) sa_nil)) hN rfl rfl (by decide) rfl rfl rfl rfl) | exact (ss_asg (se_tup (sa_cons (se_ty sb_int T.bf.int boot_int rfl (sa_cons (se_ix (sv 0) se_int) sa_nil)) (sa_cons (se_ty sb_int T.bf.int boot_int rfl (sa_cons (se_ix (sv 0) se_int) sa_nil)) sa_nil))) (sg_tup rfl (sgs_cons (sg_name 2 hN) (sgs_cons (sg_name 3 hN) sgs_nil)))))
  (ss_cons (ss_asg (sv 3) (sg_sub (sv 0) se_int))
  (ss_cons (ss_asg (se_bin so_oMod (se_ty sb_int T.bf.int boot_int rfl (sa_cons (se_bin so_oAdd (se_bin so_oAdd (se_bin so_oMul (sv 2) se_int) (se_bin so_oMul (sv 3) (se_bin so_oAdd (se_bin so_oMod (se_ty sb_int T.bf.int boot_int rfl (sa_cons (sv 3) sa_nil)) se_int) se_int))) se_int) sa_nil)) se_int) (sg_sub (sv 0) se_int))
  (ss_cons (ss_if (st_cmp so_cGt (se_ix (sv 0) se_int) se_int) (ss_cons (ss_asg (se_b sb_divmod T.bf.divmod boot_divmod rfl (sa_cons (se_ix (sv 0) se_int) (sa_cons (sv 1) sa_nil))) (sg_tup rfl (sgs_cons (sg_sub (sv 0) se_int) (sgs_cons (sg_name 4 hN) sgs_nil))))
  (ss_one (ss_ret (sv 4)))) ss_nil)
  (ss_one (ss_ret (se_bin so_oMod (se_ty sb_int T.bf.int boot_int rfl (sa_cons (se_bin so_oFdiv (se_ix (sv 0) se_int) se_int) sa_nil)) (sv 1))))))))
theorem G__law_plan (T : TopOk P w K mg base) : DefOk P w K mg base 2 (ga K "_law_plan") ["spring"] DL.f__law_plan := by
  obtain ⟨fd, F⟩ := T.d__law_plan
  have hN : (["spring"] : List Str).Nodup := by decide +kernel
  refine def_ok (N := ["spring"]) (ps := ["spring"]) (n := 1) F ⟨rfl, rfl, rfl, hN, rfl, by decide +kernel, by decide +kernel⟩ rfl (by decide) (fun _ _ _ _ _ _ us hl => match us, hl with | [_], _ => rfl) fun cdv A outer s H E hr => ?_
  have hu := hr.units
  have tk := takes_of (X := cxOf (L2.CX P w) P w K mg base ["spring"] d__law_plan.qual (defScope (top 89)) (ga K "_law_plan") cdv A outer s H E) (E := E) rfl rfl rfl rfl
  unfold DL.b__law_plan
  exact (ss_one (ss_ret (se_ix (se_lst (sa_cons se_str (sa_cons se_str (sa_cons se_str (sa_cons se_str (sa_cons se_str sa_nil)))))) (se_call ((G__law_take T).mono (by decide)) rfl T.gXlaw_take hr tk (sa_cons (sv 0) (sa_cons se_int sa_nil))))))
theorem G__law_layer (T : TopOk P w K mg base) : DefOk P w K mg base 2 (ga K "_law_layer") ["spring", "room"] DL.f__law_layer := by
  obtain ⟨fd, F⟩ := T.d__law_layer
  have hN : (["spring", "room", "word", "scope", "form", "own", "spare", "number", "way"] : List Str).Nodup := by decide +kernel
  refine def_ok (N := ["spring", "room", "word", "scope", "form", "own", "spare", "number", "way"]) (ps := ["spring", "room"]) (n := 9) F ⟨rfl, rfl, rfl, hN, rfl, by decide +kernel, by decide +kernel⟩ rfl (by decide) (fun _ _ _ _ _ _ us hl => match us, hl with | [_, _], _ => rfl) fun cdv A outer s H E hr => ?_
  have hu := hr.units
  have tk := takes_of (X := cxOf (L2.CX P w) P w K mg base ["spring", "room", "word", "scope", "form", "own", "spare", "number", "way"] d__law_layer.qual (defScope (top 80)) (ga K "_law_layer") cdv A outer s H E) (E := E) rfl rfl rfl rfl
  unfold DL.b__law_layer
  exact (ss_cons (ss_asg (se_ix (se_lst (sa_cons se_str (sa_cons se_str (sa_cons se_str (sa_cons se_str (sa_cons se_str sa_nil)))))) (se_call ((G__law_take T).mono (by decide)) rfl T.gXlaw_take hr tk (sa_cons (sv 0) (sa_cons se_int sa_nil)))) (sg_name 2 hN))
  (ss_cons (ss_if (st_pt (st_or (st_cmp (so_cEq hu) (sv 2) se_str) (st_or1 (st_cmp so_cLt (sv 1) se_int)))) (ss_one (ss_ret (se_tup (sa_cons se_str (sa_cons se_str (sa_cons se_str (sa_cons se_int (sa_cons se_int (sa_cons se_bl (sa_cons se_bl sa_nil)))))))))) ss_nil)
  (ss_cons (by first | exact (ss_par2 rfl (sa_cons (se_ix (se_lst (sa_cons se_str (sa_cons se_str (sa_cons se_str sa_nil)))) (se_call ((G__law_take T).mono (by decide)) rfl T.gXlaw_take hr tk (sa_cons (sv 0) (sa_cons se_int sa_nil)))) (sa_cons (se_call ((G__law_take T).mono (by decide)) rfl T.gXlaw_take hr tk (sa_cons (sv 0) (sa_cons se_int sa_nil))) sa_nil)) hN rfl rfl (by decide) rfl rfl rfl rfl) | exact (ss_asg (se_tup (sa_cons (se_ix (se_lst (sa_cons se_str (sa_cons se_str (sa_cons se_str sa_nil)))) (se_call ((G__law_take T).mono (by decide)) rfl T.gXlaw_take hr tk (sa_cons (sv 0) (sa_cons se_int sa_nil)))) (sa_cons (se_call ((G__law_take T).mono (by decide)) rfl T.gXlaw_take hr tk (sa_cons (sv 0) (sa_cons se_int sa_nil))) sa_nil))) (sg_tup rfl (sgs_cons (sg_name 3 hN) (sgs_cons (sg_name 4 hN) sgs_nil)))))
  (ss_cons (by first | exact (ss_par2 rfl (sa_cons (se_or (se_cmp (so_cEq hu) (sv 2) se_str) (se_one (se_cmp (so_cEq hu) (se_call ((G__law_take T).mono (by decide)) rfl T.gXlaw_take hr tk (sa_cons (sv 0) (sa_cons se_int sa_nil))) se_int))) (sa_cons (se_cmp (so_cEq hu) (se_call ((G__law_take T).mono (by decide)) rfl T.gXlaw_take hr tk (sa_cons (sv 0) (sa_cons se_int sa_nil))) se_int) sa_nil)) hN rfl rfl (by decide) rfl rfl rfl rfl) | exact (ss_asg (se_tup (sa_cons (se_or (se_cmp (so_cEq hu) (sv 2) se_str) (se_one (se_cmp (so_cEq hu) (se_call ((G__law_take T).mono (by decide)) rfl T.gXlaw_take hr tk (sa_cons (sv 0) (sa_cons se_int sa_nil))) se_int))) (sa_cons (se_cmp (so_cEq hu) (se_call ((G__law_take T).mono (by decide)) rfl T.gXlaw_take hr tk (sa_cons (sv 0) (sa_cons se_int sa_nil))) se_int) sa_nil))) (sg_tup rfl (sgs_cons (sg_name 5 hN) (sgs_cons (sg_name 6 hN) sgs_nil)))))
  (ss_cons (ss_if (st_cmp (so_cEq hu) (sv 4) se_int) (ss_one (ss_ret (se_tup (sa_cons (sv 2) (sa_cons se_str (sa_cons (se_ix (se_lst (sa_cons se_str (sa_cons se_str sa_nil))) (se_call ((G__law_take T).mono (by decide)) rfl T.gXlaw_take hr tk (sa_cons (sv 0) (sa_cons se_int sa_nil)))) (sa_cons se_int (sa_cons se_int (sa_cons (sv 5) (sa_cons (sv 6) sa_nil)))))))))) ss_nil)
  (ss_cons (ss_asg (se_bin so_oAdd se_int (se_call ((G__law_take T).mono (by decide)) rfl T.gXlaw_take hr tk (sa_cons (sv 0) (sa_cons (se_b (sb_min2 rfl) T.bf.min boot_min rfl (sa_cons (sv 1) (sa_cons se_int sa_nil))) sa_nil)))) (sg_name 7 hN))
  (ss_cons (ss_if (st_cmp (so_cEq hu) (sv 4) se_int) (ss_one (ss_ret (se_tup (sa_cons (sv 2) (sa_cons (sv 3) (sa_cons (se_ix (se_lst (sa_cons se_str (sa_cons se_str sa_nil))) (se_call ((G__law_take T).mono (by decide)) rfl T.gXlaw_take hr tk (sa_cons (sv 0) (sa_cons se_int sa_nil)))) (sa_cons (sv 7) (sa_cons se_int (sa_cons (sv 5) (sa_cons (sv 6) sa_nil)))))))))) ss_nil)
  (ss_cons (ss_asg (se_ix (se_lst (sa_cons se_str (sa_cons se_str (sa_cons se_str sa_nil)))) (se_call ((G__law_take T).mono (by decide)) rfl T.gXlaw_take hr tk (sa_cons (sv 0) (sa_cons se_int sa_nil)))) (sg_name 8 hN))
  (ss_cons (ss_if (st_cmp (so_cEq hu) (sv 4) se_int) (ss_one (ss_ret (se_tup (sa_cons (sv 2) (sa_cons (sv 3) (sa_cons (sv 8) (sa_cons se_int (sa_cons (sv 7) (sa_cons (sv 5) (sa_cons (sv 6) sa_nil)))))))))) ss_nil)
  (ss_one (ss_ret (se_tup (sa_cons (sv 2) (sa_cons (sv 3) (sa_cons (sv 8) (sa_cons (sv 7) (sa_cons (se_ix (se_lst (sa_cons se_int (sa_cons se_int (sa_cons se_int (sa_cons se_int sa_nil))))) (se_call ((G__law_take T).mono (by decide)) rfl T.gXlaw_take hr tk (sa_cons (sv 0) (sa_cons se_int sa_nil)))) (sa_cons (sv 5) (sa_cons (sv 6) sa_nil)))))))))))))))))))
theorem G__law_size (T : TopOk P w K mg base) : DefOk P w K mg base 2 (ga K "_law_size") ["spring"] DL.f__law_size := by
  obtain ⟨fd, F⟩ := T.d__law_size
  have hN : (["spring"] : List Str).Nodup := by decide +kernel
  refine def_ok (N := ["spring"]) (ps := ["spring"]) (n := 1) F ⟨rfl, rfl, rfl, hN, rfl, by decide +kernel, by decide +kernel⟩ rfl (by decide) (fun _ _ _ _ _ _ us hl => match us, hl with | [_], _ => rfl) fun cdv A outer s H E hr => ?_
  have hu := hr.units
  have tk := takes_of (X := cxOf (L2.CX P w) P w K mg base ["spring"] d__law_size.qual (defScope (top 90)) (ga K "_law_size") cdv A outer s H E) (E := E) rfl rfl rfl rfl
  unfold DL.b__law_size
  exact (ss_one (ss_ret (se_bin so_oAdd se_int (se_call ((G__law_take T).mono (by decide)) rfl T.gXlaw_take hr tk (sa_cons (sv 0) (sa_cons se_int sa_nil))))))
theorem G__law_line (T : TopOk P w K mg base) : DefOk P w K mg base 3 (ga K "_law_line") ["spring", "laid"] DL.f__law_line := by
  obtain ⟨fd, F⟩ := T.d__law_line
  have hN : (["spring", "laid", "found", "turn", "sign"] : List Str).Nodup := by decide +kernel
  refine def_ok (N := ["spring", "laid", "found", "turn", "sign"]) (ps := ["spring", "laid"]) (n := 5) F ⟨rfl, rfl, rfl, hN, rfl, by decide +kernel, by decide +kernel⟩ rfl (by decide) (fun _ _ _ _ _ _ us hl => match us, hl with | [_, _], _ => rfl) fun cdv A outer s H E hr => ?_
  have hu := hr.units
  have tk := takes_of (X := cxOf (L2.CX P w) P w K mg base ["spring", "laid", "found", "turn", "sign"] d__law_line.qual (defScope (top 91)) (ga K "_law_line") cdv A outer s H E) (E := E) rfl rfl rfl rfl
  unfold DL.b__law_line
  exact (ss_cons (ss_asg (se_tup (sa_cons (se_call ((G__law_size T).mono (by decide)) rfl T.gXlaw_size hr tk (sa_cons (sv 0) sa_nil)) sa_nil)) (sg_name 2 hN))
  (ss_cons (ss_if (st_cmp (so_cIn hu) (sv 1) (se_lst (sa_cons se_str (sa_cons se_str sa_nil)))) (ss_one (ss_for (si_range1 (sa_cons (se_call ((G__law_take T).mono (by decide)) rfl T.gXlaw_take hr tk (sa_cons (sv 0) (sa_cons se_int sa_nil))) sa_nil) rfl T.bf.range) (sg_name 3 hN) (ss_one (ss_asg (se_bin so_oAdd (sv 2) (se_tup (sa_cons (se_call ((G__law_size T).mono (by decide)) rfl T.gXlaw_size hr tk (sa_cons (sv 0) sa_nil)) sa_nil))) (sg_name 2 hN))) rfl (passes_of rfl))) ss_nil)
  (ss_cons (ss_if (st_cmp (so_cEq hu) (sv 1) se_str) (ss_cons (ss_for (si_range1 (sa_cons (se_call ((G__law_take T).mono (by decide)) rfl T.gXlaw_take hr tk (sa_cons (sv 0) (sa_cons se_int sa_nil))) sa_nil) rfl T.bf.range) (sg_name 3 hN) (ss_cons (ss_asg (se_if (st_pt (st_and (st_cmp so_cGt (se_ix (sv 2) (se_neg se_int)) se_int) (st_and1 (st_cmp (so_cEq hu) (se_call ((G__law_take T).mono (by decide)) rfl T.gXlaw_take hr tk (sa_cons (sv 0) (sa_cons se_int sa_nil))) se_int)))) (se_neg se_int) se_int) (sg_name 4 hN))
  (ss_one (ss_asg (se_bin so_oAdd (sv 2) (se_tup (sa_cons (se_bin so_oMul (sv 4) (se_call ((G__law_size T).mono (by decide)) rfl T.gXlaw_size hr tk (sa_cons (sv 0) sa_nil))) sa_nil))) (sg_name 2 hN)))) rfl (passes_of rfl))
  (ss_one (ss_if (st_cmp (so_cEq hu) (se_call ((G__law_take T).mono (by decide)) rfl T.gXlaw_take hr tk (sa_cons (sv 0) (sa_cons se_int sa_nil))) se_int) (ss_one (ss_asg (se_bin so_oAdd (se_tup (sa_cons (se_neg (se_call ((G__law_size T).mono (by decide)) rfl T.gXlaw_size hr tk (sa_cons (sv 0) sa_nil))) sa_nil)) (se_slice (sv 2) so_none (so_some se_int))) (sg_name 2 hN))) ss_nil))) ss_nil)
  (ss_cons (ss_if (st_pt (st_and (st_cmp (so_cIn hu) (sv 1) (se_lst (sa_cons se_str (sa_cons se_str sa_nil)))) (st_and1 (st_cmp so_cGt (se_call ((G__law_take T).mono (by decide)) rfl T.gXlaw_take hr tk (sa_cons (sv 0) (sa_cons se_int sa_nil))) se_int)))) (ss_one (ss_asg (se_bin so_oAdd (sv 2) (se_tup (sa_cons (se_neg (se_call ((G__law_size T).mono (by decide)) rfl T.gXlaw_size hr tk (sa_cons (sv 0) sa_nil))) sa_nil))) (sg_name 2 hN))) ss_nil)
  (ss_cons (ss_if (st_pt (st_and (st_cmp (so_cEq hu) (sv 1) se_str) (st_and1 (st_cmp so_cGt (se_call ((G__law_take T).mono (by decide)) rfl T.gXlaw_take hr tk (sa_cons (sv 0) (sa_cons se_int sa_nil))) se_int)))) (ss_one (ss_asg (se_bin so_oAdd (se_tup (sa_cons (se_neg (se_call ((G__law_size T).mono (by decide)) rfl T.gXlaw_size hr tk (sa_cons (sv 0) sa_nil))) sa_nil)) (sv 2)) (sg_name 2 hN))) ss_nil)
  (ss_one (ss_ret (sv 2))))))))
theorem G__law_text (T : TopOk P w K mg base) : DefOk P w K mg base 1 (ga K "_law_text") ["layer"] DL.f__law_text := by
  obtain ⟨fd, F⟩ := T.d__law_text
  have hN : (["layer", "word", "scope", "way", "number", "every", "own", "spare", "far", "found"] : List Str).Nodup := by decide +kernel
  refine def_ok (N := ["layer", "word", "scope", "way", "number", "every", "own", "spare", "far", "found"]) (ps := ["layer"]) (n := 10) F ⟨rfl, rfl, rfl, hN, rfl, by decide +kernel, by decide +kernel⟩ rfl (by decide) (fun _ _ _ _ _ _ us hl => match us, hl with | [_], _ => rfl) fun cdv A outer s H E hr => ?_
  have hu := hr.units
  have tk := takes_of (X := cxOf (L2.CX P w) P w K mg base ["layer", "word", "scope", "way", "number", "every", "own", "spare", "far", "found"] d__law_text.qual (defScope (top 81)) (ga K "_law_text") cdv A outer s H E) (E := E) rfl rfl rfl rfl
  unfold DL.b__law_text
  exact (ss_cons (ss_asg (sv 0) (sg_tup rfl (sgs_cons (sg_name 1 hN) (sgs_cons (sg_name 2 hN) (sgs_cons (sg_name 3 hN) (sgs_cons (sg_name 4 hN) (sgs_cons (sg_name 5 hN) (sgs_cons (sg_name 6 hN) (sgs_cons (sg_name 7 hN) sgs_nil)))))))))
  (ss_cons (ss_if (st_cmp (so_cEq hu) (sv 1) se_str) (ss_one (ss_ret (sv 1))) ss_nil)
  (ss_cons (by first | exact (ss_par2 rfl (sa_cons (se_if (st_cmp so_cGt (sv 4) se_int) (se_ty sb_str T.bf.str boot_str rfl (sa_cons (sv 4) sa_nil)) se_str) (sa_cons (se_bin so_oAdd (se_bin so_oAdd (se_bin so_oAdd (sv 1) se_str) (sv 2)) se_str) sa_nil)) hN rfl rfl (by decide) rfl rfl rfl rfl) | exact (ss_asg (se_tup (sa_cons (se_if (st_cmp so_cGt (sv 4) se_int) (se_ty sb_str T.bf.str boot_str rfl (sa_cons (sv 4) sa_nil)) se_str) (sa_cons (se_bin so_oAdd (se_bin so_oAdd (se_bin so_oAdd (sv 1) se_str) (sv 2)) se_str) sa_nil))) (sg_tup rfl (sgs_cons (sg_name 8 hN) (sgs_cons (sg_name 9 hN) sgs_nil)))))
  (ss_cons (ss_if (st_cmp (so_cIn hu) (sv 3) (se_lst (sa_cons se_str (sa_cons se_str sa_nil)))) (ss_one (ss_asg (se_bin so_oAdd (sv 9) (sv 3)) (sg_name 9 hN))) (ss_one (ss_if (st_cmp (so_cIn hu) (sv 3) (se_lst (sa_cons se_str (sa_cons se_str sa_nil)))) (ss_one (ss_asg (se_bin so_oAdd (se_bin so_oAdd (se_bin so_oAdd (sv 9) se_str) (sv 8)) (se_slice (sv 3) (so_some se_int) so_none)) (sg_name 9 hN))) (ss_one (ss_asg (se_bin so_oAdd (se_bin so_oAdd (se_bin so_oAdd (se_bin so_oAdd (sv 9) (sv 3)) se_str) (sv 8)) (se_if (st_cmp so_cGt (sv 5) se_int) (se_bin so_oAdd se_str (se_ty sb_str T.bf.str boot_str rfl (sa_cons (sv 5) sa_nil))) se_str)) (sg_name 9 hN))))))
  (ss_cons (ss_if (st_pt (st_and (st_val (sv 6)) (st_and1 (st_cmp (so_cEq hu) (sv 1) se_str)))) (ss_one (ss_asg (se_bin so_oAdd (sv 9) se_str) (sg_name 9 hN))) ss_nil)
  (ss_one (ss_ret (se_bin so_oAdd (sv 9) (se_if (st_val (sv 7)) se_str se_str)))))))))
theorem G__law_rows (T : TopOk P w K mg base) : DefOk P w K mg base 1 (ga K "_law_rows") ["run"] DL.f__law_rows := by
  obtain ⟨fd, F⟩ := T.d__law_rows
  have hN : (["run", "found", "at", "number"] : List Str).Nodup := by decide +kernel
  refine def_ok (N := ["run", "found", "at", "number"]) (ps := ["run"]) (n := 4) F ⟨rfl, rfl, rfl, hN, rfl, by decide +kernel, by decide +kernel⟩ rfl (by decide) (fun _ _ _ _ _ _ us hl => match us, hl with | [_], _ => rfl) fun cdv A outer s H E hr => ?_
  have hu := hr.units
  have tk := takes_of (X := cxOf (L2.CX P w) P w K mg base ["run", "found", "at", "number"] d__law_rows.qual (defScope (top 82)) (ga K "_law_rows") cdv A outer s H E) (E := E) rfl rfl rfl rfl
  unfold DL.b__law_rows
  exact (ss_cons (ss_asg (se_lst sa_nil) (sg_name 1 hN))
  (ss_cons (ss_for (si_range1 (sa_cons (se_b sb_len T.bf.len boot_len rfl (sa_cons (sv 0) sa_nil)) sa_nil) rfl T.bf.range) (sg_name 2 hN) (ss_cons (ss_asg (se_if (st_cmp so_cGt (se_ix (sv 0) (sv 2)) se_int) (sv 2) (se_neg se_int)) (sg_name 3 hN))
  (ss_one (ss_asg (se_bin so_oAdd (sv 1) (se_bin so_oMul (se_lst (sa_cons (sv 3) sa_nil)) (se_b sb_abs T.bf.abs boot_abs rfl (sa_cons (se_ix (sv 0) (sv 2)) sa_nil)))) (sg_name 1 hN)))) rfl (passes_of rfl))
  (ss_one (ss_ret (sv 1)))))
theorem G__law_looks (T : TopOk P w K mg base) : DefOk P w K mg base 1 (ga K "_law_looks") ["layer", "track", "x", "z"] DL.f__law_looks := by
  obtain ⟨fd, F⟩ := T.d__law_looks
  have hN : (["layer", "track", "x", "z", "scope", "way", "number", "gap"] : List Str).Nodup := by decide +kernel
  refine def_ok (N := ["layer", "track", "x", "z", "scope", "way", "number", "gap"]) (ps := ["layer", "track", "x", "z"]) (n := 8) F ⟨rfl, rfl, rfl, hN, rfl, by decide +kernel, by decide +kernel⟩ rfl (by decide) (fun _ _ _ _ _ _ us hl => match us, hl with | [_, _, _, _], _ => rfl) fun cdv A outer s H E hr => ?_
  have hu := hr.units
  have tk := takes_of (X := cxOf (L2.CX P w) P w K mg base ["layer", "track", "x", "z", "scope", "way", "number", "gap"] d__law_looks.qual (defScope (top 83)) (ga K "_law_looks") cdv A outer s H E) (E := E) rfl rfl rfl rfl
  unfold DL.b__law_looks
  exact (ss_cons (ss_asg (se_slice (sv 0) (so_some se_int) (so_some se_int)) (sg_tup rfl (sgs_cons (sg_name 4 hN) (sgs_cons (sg_name 5 hN) (sgs_cons (sg_name 6 hN) sgs_nil)))))
  (ss_cons (ss_asg (se_bin so_oSub (sv 3) (sv 2)) (sg_name 7 hN))
  (ss_cons (ss_if (st_pt (st_and (st_cmp (so_cEq hu) (sv 4) se_str) (st_and1 (st_pt (st_or (st_cmp so_cLt (se_ix (sv 1) (sv 2)) se_int) (st_or1 (st_cmp (so_cNe hu) (se_ix (sv 1) (sv 3)) (se_ix (sv 1) (sv 2))))))))) (ss_one (ss_ret se_bl)) ss_nil)
  (ss_cons (ss_if (st_pt (st_and (st_cmp (so_cEq hu) (sv 4) se_str) (st_and1 (st_cmp so_cLt (se_ix (sv 1) (sv 3)) se_int)))) (ss_one (ss_ret se_bl)) ss_nil)
  (ss_cons (ss_if (st_cmp (so_cEq hu) (sv 5) se_str) (ss_one (ss_ret (se_cmp (so_cEq hu) (se_m .lst PySem.F.plainAttrs_list PySem.F.slot_list_index PySem.F.type_list_index sm_index (sv 1) (sa_cons (se_ix (sv 1) (sv 2)) sa_nil)) (sv 3)))) ss_nil)
  (ss_cons (ss_if (st_cmp (so_cEq hu) (sv 5) se_str) (ss_one (ss_ret (se_or (se_cmp (so_cEq hu) (se_bin so_oAdd (sv 3) se_int) (se_b sb_len T.bf.len boot_len rfl (sa_cons (sv 1) sa_nil))) (se_one (se_cmp (so_cNe hu) (se_ix (sv 1) (se_bin so_oAdd (sv 3) se_int)) (se_ix (sv 1) (sv 2))))))) ss_nil)
  (ss_cons (ss_if (st_cmp (so_cIn hu) (sv 5) (se_lst (sa_cons se_str (sa_cons se_str sa_nil)))) (ss_one (ss_ret (se_cmp (so_cEq hu) (sv 7) (se_if (st_cmp (so_cEq hu) (sv 5) se_str) (sv 6) (se_neg (sv 6)))))) ss_nil)
  (ss_cons (ss_if (st_pt (st_or (st_cmp (so_cEq hu) (sv 7) se_int) (st_or (st_pt (st_and (st_cmp (so_cEq hu) (sv 5) se_str) (st_and1 (st_cmp so_cGt (sv 7) se_int)))) (st_or1 (st_pt (st_and (st_cmp (so_cEq hu) (sv 5) se_str) (st_and1 (st_cmp so_cLt (sv 7) se_int)))))))) (ss_one (ss_ret se_bl)) ss_nil)
  (ss_one (ss_ret (se_and (se_cmp (so_cEq hu) (se_bin so_oMod (se_ty sb_int T.bf.int boot_int rfl (sa_cons (se_b sb_abs T.bf.abs boot_abs rfl (sa_cons (sv 7) sa_nil)) sa_nil)) (se_ix (sv 0) se_int)) se_int) (se_one (se_or (se_cmp (so_cEq hu) (sv 6) se_int) (se_one (se_cmp so_cLe (se_b sb_abs T.bf.abs boot_abs rfl (sa_cons (sv 7) sa_nil)) (sv 6))))))))))))))))
theorem G__law_takes (T : TopOk P w K mg base) : DefOk P w K mg base 2 (ga K "_law_takes") ["layer", "track", "x", "z"] DL.f__law_takes := by
  obtain ⟨fd, F⟩ := T.d__law_takes
  have hN : (["layer", "track", "x", "z"] : List Str).Nodup := by decide +kernel
  refine def_ok (N := ["layer", "track", "x", "z"]) (ps := ["layer", "track", "x", "z"]) (n := 4) F ⟨rfl, rfl, rfl, hN, rfl, by decide +kernel, by decide +kernel⟩ rfl (by decide) (fun _ _ _ _ _ _ us hl => match us, hl with | [_, _, _, _], _ => rfl) fun cdv A outer s H E hr => ?_
  have hu := hr.units
  have tk := takes_of (X := cxOf (L2.CX P w) P w K mg base ["layer", "track", "x", "z"] d__law_takes.qual (defScope (top 84)) (ga K "_law_takes") cdv A outer s H E) (E := E) rfl rfl rfl rfl
  unfold DL.b__law_takes
  exact (ss_cons (ss_if (st_pt (st_or (st_cmp (so_cEq hu) (se_ix (sv 0) se_int) se_str) (st_or1 (st_pt (st_and (st_val (se_ix (sv 0) se_int)) (st_and1 (st_cmp so_cLt (se_ix (sv 1) (sv 2)) se_int))))))) (ss_one (ss_ret (se_and (se_cmp (so_cEq hu) (sv 2) (sv 3)) (se_one (se_or (se_cmp (so_cNe hu) (se_ix (sv 0) se_int) se_str) (se_one (se_cmp so_cGe (se_ix (sv 1) (sv 2)) se_int))))))) ss_nil)
  (ss_one (ss_ret (se_or (se_and (se_cmp (so_cEq hu) (sv 2) (sv 3)) (se_one (se_ix (sv 0) se_int))) (se_one (se_call ((G__law_looks T).mono (by decide)) rfl T.gXlaw_looks hr tk (sa_cons (sv 0) (sa_cons (sv 1) (sa_cons (sv 2) (sa_cons (sv 3) sa_nil))))))))))
theorem G__law_step (T : TopOk P w K mg base) : DefOk P w K mg base 3 (ga K "_law_step") ["layer", "track"] DL.f__law_step := by
  obtain ⟨fd, F⟩ := T.d__law_step
  have hN : (["layer", "track", "many", "z", "x"] : List Str).Nodup := by decide +kernel
  refine def_ok (N := ["layer", "track", "many", "z", "x"]) (ps := ["layer", "track"]) (n := 5) F ⟨rfl, rfl, rfl, hN, rfl, by decide +kernel, by decide +kernel⟩ rfl (by decide) (fun _ _ _ _ _ _ us hl => match us, hl with | [_, _], _ => rfl) fun cdv A outer s H E hr => ?_
  have hu := hr.units
  have tk := takes_of (X := cxOf (L2.CX P w) P w K mg base ["layer", "track", "many", "z", "x"] d__law_step.qual (defScope (top 85)) (ga K "_law_step") cdv A outer s H E) (E := E) rfl rfl rfl rfl
  unfold DL.b__law_step
  exact (ss_cons (ss_asg (se_listRg (se_b sb_len T.bf.len boot_len rfl (sa_cons (sv 1) sa_nil)) rfl rfl T.bf.list rfl T.bf.range) (sg_name 2 hN))
  (ss_one (ss_ret (se_lc [("x", 4)] rfl hN (si_seq (sv 2)) (fun _ _ _ _ _ => (sg_name 4 hN)) (fun _ _ _ _ _ => sts_nil) (fun _ _ _ _ _ => (se_lc [("z", 3)] rfl hN (si_seq (sv 2)) (fun _ _ _ _ _ => (sg_name 3 hN)) (fun _ _ _ _ _ => (sts_one (st_val (se_call ((G__law_takes T).mono (by decide)) rfl T.gXlaw_takes hr takes0 (sa_cons (sv 0) (sa_cons (sv 1) (sa_cons (sv 4) (sa_cons (sv 3) sa_nil)))))))) (fun _ _ _ _ _ => (sv 3)) (blkOk_by (by kernel_rfl)))) (blkOk_by (by kernel_rfl))))))
theorem G__law_through (T : TopOk P w K mg base) : DefOk P w K mg base 1 (ga K "_law_through") ["step", "found"] DL.f__law_through := by
  obtain ⟨fd, F⟩ := T.d__law_through
  have hN : (["step", "found", "later", "places", "whole", "z"] : List Str).Nodup := by decide +kernel
  refine def_ok (N := ["step", "found", "later", "places", "whole", "z"]) (ps := ["step", "found"]) (n := 6) F ⟨rfl, rfl, rfl, hN, rfl, by decide +kernel, by decide +kernel⟩ rfl (by decide) (fun _ _ _ _ _ _ us hl => match us, hl with | [_, _], _ => rfl) fun cdv A outer s H E hr => ?_
  have hu := hr.units
  have tk := takes_of (X := cxOf (L2.CX P w) P w K mg base ["step", "found", "later", "places", "whole", "z"] d__law_through.qual (defScope (top 86)) (ga K "_law_through") cdv A outer s H E) (E := E) rfl rfl rfl rfl
  unfold DL.b__law_through
  exact (ss_cons (ss_asg (se_lst sa_nil) (sg_name 2 hN))
  (ss_cons (ss_for (si_seq (sv 0)) (sg_name 3 hN) (ss_cons (ss_asg se_int (sg_name 4 hN))
  (ss_cons (ss_for (si_seq (sv 3)) (sg_name 5 hN) (ss_one (ss_asg (se_bin so_oBor (sv 4) (se_ix (sv 1) (sv 5))) (sg_name 4 hN))) rfl (passes_of rfl))
  (ss_one (ss_expr (se_m .lst PySem.F.plainAttrs_list PySem.F.slot_list_append PySem.F.type_list_append sm_append (sv 2) (sa_cons (sv 4) sa_nil)))))) rfl (passes_of rfl))
  (ss_one (ss_ret (sv 2)))))
theorem G__law_held (T : TopOk P w K mg base) : DefOk P w K mg base 4 (ga K "_law_held") ["parts", "track", "times"] DL.f__law_held := by
  obtain ⟨fd, F⟩ := T.d__law_held
  have hN : (["parts", "track", "times", "found", "x", "steps", "layer", "step"] : List Str).Nodup := by decide +kernel
  refine def_ok (N := ["parts", "track", "times", "found", "x", "steps", "layer", "step"]) (ps := ["parts", "track", "times"]) (n := 8) F ⟨rfl, rfl, rfl, hN, rfl, by decide +kernel, by decide +kernel⟩ rfl (by decide) (fun _ _ _ _ _ _ us hl => match us, hl with | [_, _, _], _ => rfl) fun cdv A outer s H E hr => ?_
  have hu := hr.units
  have tk := takes_of (X := cxOf (L2.CX P w) P w K mg base ["parts", "track", "times", "found", "x", "steps", "layer", "step"] d__law_held.qual (defScope (top 87)) (ga K "_law_held") cdv A outer s H E) (E := E) rfl rfl rfl rfl
  unfold DL.b__law_held
  exact (ss_cons (by first | exact (ss_setLc 3 [("x", 4)] rfl hN (si_range1 (sa_cons (se_b sb_len T.bf.len boot_len rfl (sa_cons (sv 1) sa_nil)) sa_nil) rfl T.bf.range) (fun _ _ _ _ _ => (sg_name 4 hN)) (fun _ _ _ _ _ => sts_nil) (fun _ _ _ _ _ => (se_bin so_oShl se_int (sv 4))) (blkOk_by (by kernel_rfl))) | exact (ss_asg (se_lc [("x", 4)] rfl hN (si_range1 (sa_cons (se_b sb_len T.bf.len boot_len rfl (sa_cons (sv 1) sa_nil)) sa_nil) rfl T.bf.range) (fun _ _ _ _ _ => (sg_name 4 hN)) (fun _ _ _ _ _ => sts_nil) (fun _ _ _ _ _ => (se_bin so_oShl se_int (sv 4))) (blkOk_by (by kernel_rfl))) (sg_name 3 hN)))
  (ss_cons (by first | exact (ss_setLc 5 [("layer", 6)] rfl hN (si_seq (sv 0)) (fun _ _ _ _ _ => (sg_name 6 hN)) (fun _ _ _ _ _ => sts_nil) (fun _ _ _ _ _ => (se_call ((G__law_step T).mono (by decide)) rfl T.gXlaw_step hr takes0 (sa_cons (sv 6) (sa_cons (sv 1) sa_nil)))) (blkOk_by (by kernel_rfl))) | exact (ss_asg (se_lc [("layer", 6)] rfl hN (si_seq (sv 0)) (fun _ _ _ _ _ => (sg_name 6 hN)) (fun _ _ _ _ _ => sts_nil) (fun _ _ _ _ _ => (se_call ((G__law_step T).mono (by decide)) rfl T.gXlaw_step hr takes0 (sa_cons (sv 6) (sa_cons (sv 1) sa_nil)))) (blkOk_by (by kernel_rfl))) (sg_name 5 hN)))
  (ss_cons (ss_for (si_seq (se_bin so_oMul (sv 5) (sv 2))) (sg_name 7 hN) (ss_one (ss_asg (se_call ((G__law_through T).mono (by decide)) rfl T.gXlaw_through hr tk (sa_cons (sv 7) (sa_cons (sv 3) sa_nil))) (sg_name 3 hN))) rfl (passes_of rfl))
  (ss_one (ss_ret (sv 3))))))
theorem G__law_alone (T : TopOk P w K mg base) : DefOk P w K mg base 5 (ga K "_law_alone") ["layers", "track"] DL.f__law_alone := by
  obtain ⟨fd, F⟩ := T.d__law_alone
  have hN : (["layers", "track", "found", "begin", "many", "inner", "at"] : List Str).Nodup := by decide +kernel
  refine def_ok (N := ["layers", "track", "found", "begin", "many", "inner", "at"]) (ps := ["layers", "track"]) (n := 7) F ⟨rfl, rfl, rfl, hN, rfl, by decide +kernel, by decide +kernel⟩ rfl (by decide) (fun _ _ _ _ _ _ us hl => match us, hl with | [_, _], _ => rfl) fun cdv A outer s H E hr => ?_
  have hu := hr.units
  have tk := takes_of (X := cxOf (L2.CX P w) P w K mg base ["layers", "track", "found", "begin", "many", "inner", "at"] d__law_alone.qual (defScope (top 94)) (ga K "_law_alone") cdv A outer s H E) (E := E) rfl rfl rfl rfl
  unfold DL.b__law_alone
  exact (ss_cons (ss_asg (se_bin so_oMul (se_lst (sa_cons se_int sa_nil)) (se_b sb_len T.bf.len boot_len rfl (sa_cons (sv 1) sa_nil))) (sg_name 2 hN))
  (ss_cons (ss_for (si_range1 (sa_cons (se_b sb_len T.bf.len boot_len rfl (sa_cons (sv 1) sa_nil)) sa_nil) rfl T.bf.range) (sg_name 3 hN) (ss_one (ss_if (st_pt (st_and (st_cmp so_cGe (se_ix (sv 1) (sv 3)) se_int) (st_and1 (st_cmp (so_cEq hu) (se_m .lst PySem.F.plainAttrs_list PySem.F.slot_list_index PySem.F.type_list_index sm_index (sv 1) (sa_cons (se_ix (sv 1) (sv 3)) sa_nil)) (sv 3))))) (ss_cons (ss_asg (se_m .lst PySem.F.plainAttrs_list PySem.F.slot_list_count PySem.F.type_list_count sm_count (sv 1) (sa_cons (se_ix (sv 1) (sv 3)) sa_nil)) (sg_name 4 hN))
  (ss_cons (ss_asg (se_call ((G__law_held T).mono (by decide)) rfl T.gXlaw_held hr tk (sa_cons (sv 0) (sa_cons (se_bin so_oMul (se_lst (sa_cons se_int sa_nil)) (sv 4)) (sa_cons se_int sa_nil)))) (sg_name 5 hN))
  (ss_one (ss_for (si_range1 (sa_cons (sv 4) sa_nil) rfl T.bf.range) (sg_name 6 hN) (ss_one (ss_asg (se_bin so_oShl (se_ix (sv 5) (sv 6)) (sv 3)) (sg_sub (sv 2) (se_bin so_oAdd (sv 3) (sv 6))))) rfl (passes_of rfl))))) ss_nil)) rfl (passes_of rfl))
  (ss_one (ss_ret (sv 2)))))
theorem G__law_pairs (T : TopOk P w K mg base) : DefOk P w K mg base 6 (ga K "_law_pairs") ["layers", "other", "track"] DL.f__law_pairs := by
  obtain ⟨fd, F⟩ := T.d__law_pairs
  have hN : (["layers", "other", "track", "here", "there", "found", "many", "x", "y"] : List Str).Nodup := by decide +kernel
  refine def_ok (N := ["layers", "other", "track", "here", "there", "found", "many", "x", "y"]) (ps := ["layers", "other", "track"]) (n := 9) F ⟨rfl, rfl, rfl, hN, rfl, by decide +kernel, by decide +kernel⟩ rfl (by decide) (fun _ _ _ _ _ _ us hl => match us, hl with | [_, _, _], _ => rfl) fun cdv A outer s H E hr => ?_
  have hu := hr.units
  have tk := takes_of (X := cxOf (L2.CX P w) P w K mg base ["layers", "other", "track", "here", "there", "found", "many", "x", "y"] d__law_pairs.qual (defScope (top 95)) (ga K "_law_pairs") cdv A outer s H E) (E := E) rfl rfl rfl rfl
  unfold DL.b__law_pairs
  exact (ss_cons (ss_asg (se_call ((G__law_held T).mono (by decide)) rfl T.gXlaw_held hr tk (sa_cons (sv 0) (sa_cons (sv 2) (sa_cons se_int sa_nil)))) (sg_name 3 hN))
  (ss_cons (ss_asg (se_if (st_isN (sv 1)) (se_call ((G__law_alone T).mono (by decide)) rfl T.gXlaw_alone hr tk (sa_cons (sv 0) (sa_cons (sv 2) sa_nil))) (se_call ((G__law_held T).mono (by decide)) rfl T.gXlaw_held hr tk (sa_cons (sv 1) (sa_cons (sv 2) (sa_cons se_int sa_nil))))) (sg_name 4 hN))
  (ss_cons (by first | exact (ss_par2 rfl (sa_cons (se_lst sa_nil) (sa_cons (se_listRg (se_b sb_len T.bf.len boot_len rfl (sa_cons (sv 2) sa_nil)) rfl rfl T.bf.list rfl T.bf.range) sa_nil)) hN rfl rfl (by decide) rfl rfl rfl rfl) | exact (ss_asg (se_tup (sa_cons (se_lst sa_nil) (sa_cons (se_listRg (se_b sb_len T.bf.len boot_len rfl (sa_cons (sv 2) sa_nil)) rfl rfl T.bf.list rfl T.bf.range) sa_nil))) (sg_tup rfl (sgs_cons (sg_name 5 hN) (sgs_cons (sg_name 6 hN) sgs_nil)))))
  (ss_cons (ss_for (si_seq (sv 6)) (sg_name 7 hN) (ss_one (ss_if (st_cmp so_cGe (se_ix (sv 2) (sv 7)) se_int) (ss_one (ss_asg (se_bin so_oAdd (sv 5) (se_lc [("y", 8)] rfl hN (si_seq (sv 6)) (fun _ _ _ _ _ => (sg_name 8 hN)) (fun _ _ _ _ _ => (sts_one (st_cmp (so_cEq hu) (se_bin so_oBand (se_bin so_oShr (se_bin so_oBxor (se_ix (sv 3) (sv 7)) (se_ix (sv 4) (sv 7))) (sv 8)) se_int) se_int))) (fun _ _ _ _ _ => (se_tup (sa_cons (sv 7) (sa_cons (sv 8) sa_nil)))) (blkOk_by (by kernel_rfl)))) (sg_name 5 hN))) ss_nil)) rfl (passes_of rfl))
  (ss_cons (ss_if (st_isN (sv 1)) (ss_one (by first | exact (ss_setLc 5 [("x", 7), ("y", 8)] rfl hN (si_seq (sv 5)) (fun _ _ _ _ _ => (sg_tup rfl (sgs_cons (sg_name 7 hN) (sgs_cons (sg_name 8 hN) sgs_nil)))) (fun _ _ _ _ _ => (sts_one (st_cmp (so_cEq hu) (se_bin so_oBand (se_bin so_oShr (se_ix (sv 3) (sv 7)) (sv 8)) se_int) se_int))) (fun _ _ _ _ _ => (se_tup (sa_cons (sv 7) (sa_cons (sv 8) sa_nil)))) (blkOk_by (by kernel_rfl))) | exact (ss_asg (se_lc [("x", 7), ("y", 8)] rfl hN (si_seq (sv 5)) (fun _ _ _ _ _ => (sg_tup rfl (sgs_cons (sg_name 7 hN) (sgs_cons (sg_name 8 hN) sgs_nil)))) (fun _ _ _ _ _ => (sts_one (st_cmp (so_cEq hu) (se_bin so_oBand (se_bin so_oShr (se_ix (sv 3) (sv 7)) (sv 8)) se_int) se_int))) (fun _ _ _ _ _ => (se_tup (sa_cons (sv 7) (sa_cons (sv 8) sa_nil)))) (blkOk_by (by kernel_rfl))) (sg_name 5 hN)))) ss_nil)
  (ss_one (ss_ret (sv 5))))))))
theorem G__law_bent (T : TopOk P w K mg base) : DefOk P w K mg base 2 (ga K "_law_bent") ["spring", "paper"] DL.f__law_bent := by
  obtain ⟨fd, F⟩ := T.d__law_bent
  have hN : (["spring", "paper", "run", "x", "y", "many", "pick", "way", "piece", "odd", "lines"] : List Str).Nodup := by decide +kernel
  refine def_ok (N := ["spring", "paper", "run", "x", "y", "many", "pick", "way", "piece", "odd", "lines"]) (ps := ["spring", "paper"]) (n := 11) F ⟨rfl, rfl, rfl, hN, rfl, by decide +kernel, by decide +kernel⟩ rfl (by decide) (fun _ _ _ _ _ _ us hl => match us, hl with | [_, _], _ => rfl) fun cdv A outer s H E hr => ?_
  have hu := hr.units
  have tk := takes_of (X := cxOf (L2.CX P w) P w K mg base ["spring", "paper", "run", "x", "y", "many", "pick", "way", "piece", "odd", "lines"] d__law_bent.qual (defScope (top 97)) (ga K "_law_bent") cdv A outer s H E) (E := E) rfl rfl rfl rfl
  unfold DL.b__law_bent
  exact (ss_cons (ss_asg (sv 1) (sg_tup rfl (sgs_cons (sg_name 2 hN) (sgs_cons (sg_name 3 hN) (sgs_cons (sg_name 4 hN) sgs_nil)))))
  (ss_cons (by first | exact (ss_par3 rfl (sa_cons (se_b (sb_sum rfl) T.bf.sum boot_sum rfl (sa_cons (se_lc [("piece", 8)] rfl hN (si_seq (sv 2)) (fun _ _ _ _ _ => (sg_name 8 hN)) (fun _ _ _ _ _ => sts_nil) (fun _ _ _ _ _ => (se_b sb_abs T.bf.abs boot_abs rfl (sa_cons (sv 8) sa_nil))) (blkOk_by (by kernel_rfl))) sa_nil)) (sa_cons (se_call ((G__law_take T).mono (by decide)) rfl T.gXlaw_take hr tk (sa_cons (sv 0) (sa_cons se_int sa_nil))) (sa_cons (se_call ((G__law_take T).mono (by decide)) rfl T.gXlaw_take hr tk (sa_cons (sv 0) (sa_cons se_int sa_nil))) sa_nil))) hN rfl rfl rfl (by decide) (by decide) (by decide) rfl rfl rfl rfl rfl) | exact (ss_asg (se_tup (sa_cons (se_b (sb_sum rfl) T.bf.sum boot_sum rfl (sa_cons (se_lc [("piece", 8)] rfl hN (si_seq (sv 2)) (fun _ _ _ _ _ => (sg_name 8 hN)) (fun _ _ _ _ _ => sts_nil) (fun _ _ _ _ _ => (se_b sb_abs T.bf.abs boot_abs rfl (sa_cons (sv 8) sa_nil))) (blkOk_by (by kernel_rfl))) sa_nil)) (sa_cons (se_call ((G__law_take T).mono (by decide)) rfl T.gXlaw_take hr tk (sa_cons (sv 0) (sa_cons se_int sa_nil))) (sa_cons (se_call ((G__law_take T).mono (by decide)) rfl T.gXlaw_take hr tk (sa_cons (sv 0) (sa_cons se_int sa_nil))) sa_nil)))) (sg_tup rfl (sgs_cons (sg_name 5 hN) (sgs_cons (sg_name 6 hN) (sgs_cons (sg_name 7 hN) sgs_nil))))))
  (ss_cons (ss_asg (se_ix (se_lst (sa_cons se_non (sa_cons se_bl (sa_cons se_bl (sa_cons (se_neg se_int) (sa_cons (sv 5) (sa_cons se_str (sa_cons (se_tup (sa_cons se_int sa_nil)) (sa_cons (se_lst (sa_cons se_int sa_nil)) (sa_cons (se_bin so_oPow se_int se_int) sa_nil)))))))))) (sv 6)) (sg_name 9 hN))
  (ss_cons (ss_if (st_cmp (so_cEq hu) (sv 7) se_int) (ss_one (ss_ret (se_tup (sa_cons (sv 2) (sa_cons (sv 9) (sa_cons (sv 4) sa_nil)))))) ss_nil)
  (ss_cons (ss_if (st_cmp (so_cEq hu) (sv 7) se_int) (ss_one (ss_ret (se_tup (sa_cons (sv 2) (sa_cons (sv 3) (sa_cons (sv 9) sa_nil)))))) ss_nil)
  (ss_cons (ss_if (st_cmp (so_cEq hu) (sv 7) se_int) (ss_one (ss_ret (se_tup (sa_cons (sv 2) (sa_cons (se_call ((G__law_take T).mono (by decide)) rfl T.gXlaw_take hr tk (sa_cons (sv 0) (sa_cons (sv 5) sa_nil))) (sa_cons (sv 4) sa_nil)))))) ss_nil)
  (ss_cons (ss_if (st_cmp (so_cEq hu) (sv 7) se_int) (ss_one (ss_ret (se_tup (sa_cons (sv 2) (sa_cons (sv 3) (sa_cons (se_call ((G__law_take T).mono (by decide)) rfl T.gXlaw_take hr tk (sa_cons (sv 0) (sa_cons (sv 5) sa_nil))) sa_nil)))))) ss_nil)
  (ss_cons (ss_if (st_cmp (so_cEq hu) (sv 7) se_int) (ss_one (ss_ret (se_ix (se_lst (sa_cons se_non (sa_cons (se_tup (sa_cons (sv 2) (sa_cons (sv 3) sa_nil))) (sa_cons (se_lst (sa_cons (sv 2) (sa_cons (sv 3) (sa_cons (sv 4) sa_nil)))) (sa_cons (se_tup (sa_cons (se_ty sb_list T.bf.list boot_list rfl (sa_cons (sv 2) sa_nil)) (sa_cons (sv 3) (sa_cons (sv 4) sa_nil)))) (sa_cons (se_tup (sa_cons (sv 2) (sa_cons (sv 3) (sa_cons (sv 4) (sa_cons (sv 4) sa_nil))))) (sa_cons (se_tup (sa_cons (sv 3) (sa_cons (sv 4) (sa_cons (sv 2) sa_nil)))) (sa_cons (se_tup (sa_cons (sv 2) (sa_cons (se_tup (sa_cons (sv 3) (sa_cons (sv 4) sa_nil))) sa_nil))) (sa_cons se_dic0 (sa_cons se_int sa_nil)))))))))) (sv 6)))) ss_nil)
  (ss_cons (ss_asg (se_lst (sa_cons (se_tup sa_nil) (sa_cons (se_tup (sa_cons se_int sa_nil)) (sa_cons (se_bin so_oAdd (sv 2) (se_tup (sa_cons se_int sa_nil))) (sa_cons (se_tup (sa_cons (se_neg se_int) (sa_cons (se_neg se_int) sa_nil))) (sa_cons (se_bin so_oAdd (sv 2) (se_tup (sa_cons (se_neg se_int) sa_nil))) (sa_cons (se_tup (sa_cons se_bl sa_nil)) (sa_cons se_int (sa_cons (se_bin so_oAdd (sv 2) (se_tup (sa_cons se_int sa_nil))) (sa_cons (se_slice (sv 2) (so_some se_int) so_none) sa_nil)))))))))) (sg_name 10 hN))
  (ss_one (ss_ret (se_tup (sa_cons (se_ix (sv 10) (sv 6)) (sa_cons (sv 3) (sa_cons (sv 4) sa_nil)))))))))))))))
theorem G__law_is_line (T : TopOk P w K mg base) : DefOk P w K mg base 1 (ga K "_law_is_line") ["value"] DL.f__law_is_line := by
  obtain ⟨fd, F⟩ := T.d__law_is_line
  have hN : (["value", "piece", "at"] : List Str).Nodup := by decide +kernel
  refine def_ok (N := ["value", "piece", "at"]) (ps := ["value"]) (n := 3) F ⟨rfl, rfl, rfl, hN, rfl, by decide +kernel, by decide +kernel⟩ rfl (by decide) (fun _ _ _ _ _ _ us hl => match us, hl with | [_], _ => rfl) fun cdv A outer s H E hr => ?_
  have hu := hr.units
  have tk := takes_of (X := cxOf (L2.CX P w) P w K mg base ["value", "piece", "at"] d__law_is_line.qual (defScope (top 92)) (ga K "_law_is_line") cdv A outer s H E) (E := E) rfl rfl rfl rfl
  unfold DL.b__law_is_line
  exact (ss_cons (ss_if (st_pt (st_or (st_not (st_val (se_isi .tuple T.bf.isinstance T.bf.tuple boot_tuple (by rfl) (by rfl) (sv 0)))) (st_or1 (st_cmp (so_cEq hu) (sv 0) (se_tup sa_nil))))) (ss_one (ss_ret se_bl)) ss_nil)
  (ss_cons (ss_for (si_seq (sv 0)) (sg_name 1 hN) (ss_one (ss_if (st_pt (st_or (st_not (st_val (se_isi .int T.bf.isinstance T.bf.int boot_int (by rfl) (by rfl) (sv 1)))) (st_or (st_val (se_isi .bool T.bf.isinstance T.bf.bool boot_bool (by rfl) (by rfl) (sv 1))) (st_or1 (st_cmp (so_cEq hu) (sv 1) se_int))))) (ss_one (ss_ret se_bl)) ss_nil)) rfl (passes_of rfl))
  (ss_cons (ss_if (st_cmp so_cGt (se_b (sb_sum rfl) T.bf.sum boot_sum rfl (sa_cons (se_lc [("piece", 1)] rfl hN (si_seq (sv 0)) (fun _ _ _ _ _ => (sg_name 1 hN)) (fun _ _ _ _ _ => sts_nil) (fun _ _ _ _ _ => (se_b sb_abs T.bf.abs boot_abs rfl (sa_cons (sv 1) sa_nil))) (blkOk_by (by kernel_rfl))) sa_nil)) se_int) (ss_one (ss_ret se_bl)) ss_nil)
  (ss_one (ss_ret (se_not (se_b (sb_any rfl) T.bf.any boot_any rfl (sa_cons (se_lc [("at", 2)] rfl hN (si_range1 (sa_cons (se_bin so_oSub (se_b sb_len T.bf.len boot_len rfl (sa_cons (sv 0) sa_nil)) se_int) sa_nil) rfl T.bf.range) (fun _ _ _ _ _ => (sg_name 2 hN)) (fun _ _ _ _ _ => sts_nil) (fun _ _ _ _ _ => (se_and (se_cmp so_cLt (se_ix (sv 0) (sv 2)) se_int) (se_one (se_cmp so_cLt (se_ix (sv 0) (se_bin so_oAdd (sv 2) se_int)) se_int)))) (blkOk_by (by kernel_rfl))) sa_nil))))))))
theorem G__law_fits (T : TopOk P w K mg base) : DefOk P w K mg base 1 (ga K "_law_fits") ["run", "laid"] DL.f__law_fits := by
  obtain ⟨fd, F⟩ := T.d__law_fits
  have hN : (["run", "laid", "signs", "piece"] : List Str).Nodup := by decide +kernel
  refine def_ok (N := ["run", "laid", "signs", "piece"]) (ps := ["run", "laid"]) (n := 4) F ⟨rfl, rfl, rfl, hN, rfl, by decide +kernel, by decide +kernel⟩ rfl (by decide) (fun _ _ _ _ _ _ us hl => match us, hl with | [_, _], _ => rfl) fun cdv A outer s H E hr => ?_
  have hu := hr.units
  have tk := takes_of (X := cxOf (L2.CX P w) P w K mg base ["run", "laid", "signs", "piece"] d__law_fits.qual (defScope (top 88)) (ga K "_law_fits") cdv A outer s H E) (E := E) rfl rfl rfl rfl
  unfold DL.b__law_fits
  exact (ss_cons (by first | exact (ss_setLc 2 [("piece", 3)] rfl hN (si_seq (sv 0)) (fun _ _ _ _ _ => (sg_name 3 hN)) (fun _ _ _ _ _ => sts_nil) (fun _ _ _ _ _ => (se_cmp so_cGt (sv 3) se_int)) (blkOk_by (by kernel_rfl))) | exact (ss_asg (se_lc [("piece", 3)] rfl hN (si_seq (sv 0)) (fun _ _ _ _ _ => (sg_name 3 hN)) (fun _ _ _ _ _ => sts_nil) (fun _ _ _ _ _ => (se_cmp so_cGt (sv 3) se_int)) (blkOk_by (by kernel_rfl))) (sg_name 2 hN)))
  (ss_cons (ss_if (st_cmp (so_cEq hu) (sv 1) se_str) (ss_one (ss_ret (se_cmp (so_cIn hu) (sv 2) (se_lst (sa_cons (se_lst (sa_cons se_bl sa_nil)) (sa_cons (se_lst (sa_cons se_bl (sa_cons se_bl sa_nil))) sa_nil)))))) ss_nil)
  (ss_cons (ss_if (st_cmp (so_cEq hu) (sv 1) se_str) (ss_one (ss_ret (se_cmp (so_cIn hu) (sv 2) (se_lst (sa_cons (se_lst (sa_cons se_bl sa_nil)) (sa_cons (se_lst (sa_cons se_bl (sa_cons se_bl sa_nil))) sa_nil)))))) ss_nil)
  (ss_cons (ss_if (st_cmp (so_cEq hu) (sv 1) se_str) (ss_one (ss_ret (se_cmp (so_cNin hu) se_bl (sv 2)))) ss_nil)
  (ss_one (ss_ret (se_or (se_cmp (so_cEq hu) (sv 1) se_str) (se_one (se_and (se_ix (sv 2) se_int) (se_one (se_cmp (so_cNin hu) se_bl (se_slice (sv 2) so_none (so_some (se_neg se_int))))))))))))))
theorem G__law_are_places (T : TopOk P w K mg base) : DefOk P w K mg base 1 (ga K "_law_are_places") ["values", "many"] DL.f__law_are_places := by
  obtain ⟨fd, F⟩ := T.d__law_are_places
  have hN : (["values", "many", "value"] : List Str).Nodup := by decide +kernel
  refine def_ok (N := ["values", "many", "value"]) (ps := ["values", "many"]) (n := 3) F ⟨rfl, rfl, rfl, hN, rfl, by decide +kernel, by decide +kernel⟩ rfl (by decide) (fun _ _ _ _ _ _ us hl => match us, hl with | [_, _], _ => rfl) fun cdv A outer s H E hr => ?_
  have hu := hr.units
  have tk := takes_of (X := cxOf (L2.CX P w) P w K mg base ["values", "many", "value"] d__law_are_places.qual (defScope (top 93)) (ga K "_law_are_places") cdv A outer s H E) (E := E) rfl rfl rfl rfl
  unfold DL.b__law_are_places
  exact (ss_cons (ss_for (si_seq (sv 0)) (sg_name 2 hN) (ss_one (ss_if (st_pt (st_or (st_not (st_val (se_isi .int T.bf.isinstance T.bf.int boot_int (by rfl) (by rfl) (sv 2)))) (st_or (st_val (se_isi .bool T.bf.isinstance T.bf.bool boot_bool (by rfl) (by rfl) (sv 2))) (st_or (st_cmp so_cLt (sv 2) se_int) (st_or1 (st_cmp so_cGe (sv 2) (sv 1))))))) (ss_one (ss_ret se_bl)) ss_nil)) rfl (passes_of rfl))
  (ss_one (ss_ret se_bl)))
theorem G__law_shows (T : TopOk P w K mg base) : DefOk P w K mg base 7 (ga K "_law_shows") ["layers", "other", "laid", "paper"] DL.f__law_shows := by
  obtain ⟨fd, F⟩ := T.d__law_shows
  have hN : (["layers", "other", "laid", "paper", "track"] : List Str).Nodup := by decide +kernel
  refine def_ok (N := ["layers", "other", "laid", "paper", "track"]) (ps := ["layers", "other", "laid", "paper"]) (n := 5) F ⟨rfl, rfl, rfl, hN, rfl, by decide +kernel, by decide +kernel⟩ rfl (by decide) (fun _ _ _ _ _ _ us hl => match us, hl with | [_, _, _, _], _ => rfl) fun cdv A outer s H E hr => ?_
  have hu := hr.units
  have tk := takes_of (X := cxOf (L2.CX P w) P w K mg base ["layers", "other", "laid", "paper", "track"] d__law_shows.qual (defScope (top 96)) (ga K "_law_shows") cdv A outer s H E) (E := E) rfl rfl rfl rfl
  unfold DL.b__law_shows
  exact (ss_cons (ss_if (st_pt (st_or (st_not (st_val (se_isi .tuple T.bf.isinstance T.bf.tuple boot_tuple (by rfl) (by rfl) (sv 3)))) (st_or (st_cmp (so_cNe hu) (se_b sb_len T.bf.len boot_len rfl (sa_cons (sv 3) sa_nil)) se_int) (st_or1 (st_not (st_val (se_call ((G__law_is_line T).mono (by decide)) rfl T.gXlaw_is_line hr tk (sa_cons (se_ix (sv 3) se_int) sa_nil)))))))) (ss_one (ss_ret se_bl)) ss_nil)
  (ss_cons (ss_asg (se_call ((G__law_rows T).mono (by decide)) rfl T.gXlaw_rows hr tk (sa_cons (se_ix (sv 3) se_int) sa_nil)) (sg_name 4 hN))
  (ss_cons (ss_if (st_pt (st_or (st_not (st_val (se_call ((G__law_fits T).mono (by decide)) rfl T.gXlaw_fits hr tk (sa_cons (se_ix (sv 3) se_int) (sa_cons (sv 2) sa_nil))))) (st_or1 (st_not (st_val (se_call ((G__law_are_places T).mono (by decide)) rfl T.gXlaw_are_places hr tk (sa_cons (se_slice (sv 3) (so_some se_int) so_none) (sa_cons (se_b sb_len T.bf.len boot_len rfl (sa_cons (sv 4) sa_nil)) sa_nil)))))))) (ss_one (ss_ret se_bl)) ss_nil)
  (ss_one (ss_ret (se_cmp (so_cIn hu) (se_tup (sa_cons (se_ix (sv 3) se_int) (sa_cons (se_ix (sv 3) se_int) sa_nil))) (se_call ((G__law_pairs T).mono (by decide)) rfl T.gXlaw_pairs hr tk (sa_cons (sv 0) (sa_cons (sv 1) (sa_cons (sv 4) sa_nil))))))))))
theorem G_PartX_initX (T : TopOk P w K mg base) : DefOk P w K mg base 1 (ma K (ga K "Part") "__init__") ["self", "heads", "span", "more"] DL.f_PartX_initX := by
  obtain ⟨fd, F⟩ := T.d_PartX_initX
  have hN : (["self", "heads", "span", "more"] : List Str).Nodup := by decide +kernel
  refine def_ok (N := ["self", "heads", "span", "more"]) (ps := ["self", "heads", "span", "more"]) (n := 4) F ⟨rfl, rfl, rfl, hN, rfl, by decide +kernel, by decide +kernel⟩ rfl (by decide) (fun _ _ _ _ _ _ us hl => match us, hl with | [_, _, _, _], _ => rfl) fun cdv A outer s H E hr => ?_
  have hu := hr.units
  have tk := takes_of (X := cxOf (L2.CX P w) P w K mg base ["self", "heads", "span", "more"] d_PartX_initX.qual (defScope (cls 27 0)) (ma K (ga K "Part") "__init__") cdv A outer s H E) (E := E) rfl rfl rfl rfl
  unfold DL.b_PartX_initX
  exact (ss_cons (ss_asg (sv 1) (sg_tup rfl (sgs_cons (sg_fld T.C_Part T.n_Part_word (by decide +kernel) (sv 0)) (sgs_cons (sg_fld T.C_Part T.n_Part_scope (by decide +kernel) (sv 0)) sgs_nil))))
  (ss_cons (ss_asg (sv 2) (sg_tup rfl (sgs_cons (sg_fld T.C_Part T.n_Part_way (by decide +kernel) (sv 0)) (sgs_cons (sg_fld T.C_Part T.n_Part_number (by decide +kernel) (sv 0)) sgs_nil))))
  (ss_one (ss_asg (sv 3) (sg_tup rfl (sgs_cons (sg_fld T.C_Part T.n_Part_every (by decide +kernel) (sv 0)) (sgs_cons (sg_fld T.C_Part T.n_Part_own (by decide +kernel) (sv 0)) (sgs_cons (sg_fld T.C_Part T.n_Part_spare (by decide +kernel) (sv 0)) sgs_nil))))))))
theorem G_figure_at (T : TopOk P w K mg base) : DefOk P w K mg base 1 (ga K "figure_at") ["figure"] DL.f_figure_at := by
  obtain ⟨fd, F⟩ := T.d_figure_at
  have hN : (["figure", "number", "other"] : List Str).Nodup := by decide +kernel
  refine def_ok (N := ["figure", "number", "other"]) (ps := ["figure"]) (n := 3) F ⟨rfl, rfl, rfl, hN, rfl, by decide +kernel, by decide +kernel⟩ rfl (by decide) (fun _ _ _ _ _ _ us hl => match us, hl with | [_], _ => rfl) fun cdv A outer s H E hr => ?_
  have hu := hr.units
  have tk := takes_of (X := cxOf (L2.CX P w) P w K mg base ["figure", "number", "other"] d_figure_at.qual (defScope (top 28)) (ga K "figure_at") cdv A outer s H E) (E := E) rfl rfl rfl rfl
  unfold DL.b_figure_at
  exact (ss_cons (ss_for (si_enum (sa_cons (se_glob T.c_FIGURES rfl) sa_nil) rfl T.bf.enumerate) (sg_tup rfl (sgs_cons (sg_name 1 hN) (sgs_cons (sg_name 2 hN) sgs_nil))) (ss_one (ss_if (st_cmp (so_cEq hu) (sv 2) (sv 0)) (ss_one (ss_ret (sv 1))) ss_nil)) rfl (passes_of rfl))
  (ss_one (ss_ret se_non)))
theorem G_span_of (T : TopOk P w K mg base) : DefOk P w K mg base 2 (ga K "span_of") ["scope", "words"] DL.f_span_of := by
  obtain ⟨fd, F⟩ := T.d_span_of
  have hN : (["scope", "words"] : List Str).Nodup := by decide +kernel
  refine def_ok (N := ["scope", "words"]) (ps := ["scope", "words"]) (n := 2) F ⟨rfl, rfl, rfl, hN, rfl, by decide +kernel, by decide +kernel⟩ rfl (by decide) (fun _ _ _ _ _ _ us hl => match us, hl with | [_, _], _ => rfl) fun cdv A outer s H E hr => ?_
  have hu := hr.units
  have tk := takes_of (X := cxOf (L2.CX P w) P w K mg base ["scope", "words"] d_span_of.qual (defScope (top 29)) (ga K "span_of") cdv A outer s H E) (E := E) rfl rfl rfl rfl
  unfold DL.b_span_of
  exact (ss_cons (ss_if (st_cmp (so_cIn hu) (se_ix (sv 1) se_int) (se_tup (sa_cons se_str (sa_cons se_str sa_nil)))) (ss_one (ss_ret (se_if (st_cmp (so_cEq hu) (sv 0) se_str) (se_tup (sa_cons (se_tup (sa_cons (se_ix (sv 1) se_int) (sa_cons se_int sa_nil))) (sa_cons se_int sa_nil))) se_non))) ss_nil)
  (ss_cons (ss_if (st_pt (st_and (st_cmp so_cGt (se_b sb_len T.bf.len boot_len rfl (sa_cons (sv 1) sa_nil)) se_int) (st_and (st_cmp (so_cIn hu) (se_ix (sv 1) se_int) (se_tup (sa_cons se_str (sa_cons se_str (sa_cons se_str sa_nil))))) (st_and1 (st_cmp (so_cIn hu) (se_ix (sv 1) se_int) (se_glob T.c_FIGURES rfl)))))) (ss_one (ss_ret (se_tup (sa_cons (se_tup (sa_cons (se_ix (sv 1) se_int) (sa_cons (se_call ((G_figure_at T).mono (by decide)) rfl T.g_figure_at hr tk (sa_cons (se_ix (sv 1) se_int) sa_nil)) sa_nil))) (sa_cons se_int sa_nil))))) ss_nil)
  (ss_cons (ss_if (st_pt (st_and (st_cmp so_cGt (se_b sb_len T.bf.len boot_len rfl (sa_cons (sv 1) sa_nil)) se_int) (st_and (st_cmp (so_cEq hu) (se_ix (sv 1) se_int) se_str) (st_and (st_cmp (so_cIn hu) (se_ix (sv 1) se_int) (se_slice (se_glob T.c_FIGURES rfl) (so_some se_int) so_none)) (st_and1 (st_cmp (so_cIn hu) (se_ix (sv 1) se_int) (se_tup (sa_cons se_str (sa_cons se_str sa_nil))))))))) (ss_one (ss_ret (se_tup (sa_cons (se_tup (sa_cons (se_fmt (se_ix (sv 1) se_int)) (sa_cons (se_call ((G_figure_at T).mono (by decide)) rfl T.g_figure_at hr tk (sa_cons (se_ix (sv 1) se_int) sa_nil)) sa_nil))) (sa_cons se_int sa_nil))))) ss_nil)
  (ss_one (ss_ret se_non)))))
theorem G_part_of (T : TopOk P w K mg base) : DefOk P w K mg base 3 (ga K "part_of") ["layer"] DL.f_part_of := by
  obtain ⟨fd, F⟩ := T.d_part_of
  have hN : (["layer", "words", "found", "span", "many", "rest", "every", "own"] : List Str).Nodup := by decide +kernel
  refine def_ok (N := ["layer", "words", "found", "span", "many", "rest", "every", "own"]) (ps := ["layer"]) (n := 8) F ⟨rfl, rfl, rfl, hN, rfl, by decide +kernel, by decide +kernel⟩ rfl (by decide) (fun _ _ _ _ _ _ us hl => match us, hl with | [_], _ => rfl) fun cdv A outer s H E hr => ?_
  have hu := hr.units
  have tk := takes_of (X := cxOf (L2.CX P w) P w K mg base ["layer", "words", "found", "span", "many", "rest", "every", "own"] d_part_of.qual (defScope (top 30)) (ga K "part_of") cdv A outer s H E) (E := E) rfl rfl rfl rfl
  unfold DL.b_part_of
  exact (ss_cons (ss_if (st_not (st_val (se_isi .str T.bf.isinstance T.bf.str boot_str (by rfl) (by rfl) (sv 0)))) (ss_one (ss_ret se_non)) ss_nil)
  (ss_cons (ss_asg (se_m .str PySem.F.plainAttrs_str PySem.F.slot_str_split PySem.F.type_str_split sm_split (sv 0) (sa_cons se_str sa_nil)) (sg_name 1 hN))
  (ss_cons (ss_if (st_cmp (so_cEq hu) (sv 1) (se_lst (sa_cons se_str sa_nil))) (ss_one (ss_ret (se_make ((G_PartX_initX T).mono (by decide)) T.C_Part T.mk_Part (by decide +kernel) rfl hr (sa_cons (se_tup (sa_cons se_str (sa_cons se_str sa_nil))) (sa_cons (se_tup (sa_cons se_str (sa_cons se_int sa_nil))) (sa_cons (se_tup (sa_cons se_int (sa_cons se_bl (sa_cons se_bl sa_nil)))) sa_nil)))))) ss_nil)
  (ss_cons (ss_if (st_pt (st_or (st_cmp so_cLt (se_b sb_len T.bf.len boot_len rfl (sa_cons (sv 1) sa_nil)) se_int) (st_or (st_cmp (so_cNin hu) (se_ix (sv 1) se_int) (se_tup (sa_cons se_str (sa_cons se_str sa_nil)))) (st_or1 (st_cmp (so_cNin hu) (se_ix (sv 1) se_int) (se_tup (sa_cons se_str (sa_cons se_str (sa_cons se_str sa_nil))))))))) (ss_one (ss_ret se_non)) ss_nil)
  (ss_cons (ss_asg (se_call ((G_span_of T).mono (by decide)) rfl T.g_span_of hr tk (sa_cons (se_ix (sv 1) se_int) (sa_cons (se_slice (sv 1) (so_some se_int) so_none) sa_nil))) (sg_name 2 hN))
  (ss_cons (ss_if (st_isN (sv 2)) (ss_one (ss_ret se_non)) ss_nil)
  (ss_cons (ss_asg (sv 2) (sg_tup rfl (sgs_cons (sg_name 3 hN) (sgs_cons (sg_name 4 hN) sgs_nil))))
  (ss_cons (by first | exact (ss_par2 rfl (sa_cons (se_slice (sv 1) (so_some (se_bin so_oAdd se_int (sv 4))) so_none) (sa_cons se_int sa_nil)) hN rfl rfl (by decide) rfl rfl rfl rfl) | exact (ss_asg (se_tup (sa_cons (se_slice (sv 1) (so_some (se_bin so_oAdd se_int (sv 4))) so_none) (sa_cons se_int sa_nil))) (sg_tup rfl (sgs_cons (sg_name 5 hN) (sgs_cons (sg_name 6 hN) sgs_nil)))))
  (ss_cons (ss_if (st_pt (st_and (st_cmp (so_cEq hu) (se_slice (sv 5) so_none (so_some se_int)) (se_lst (sa_cons se_str sa_nil))) (st_and (st_cmp (so_cIn hu) (se_ix (sv 3) se_int) (se_tup (sa_cons se_str (sa_cons se_str (sa_cons se_str sa_nil))))) (st_and1 (st_cmp (so_cIn hu) (se_slice (sv 5) (so_some se_int) (so_some se_int)) (se_tup (sa_cons (se_lst (sa_cons se_str sa_nil)) (sa_cons (se_lst (sa_cons se_str sa_nil)) sa_nil)))))))) (ss_one (by first | exact (ss_par2 rfl (sa_cons (se_slice (sv 5) (so_some se_int) so_none) (sa_cons (se_ty sb_int T.bf.int boot_int rfl (sa_cons (se_ix (sv 5) se_int) sa_nil)) sa_nil)) hN rfl rfl (by decide) rfl rfl rfl rfl) | exact (ss_asg (se_tup (sa_cons (se_slice (sv 5) (so_some se_int) so_none) (sa_cons (se_ty sb_int T.bf.int boot_int rfl (sa_cons (se_ix (sv 5) se_int) sa_nil)) sa_nil))) (sg_tup rfl (sgs_cons (sg_name 5 hN) (sgs_cons (sg_name 6 hN) sgs_nil)))))) ss_nil)
  (ss_cons (ss_asg (se_or (se_cmp (so_cEq hu) (se_ix (sv 1) se_int) se_str) (se_one (se_cmp (so_cEq hu) (se_slice (sv 5) so_none (so_some se_int)) (se_lst (sa_cons se_str sa_nil))))) (sg_name 7 hN))
  (ss_cons (ss_if (st_pt (st_and (st_cmp (so_cEq hu) (se_ix (sv 1) se_int) se_str) (st_and1 (st_val (sv 7))))) (ss_one (ss_asg (se_slice (sv 5) (so_some se_int) so_none) (sg_name 5 hN))) ss_nil)
  (ss_cons (ss_if (st_cmp (so_cNin hu) (sv 5) (se_tup (sa_cons (se_lst sa_nil) (sa_cons (se_lst (sa_cons se_str (sa_cons se_str sa_nil))) sa_nil)))) (ss_one (ss_ret se_non)) ss_nil)
  (ss_one (ss_ret (se_make ((G_PartX_initX T).mono (by decide)) T.C_Part T.mk_Part (by decide +kernel) rfl hr (sa_cons (se_tup (sa_cons (se_ix (sv 1) se_int) (sa_cons (se_ix (sv 1) se_int) sa_nil))) (sa_cons (sv 3) (sa_cons (se_tup (sa_cons (sv 6) (sa_cons (sv 7) (sa_cons (se_cmp (so_cNe hu) (sv 5) (se_lst sa_nil)) sa_nil)))) sa_nil))))))))))))))))))
theorem G_width_of (T : TopOk P w K mg base) : DefOk P w K mg base 1 (ga K "width_of") ["part"] DL.f_width_of := by
  obtain ⟨fd, F⟩ := T.d_width_of
  have hN : (["part"] : List Str).Nodup := by decide +kernel
  refine def_ok (N := ["part"]) (ps := ["part"]) (n := 1) F ⟨rfl, rfl, rfl, hN, rfl, by decide +kernel, by decide +kernel⟩ rfl (by decide) (fun _ _ _ _ _ _ us hl => match us, hl with | [_], _ => rfl) fun cdv A outer s H E hr => ?_
  have hu := hr.units
  have tk := takes_of (X := cxOf (L2.CX P w) P w K mg base ["part"] d_width_of.qual (defScope (top 31)) (ga K "width_of") cdv A outer s H E) (E := E) rfl rfl rfl rfl
  unfold DL.b_width_of
  exact (ss_cons (ss_if (st_cmp (so_cEq hu) (se_fld T.C_Part T.n_Part_word (by decide +kernel) (sv 0)) se_str) (ss_one (ss_ret se_int)) ss_nil)
  (ss_cons (ss_if (st_cmp (so_cIn hu) (se_fld T.C_Part T.n_Part_way (by decide +kernel) (sv 0)) (se_tup (sa_cons se_str (sa_cons se_str sa_nil)))) (ss_one (ss_ret se_int)) ss_nil)
  (ss_one (ss_ret (se_if (st_cmp (so_cEq hu) (se_fld T.C_Part T.n_Part_number (by decide +kernel) (sv 0)) se_int) (se_fld T.C_Part T.n_Part_every (by decide +kernel) (sv 0)) (se_fld T.C_Part T.n_Part_number (by decide +kernel) (sv 0)))))))
theorem G_first_wrong (T : TopOk P w K mg base) : DefOk P w K mg base 4 (ga K "first_wrong") ["layers"] DL.f_first_wrong := by
  obtain ⟨fd, F⟩ := T.d_first_wrong
  have hN : (["layers", "whole", "index", "layer", "part"] : List Str).Nodup := by decide +kernel
  refine def_ok (N := ["layers", "whole", "index", "layer", "part"]) (ps := ["layers"]) (n := 5) F ⟨rfl, rfl, rfl, hN, rfl, by decide +kernel, by decide +kernel⟩ rfl (by decide) (fun _ _ _ _ _ _ us hl => match us, hl with | [_], _ => rfl) fun cdv A outer s H E hr => ?_
  have hu := hr.units
  have tk := takes_of (X := cxOf (L2.CX P w) P w K mg base ["layers", "whole", "index", "layer", "part"] d_first_wrong.qual (defScope (top 32)) (ga K "first_wrong") cdv A outer s H E) (E := E) rfl rfl rfl rfl
  unfold DL.b_first_wrong
  exact (ss_cons (ss_asg se_int (sg_name 1 hN))
  (ss_cons (ss_for (si_enum (sa_cons (sv 0) sa_nil) rfl T.bf.enumerate) (sg_tup rfl (sgs_cons (sg_name 2 hN) (sgs_cons (sg_name 3 hN) sgs_nil))) (ss_cons (ss_asg (se_call ((G_part_of T).mono (by decide)) rfl T.g_part_of hr tk (sa_cons (sv 3) sa_nil)) (sg_name 4 hN))
  (ss_cons (ss_if (st_pt (st_or (st_cmp (so_cEq hu) (sv 2) (se_glob T.c_MOST_LAYERS rfl)) (st_or (st_isN (sv 4)) (st_or1 (st_cmp so_cGt (se_bin so_oAdd (sv 1) (se_call ((G_width_of T).mono (by decide)) rfl T.g_width_of hr tk (sa_cons (sv 4) sa_nil))) (se_glob T.c_MOST_WIDTH rfl)))))) (ss_one (ss_ret (sv 2))) ss_nil)
  (ss_one (ss_aug 1 sp_aAdd (se_call ((G_width_of T).mono (by decide)) rfl T.g_width_of hr tk (sa_cons (sv 4) sa_nil)) hN)))) rfl (passes_of rfl))
  (ss_one (ss_ret se_non))))
theorem G_ProgramX_initX (T : TopOk P w K mg base) : DefOk P w K mg base 5 (ma K (ga K "Program") "__init__") ["self", "layers"] DL.f_ProgramX_initX := by
  obtain ⟨fd, F⟩ := T.d_ProgramX_initX
  have hN : (["self", "layers", "wrong"] : List Str).Nodup := by decide +kernel
  refine def_ok (N := ["self", "layers", "wrong"]) (ps := ["self", "layers"]) (n := 3) F ⟨rfl, rfl, rfl, hN, rfl, by decide +kernel, by decide +kernel⟩ rfl (by decide) (fun _ _ _ _ _ _ us hl => match us, hl with | [_, _], _ => rfl) fun cdv A outer s H E hr => ?_
  have hu := hr.units
  have tk := takes_of (X := cxOf (L2.CX P w) P w K mg base ["self", "layers", "wrong"] d_ProgramX_initX.qual (defScope (cls 33 0)) (ma K (ga K "Program") "__init__") cdv A outer s H E) (E := E) rfl rfl rfl rfl
  unfold DL.b_ProgramX_initX
  exact (ss_cons (ss_if (st_pt (st_or (st_not (st_val (se_isi .tuple T.bf.isinstance T.bf.tuple boot_tuple (by rfl) (by rfl) (sv 1)))) (st_or1 (st_cmp (so_cEq hu) (sv 1) (se_tup sa_nil))))) (ss_one ss_bad) ss_nil)
  (ss_cons (ss_asg (se_call ((G_first_wrong T).mono (by decide)) rfl T.g_first_wrong hr tk (sa_cons (sv 1) sa_nil)) (sg_name 2 hN))
  (ss_cons (ss_if (st_notN (sv 2)) (ss_one ss_bad) ss_nil)
  (ss_one (ss_asg (sv 1) (sg_fld T.C_Program T.n_Program_lines (by decide +kernel) (sv 0)))))))
theorem G_Program_read (T : TopOk P w K mg base) : DefOk P w K mg base 7 (He5.wf K (ga K "Program") "classmethod" "read") ["cls", "text"] DL.f_Program_read := by
  obtain ⟨fd, F⟩ := T.d_Program_read
  have hN : (["cls", "text", "lines", "wrong"] : List Str).Nodup := by decide +kernel
  refine def_ok (N := ["cls", "text", "lines", "wrong"]) (ps := ["cls", "text"]) (n := 4) F ⟨rfl, rfl, rfl, hN, rfl, by decide +kernel, by decide +kernel⟩ rfl (by decide) (fun _ _ _ _ _ _ us hl => match us, hl with | [_, _], _ => rfl) fun cdv A outer s H E hr => ?_
  have hu := hr.units
  have tk := takes_of (X := cxOf (L2.CX P w) P w K mg base ["cls", "text", "lines", "wrong"] d_Program_read.qual (defScope (cls 33 1)) (He5.wf K (ga K "Program") "classmethod" "read") cdv A outer s H E) (E := E) rfl rfl rfl rfl
  unfold DL.b_Program_read
  exact (ss_cons (ss_if (st_not (st_val (se_isi .str T.bf.isinstance T.bf.str boot_str (by rfl) (by rfl) (sv 1)))) (ss_one ss_bad) ss_nil)
  (ss_cons (ss_asg (se_m .str PySem.F.plainAttrs_str PySem.F.slot_str_split PySem.F.type_str_split sm_split (sv 1) (sa_cons se_str sa_nil)) (sg_name 2 hN))
  (ss_cons (ss_asg (se_call ((G_first_wrong T).mono (by decide)) rfl T.g_first_wrong hr tk (sa_cons (sv 2) sa_nil)) (sg_name 3 hN))
  (ss_cons (ss_if (st_notN (sv 3)) (ss_one ss_bad) ss_nil)
  (ss_one (ss_ret (se_makeV 0 ((G_ProgramX_initX T).mono (by decide)) T.C_Program T.mk_Program (sa_cons (se_ty sb_tuple T.bf.tuple boot_tuple rfl (sa_cons (sv 2) sa_nil)) sa_nil) hr)))))))
theorem G_program_of (T : TopOk P w K mg base) : DefOk P w K mg base 8 (ga K "program_of") ["value"] DL.f_program_of := by
  obtain ⟨fd, F⟩ := T.d_program_of
  have hN : (["value"] : List Str).Nodup := by decide +kernel
  refine def_ok (N := ["value"]) (ps := ["value"]) (n := 1) F ⟨rfl, rfl, rfl, hN, rfl, by decide +kernel, by decide +kernel⟩ rfl (by decide) (fun _ _ _ _ _ _ us hl => match us, hl with | [_], _ => rfl) fun cdv A outer s H E hr => ?_
  have hu := hr.units
  have tk := takes_of (X := cxOf (L2.CX P w) P w K mg base ["value"] d_program_of.qual (defScope (top 75)) (ga K "program_of") cdv A outer s H E) (E := E) rfl rfl rfl rfl
  unfold DL.b_program_of
  exact (ss_cons (ss_if (st_not (st_val (se_isi .str T.bf.isinstance T.bf.str boot_str (by rfl) (by rfl) (sv 0)))) (ss_one (ss_ret se_non)) ss_nil)
  (ss_one (ss_thru (ss_one (ss_ret (se_callC ((G_Program_read T).mono (by decide)) T.cm_Program_read (sa_cons (sv 0) sa_nil) (by decide +kernel) rfl hr takes0))))))
theorem G_is_integer (T : TopOk P w K mg base) : DefOk P w K mg base 1 (ga K "is_integer") ["value"] DL.f_is_integer := by
  obtain ⟨fd, F⟩ := T.d_is_integer
  have hN : (["value"] : List Str).Nodup := by decide +kernel
  refine def_ok (N := ["value"]) (ps := ["value"]) (n := 1) F ⟨rfl, rfl, rfl, hN, rfl, by decide +kernel, by decide +kernel⟩ rfl (by decide) (fun _ _ _ _ _ _ us hl => match us, hl with | [_], _ => rfl) fun cdv A outer s H E hr => ?_
  have hu := hr.units
  have tk := takes_of (X := cxOf (L2.CX P w) P w K mg base ["value"] d_is_integer.qual (defScope (top 15)) (ga K "is_integer") cdv A outer s H E) (E := E) rfl rfl rfl rfl
  unfold DL.b_is_integer
  exact (ss_one (ss_ret (se_and (se_isi .int T.bf.isinstance T.bf.int boot_int (by rfl) (by rfl) (sv 0)) (se_one (se_not (se_isi .bool T.bf.isinstance T.bf.bool boot_bool (by rfl) (by rfl) (sv 0)))))))
theorem G_is_line (T : TopOk P w K mg base) : DefOk P w K mg base 2 (ga K "is_line") ["value"] DL.f_is_line := by
  obtain ⟨fd, F⟩ := T.d_is_line
  have hN : (["value", "piece", "at"] : List Str).Nodup := by decide +kernel
  refine def_ok (N := ["value", "piece", "at"]) (ps := ["value"]) (n := 3) F ⟨rfl, rfl, rfl, hN, rfl, by decide +kernel, by decide +kernel⟩ rfl (by decide) (fun _ _ _ _ _ _ us hl => match us, hl with | [_], _ => rfl) fun cdv A outer s H E hr => ?_
  have hu := hr.units
  have tk := takes_of (X := cxOf (L2.CX P w) P w K mg base ["value", "piece", "at"] d_is_line.qual (defScope (top 17)) (ga K "is_line") cdv A outer s H E) (E := E) rfl rfl rfl rfl
  unfold DL.b_is_line
  exact (ss_cons (ss_if (st_pt (st_or (st_not (st_val (se_isi .tuple T.bf.isinstance T.bf.tuple boot_tuple (by rfl) (by rfl) (sv 0)))) (st_or (st_cmp (so_cEq hu) (sv 0) (se_tup sa_nil)) (st_or1 (st_not (st_val (se_b (sb_all rfl) T.bf.all boot_all rfl (sa_cons (se_lc [("piece", 1)] rfl hN (si_seq (sv 0)) (fun _ _ _ _ _ => (sg_name 1 hN)) (fun _ _ _ _ _ => sts_nil) (fun _ _ _ _ _ => (se_and (se_call ((G_is_integer T).mono (by decide)) rfl T.g_is_integer hr takes0 (sa_cons (sv 1) sa_nil)) (se_one (se_cmp (so_cNe hu) (sv 1) se_int)))) (blkOk_by (by kernel_rfl))) sa_nil)))))))) (ss_one (ss_ret se_bl)) ss_nil)
  (ss_cons (ss_if (st_cmp so_cGt (se_b (sb_sum rfl) T.bf.sum boot_sum rfl (sa_cons (se_lc [("piece", 1)] rfl hN (si_seq (sv 0)) (fun _ _ _ _ _ => (sg_name 1 hN)) (fun _ _ _ _ _ => sts_nil) (fun _ _ _ _ _ => (se_b sb_abs T.bf.abs boot_abs rfl (sa_cons (sv 1) sa_nil))) (blkOk_by (by kernel_rfl))) sa_nil)) (se_glob T.c_MOST_PLACES rfl)) (ss_one (ss_ret se_bl)) ss_nil)
  (ss_one (ss_ret (se_not (se_b (sb_any rfl) T.bf.any boot_any rfl (sa_cons (se_lc [("at", 2)] rfl hN (si_range2 (sa_cons se_int (sa_cons (se_b sb_len T.bf.len boot_len rfl (sa_cons (sv 0) sa_nil)) sa_nil)) rfl T.bf.range) (fun _ _ _ _ _ => (sg_name 2 hN)) (fun _ _ _ _ _ => sts_nil) (fun _ _ _ _ _ => (se_and (se_cmp so_cLt (se_ix (sv 0) (se_bin so_oSub (sv 2) se_int)) se_int) (se_one (se_cmp so_cLt (se_ix (sv 0) (sv 2)) se_int)))) (blkOk_by (by kernel_rfl))) sa_nil)))))))
theorem G_is_of (T : TopOk P w K mg base) : DefOk P w K mg base 1 (ga K "is_of") ["line", "plan"] DL.f_is_of := by
  obtain ⟨fd, F⟩ := T.d_is_of
  have hN : (["line", "plan", "whole", "piece"] : List Str).Nodup := by decide +kernel
  refine def_ok (N := ["line", "plan", "whole", "piece"]) (ps := ["line", "plan"]) (n := 4) F ⟨rfl, rfl, rfl, hN, rfl, by decide +kernel, by decide +kernel⟩ rfl (by decide) (fun _ _ _ _ _ _ us hl => match us, hl with | [_, _], _ => rfl) fun cdv A outer s H E hr => ?_
  have hu := hr.units
  have tk := takes_of (X := cxOf (L2.CX P w) P w K mg base ["line", "plan", "whole", "piece"] d_is_of.qual (defScope (top 23)) (ga K "is_of") cdv A outer s H E) (E := E) rfl rfl rfl rfl
  unfold DL.b_is_of
  exact (ss_cons (by first | exact (ss_setLc 2 [("piece", 3)] rfl hN (si_seq (sv 0)) (fun _ _ _ _ _ => (sg_name 3 hN)) (fun _ _ _ _ _ => sts_nil) (fun _ _ _ _ _ => (se_cmp so_cGt (sv 3) se_int)) (blkOk_by (by kernel_rfl))) | exact (ss_asg (se_lc [("piece", 3)] rfl hN (si_seq (sv 0)) (fun _ _ _ _ _ => (sg_name 3 hN)) (fun _ _ _ _ _ => sts_nil) (fun _ _ _ _ _ => (se_cmp so_cGt (sv 3) se_int)) (blkOk_by (by kernel_rfl))) (sg_name 2 hN)))
  (ss_cons (ss_if (st_cmp (so_cEq hu) (sv 1) se_str) (ss_one (ss_ret (se_cmp (so_cIn hu) (sv 2) (se_tup (sa_cons (se_lst (sa_cons se_bl sa_nil)) (sa_cons (se_lst (sa_cons se_bl (sa_cons se_bl sa_nil))) sa_nil)))))) ss_nil)
  (ss_cons (ss_if (st_cmp (so_cEq hu) (sv 1) se_str) (ss_one (ss_ret (se_cmp (so_cIn hu) (sv 2) (se_tup (sa_cons (se_lst (sa_cons se_bl sa_nil)) (sa_cons (se_lst (sa_cons se_bl (sa_cons se_bl sa_nil))) sa_nil)))))) ss_nil)
  (ss_cons (ss_if (st_cmp (so_cEq hu) (sv 1) se_str) (ss_one (ss_ret (se_cmp (so_cNin hu) se_bl (sv 2)))) ss_nil)
  (ss_one (ss_ret (se_or (se_cmp (so_cEq hu) (sv 1) se_str) (se_one (se_and (se_ix (sv 2) se_int) (se_one (se_cmp (so_cNin hu) se_bl (se_slice (sv 2) so_none (so_some (se_neg se_int))))))))))))))
theorem G_is_line_of (T : TopOk P w K mg base) : DefOk P w K mg base 3 (ga K "is_line_of") ["value", "plan"] DL.f_is_line_of := by
  obtain ⟨fd, F⟩ := T.d_is_line_of
  have hN : (["value", "plan"] : List Str).Nodup := by decide +kernel
  refine def_ok (N := ["value", "plan"]) (ps := ["value", "plan"]) (n := 2) F ⟨rfl, rfl, rfl, hN, rfl, by decide +kernel, by decide +kernel⟩ rfl (by decide) (fun _ _ _ _ _ _ us hl => match us, hl with | [_, _], _ => rfl) fun cdv A outer s H E hr => ?_
  have hu := hr.units
  have tk := takes_of (X := cxOf (L2.CX P w) P w K mg base ["value", "plan"] d_is_line_of.qual (defScope (top 70)) (ga K "is_line_of") cdv A outer s H E) (E := E) rfl rfl rfl rfl
  unfold DL.b_is_line_of
  exact (ss_one (ss_ret (se_and (se_call ((G_is_line T).mono (by decide)) rfl T.g_is_line hr tk (sa_cons (sv 0) sa_nil)) (se_one (se_call ((G_is_of T).mono (by decide)) rfl T.g_is_of hr tk (sa_cons (sv 0) (sa_cons (sv 1) sa_nil)))))))
theorem G_stretches (T : TopOk P w K mg base) : DefOk P w K mg base 1 (ga K "stretches") ["line"] DL.f_stretches := by
  obtain ⟨fd, F⟩ := T.d_stretches
  have hN : (["line", "found", "begin", "piece"] : List Str).Nodup := by decide +kernel
  refine def_ok (N := ["line", "found", "begin", "piece"]) (ps := ["line"]) (n := 4) F ⟨rfl, rfl, rfl, hN, rfl, by decide +kernel, by decide +kernel⟩ rfl (by decide) (fun _ _ _ _ _ _ us hl => match us, hl with | [_], _ => rfl) fun cdv A outer s H E hr => ?_
  have hu := hr.units
  have tk := takes_of (X := cxOf (L2.CX P w) P w K mg base ["line", "found", "begin", "piece"] d_stretches.qual (defScope (top 20)) (ga K "stretches") cdv A outer s H E) (E := E) rfl rfl rfl rfl
  unfold DL.b_stretches
  exact (ss_cons (by first | exact (ss_par2 rfl (sa_cons (se_lst sa_nil) (sa_cons se_int sa_nil)) hN rfl rfl (by decide) rfl rfl rfl rfl) | exact (ss_asg (se_tup (sa_cons (se_lst sa_nil) (sa_cons se_int sa_nil))) (sg_tup rfl (sgs_cons (sg_name 1 hN) (sgs_cons (sg_name 2 hN) sgs_nil)))))
  (ss_cons (ss_for (si_seq (sv 0)) (sg_name 3 hN) (ss_cons (ss_expr (se_m .lst PySem.F.plainAttrs_list PySem.F.slot_list_append PySem.F.type_list_append sm_append (sv 1) (sa_cons (se_tup (sa_cons (sv 2) (sa_cons (se_bin so_oSub (se_bin so_oAdd (sv 2) (se_b sb_abs T.bf.abs boot_abs rfl (sa_cons (sv 3) sa_nil))) se_int) sa_nil))) sa_nil)))
  (ss_one (ss_aug 2 sp_aAdd (se_b sb_abs T.bf.abs boot_abs rfl (sa_cons (sv 3) sa_nil)) hN))) rfl (passes_of rfl))
  (ss_one (ss_ret (sv 1)))))
theorem G_rows_by_place (T : TopOk P w K mg base) : DefOk P w K mg base 2 (ga K "rows_by_place") ["line"] DL.f_rows_by_place := by
  obtain ⟨fd, F⟩ := T.d_rows_by_place
  have hN : (["line", "found", "piece", "stretch"] : List Str).Nodup := by decide +kernel
  refine def_ok (N := ["line", "found", "piece", "stretch"]) (ps := ["line"]) (n := 4) F ⟨rfl, rfl, rfl, hN, rfl, by decide +kernel, by decide +kernel⟩ rfl (by decide) (fun _ _ _ _ _ _ us hl => match us, hl with | [_], _ => rfl) fun cdv A outer s H E hr => ?_
  have hu := hr.units
  have tk := takes_of (X := cxOf (L2.CX P w) P w K mg base ["line", "found", "piece", "stretch"] d_rows_by_place.qual (defScope (top 22)) (ga K "rows_by_place") cdv A outer s H E) (E := E) rfl rfl rfl rfl
  unfold DL.b_rows_by_place
  exact (ss_cons (ss_asg (se_lst sa_nil) (sg_name 1 hN))
  (ss_cons (ss_for (si_zip (sa_cons (sv 0) (sa_cons (se_call ((G_stretches T).mono (by decide)) rfl T.g_stretches hr tk (sa_cons (sv 0) sa_nil)) sa_nil)) rfl T.bf.zip) (sg_tup rfl (sgs_cons (sg_name 2 hN) (sgs_cons (sg_name 3 hN) sgs_nil))) (ss_one (ss_expr (se_m .lst PySem.F.plainAttrs_list PySem.F.slot_list_extend PySem.F.type_list_extend sm_extend (sv 1) (sa_cons (se_bin so_oMul (se_lst (sa_cons (se_if (st_cmp so_cGt (sv 2) se_int) (sv 3) se_non) sa_nil)) (se_b sb_abs T.bf.abs boot_abs rfl (sa_cons (sv 2) sa_nil))) sa_nil)))) rfl (passes_of rfl))
  (ss_one (ss_ret (sv 1)))))
theorem G_is_within (T : TopOk P w K mg base) : DefOk P w K mg base 2 (ga K "is_within") ["value", "low", "high"] DL.f_is_within := by
  obtain ⟨fd, F⟩ := T.d_is_within
  have hN : (["value", "low", "high"] : List Str).Nodup := by decide +kernel
  refine def_ok (N := ["value", "low", "high"]) (ps := ["value", "low", "high"]) (n := 3) F ⟨rfl, rfl, rfl, hN, rfl, by decide +kernel, by decide +kernel⟩ rfl (by decide) (fun _ _ _ _ _ _ us hl => match us, hl with | [_, _, _], _ => rfl) fun cdv A outer s H E hr => ?_
  have hu := hr.units
  have tk := takes_of (X := cxOf (L2.CX P w) P w K mg base ["value", "low", "high"] d_is_within.qual (defScope (top 16)) (ga K "is_within") cdv A outer s H E) (E := E) rfl rfl rfl rfl
  unfold DL.b_is_within
  exact (ss_one (ss_ret (se_and (se_call ((G_is_integer T).mono (by decide)) rfl T.g_is_integer hr tk (sa_cons (sv 0) sa_nil)) (se_one (se_chain so_cLe so_cLe (sv 1) (sv 0) (sv 2))))))
theorem G_is_place_pair (T : TopOk P w K mg base) : DefOk P w K mg base 4 (ga K "is_place_pair") ["plan", "certificate"] DL.f_is_place_pair := by
  obtain ⟨fd, F⟩ := T.d_is_place_pair
  have hN : (["plan", "certificate", "places", "place"] : List Str).Nodup := by decide +kernel
  refine def_ok (N := ["plan", "certificate", "places", "place"]) (ps := ["plan", "certificate"]) (n := 4) F ⟨rfl, rfl, rfl, hN, rfl, by decide +kernel, by decide +kernel⟩ rfl (by decide) (fun _ _ _ _ _ _ us hl => match us, hl with | [_, _], _ => rfl) fun cdv A outer s H E hr => ?_
  have hu := hr.units
  have tk := takes_of (X := cxOf (L2.CX P w) P w K mg base ["plan", "certificate", "places", "place"] d_is_place_pair.qual (defScope (top 72)) (ga K "is_place_pair") cdv A outer s H E) (E := E) rfl rfl rfl rfl
  unfold DL.b_is_place_pair
  exact (ss_cons (ss_if (st_pt (st_or (st_not (st_val (se_isi .tuple T.bf.isinstance T.bf.tuple boot_tuple (by rfl) (by rfl) (sv 1)))) (st_or (st_cmp (so_cNe hu) (se_b sb_len T.bf.len boot_len rfl (sa_cons (sv 1) sa_nil)) se_int) (st_or1 (st_not (st_val (se_call ((G_is_line_of T).mono (by decide)) rfl T.g_is_line_of hr tk (sa_cons (se_ix (sv 1) se_int) (sa_cons (sv 0) sa_nil))))))))) (ss_one (ss_ret se_bl)) ss_nil)
  (ss_cons (ss_asg (se_call ((G_rows_by_place T).mono (by decide)) rfl T.g_rows_by_place hr tk (sa_cons (se_ix (sv 1) se_int) sa_nil)) (sg_name 2 hN))
  (ss_cons (ss_if (st_not (st_val (se_b (sb_all rfl) T.bf.all boot_all rfl (sa_cons (se_lc [("place", 3)] rfl hN (si_seq (se_slice (sv 1) (so_some se_int) so_none)) (fun _ _ _ _ _ => (sg_name 3 hN)) (fun _ _ _ _ _ => sts_nil) (fun _ _ _ _ _ => (se_call ((G_is_within T).mono (by decide)) rfl T.g_is_within hr takes0 (sa_cons (sv 3) (sa_cons se_int (sa_cons (se_bin so_oSub (se_b sb_len T.bf.len boot_len rfl (sa_cons (sv 2) sa_nil)) se_int) sa_nil))))) (blkOk_by (by kernel_rfl))) sa_nil)))) (ss_one (ss_ret se_bl)) ss_nil)
  (ss_one (ss_ret (se_notN (se_ix (sv 2) (se_ix (sv 1) se_int))))))))
theorem G_check_program (T : TopOk P w K mg base) : DefOk P w K mg base 1 (ga K "check_program") ["value"] DL.f_check_program := by
  obtain ⟨fd, F⟩ := T.d_check_program
  have hN : (["value"] : List Str).Nodup := by decide +kernel
  refine def_ok (N := ["value"]) (ps := ["value"]) (n := 1) F ⟨rfl, rfl, rfl, hN, rfl, by decide +kernel, by decide +kernel⟩ rfl (by decide) (fun _ _ _ _ _ _ us hl => match us, hl with | [_], _ => rfl) fun cdv A outer s H E hr => ?_
  have hu := hr.units
  have tk := takes_of (X := cxOf (L2.CX P w) P w K mg base ["value"] d_check_program.qual (defScope (top 34)) (ga K "check_program") cdv A outer s H E) (E := E) rfl rfl rfl rfl
  unfold DL.b_check_program
  exact (ss_one (ss_if (st_not (st_val (se_isC T.C_Program (by decide +kernel) T.I_Program T.bf.isinstance (by rfl) (by rfl) (sv 0)))) (ss_one ss_bad) ss_nil))
theorem G_check_line (T : TopOk P w K mg base) : DefOk P w K mg base 3 (ga K "check_line") ["line"] DL.f_check_line := by
  obtain ⟨fd, F⟩ := T.d_check_line
  have hN : (["line"] : List Str).Nodup := by decide +kernel
  refine def_ok (N := ["line"]) (ps := ["line"]) (n := 1) F ⟨rfl, rfl, rfl, hN, rfl, by decide +kernel, by decide +kernel⟩ rfl (by decide) (fun _ _ _ _ _ _ us hl => match us, hl with | [_], _ => rfl) fun cdv A outer s H E hr => ?_
  have hu := hr.units
  have tk := takes_of (X := cxOf (L2.CX P w) P w K mg base ["line"] d_check_line.qual (defScope (top 18)) (ga K "check_line") cdv A outer s H E) (E := E) rfl rfl rfl rfl
  unfold DL.b_check_line
  exact (ss_one (ss_if (st_not (st_val (se_call ((G_is_line T).mono (by decide)) rfl T.g_is_line hr tk (sa_cons (sv 0) sa_nil)))) (ss_one ss_bad) ss_nil))
theorem G_check_held (T : TopOk P w K mg base) : DefOk P w K mg base 4 (ga K "check_held") ["program", "line", "rounds"] DL.f_check_held := by
  obtain ⟨fd, F⟩ := T.d_check_held
  have hN : (["program", "line", "rounds"] : List Str).Nodup := by decide +kernel
  refine def_ok (N := ["program", "line", "rounds"]) (ps := ["program", "line", "rounds"]) (n := 3) F ⟨rfl, rfl, rfl, hN, rfl, by decide +kernel, by decide +kernel⟩ rfl (by decide) (fun _ _ _ _ _ _ us hl => match us, hl with | [_, _, _], _ => rfl) fun cdv A outer s H E hr => ?_
  have hu := hr.units
  have tk := takes_of (X := cxOf (L2.CX P w) P w K mg base ["program", "line", "rounds"] d_check_held.qual (defScope (top 58)) (ga K "check_held") cdv A outer s H E) (E := E) rfl rfl rfl rfl
  unfold DL.b_check_held
  exact (ss_cons (ss_expr (se_call ((G_check_program T).mono (by decide)) rfl T.g_check_program hr tk (sa_cons (sv 0) sa_nil)))
  (ss_cons (ss_expr (se_call ((G_check_line T).mono (by decide)) rfl T.g_check_line hr tk (sa_cons (sv 1) sa_nil)))
  (ss_one (ss_if (st_not (st_val (se_call ((G_is_within T).mono (by decide)) rfl T.g_is_within hr tk (sa_cons (sv 2) (sa_cons se_int (sa_cons (se_glob T.c_MOST_ROUNDS rfl) sa_nil)))))) (ss_one ss_bad) ss_nil))))
theorem G_is_looked_at (T : TopOk P w K mg base) : DefOk P w K mg base 1 (ga K "is_looked_at") ["part", "places", "x", "z"] DL.f_is_looked_at := by
  obtain ⟨fd, F⟩ := T.d_is_looked_at
  have hN : (["part", "places", "x", "z", "mine", "distance"] : List Str).Nodup := by decide +kernel
  refine def_ok (N := ["part", "places", "x", "z", "mine", "distance"]) (ps := ["part", "places", "x", "z"]) (n := 6) F ⟨rfl, rfl, rfl, hN, rfl, by decide +kernel, by decide +kernel⟩ rfl (by decide) (fun _ _ _ _ _ _ us hl => match us, hl with | [_, _, _, _], _ => rfl) fun cdv A outer s H E hr => ?_
  have hu := hr.units
  have tk := takes_of (X := cxOf (L2.CX P w) P w K mg base ["part", "places", "x", "z", "mine", "distance"] d_is_looked_at.qual (defScope (top 54)) (ga K "is_looked_at") cdv A outer s H E) (E := E) rfl rfl rfl rfl
  unfold DL.b_is_looked_at
  exact (ss_cons (ss_asg (se_ix (sv 1) (sv 2)) (sg_name 4 hN))
  (ss_cons (ss_if (st_cmp (so_cIn hu) (se_fld T.C_Part T.n_Part_way (by decide +kernel) (sv 0)) (se_tup (sa_cons se_str (sa_cons se_str sa_nil)))) (ss_one (ss_ret (se_and (se_notN (sv 4)) (se_one (se_cmp (so_cEq hu) (sv 3) (se_ix (sv 4) (se_if (st_cmp (so_cEq hu) (se_fld T.C_Part T.n_Part_way (by decide +kernel) (sv 0)) se_str) se_int se_int))))))) ss_nil)
  (ss_cons (ss_if (st_pt (st_and (st_cmp (so_cEq hu) (se_fld T.C_Part T.n_Part_scope (by decide +kernel) (sv 0)) se_str) (st_and1 (st_pt (st_or (st_isN (sv 4)) (st_or1 (st_cmp (so_cNe hu) (se_ix (sv 1) (sv 3)) (sv 4)))))))) (ss_one (ss_ret se_bl)) ss_nil)
  (ss_cons (ss_if (st_pt (st_and (st_cmp (so_cEq hu) (se_fld T.C_Part T.n_Part_scope (by decide +kernel) (sv 0)) se_str) (st_and1 (st_isN (se_ix (sv 1) (sv 3)))))) (ss_one (ss_ret se_bl)) ss_nil)
  (ss_cons (ss_if (st_cmp (so_cIn hu) (se_fld T.C_Part T.n_Part_way (by decide +kernel) (sv 0)) (se_tup (sa_cons se_str (sa_cons se_str sa_nil)))) (ss_one (ss_ret (se_cmp (so_cEq hu) (se_bin so_oSub (sv 3) (sv 2)) (se_if (st_cmp (so_cEq hu) (se_fld T.C_Part T.n_Part_way (by decide +kernel) (sv 0)) se_str) (se_fld T.C_Part T.n_Part_number (by decide +kernel) (sv 0)) (se_neg (se_fld T.C_Part T.n_Part_number (by decide +kernel) (sv 0))))))) ss_nil)
  (ss_cons (ss_if (st_pt (st_or (st_cmp (so_cEq hu) (sv 3) (sv 2)) (st_or (st_pt (st_and (st_cmp (so_cEq hu) (se_fld T.C_Part T.n_Part_way (by decide +kernel) (sv 0)) se_str) (st_and1 (st_cmp so_cGt (sv 3) (sv 2))))) (st_or1 (st_pt (st_and (st_cmp (so_cEq hu) (se_fld T.C_Part T.n_Part_way (by decide +kernel) (sv 0)) se_str) (st_and1 (st_cmp so_cLt (sv 3) (sv 2))))))))) (ss_one (ss_ret se_bl)) ss_nil)
  (ss_cons (ss_asg (se_b sb_abs T.bf.abs boot_abs rfl (sa_cons (se_bin so_oSub (sv 3) (sv 2)) sa_nil)) (sg_name 5 hN))
  (ss_one (ss_ret (se_and (se_cmp (so_cEq hu) (se_bin so_oMod (sv 5) (se_fld T.C_Part T.n_Part_every (by decide +kernel) (sv 0))) se_int) (se_one (se_or (se_cmp (so_cEq hu) (se_fld T.C_Part T.n_Part_number (by decide +kernel) (sv 0)) se_int) (se_one (se_cmp so_cLe (sv 5) (se_fld T.C_Part T.n_Part_number (by decide +kernel) (sv 0))))))))))))))))
theorem G_is_taken (T : TopOk P w K mg base) : DefOk P w K mg base 2 (ga K "is_taken") ["part", "places", "x", "z"] DL.f_is_taken := by
  obtain ⟨fd, F⟩ := T.d_is_taken
  have hN : (["part", "places", "x", "z", "filling"] : List Str).Nodup := by decide +kernel
  refine def_ok (N := ["part", "places", "x", "z", "filling"]) (ps := ["part", "places", "x", "z"]) (n := 5) F ⟨rfl, rfl, rfl, hN, rfl, by decide +kernel, by decide +kernel⟩ rfl (by decide) (fun _ _ _ _ _ _ us hl => match us, hl with | [_, _, _, _], _ => rfl) fun cdv A outer s H E hr => ?_
  have hu := hr.units
  have tk := takes_of (X := cxOf (L2.CX P w) P w K mg base ["part", "places", "x", "z", "filling"] d_is_taken.qual (defScope (top 55)) (ga K "is_taken") cdv A outer s H E) (E := E) rfl rfl rfl rfl
  unfold DL.b_is_taken
  exact (ss_cons (ss_asg (se_isN (se_ix (sv 1) (sv 2))) (sg_name 4 hN))
  (ss_cons (ss_if (st_cmp (so_cEq hu) (se_fld T.C_Part T.n_Part_word (by decide +kernel) (sv 0)) se_str) (ss_one (ss_ret (se_and (se_cmp (so_cEq hu) (sv 2) (sv 3)) (se_one (se_not (sv 4)))))) ss_nil)
  (ss_cons (ss_if (st_pt (st_and (st_val (se_fld T.C_Part T.n_Part_spare (by decide +kernel) (sv 0))) (st_and1 (st_val (sv 4))))) (ss_one (ss_ret (se_cmp (so_cEq hu) (sv 2) (sv 3)))) ss_nil)
  (ss_one (ss_ret (se_or (se_and (se_cmp (so_cEq hu) (sv 2) (sv 3)) (se_one (se_fld T.C_Part T.n_Part_own (by decide +kernel) (sv 0)))) (se_one (se_call ((G_is_looked_at T).mono (by decide)) rfl T.g_is_looked_at hr tk (sa_cons (sv 0) (sa_cons (sv 1) (sa_cons (sv 2) (sa_cons (sv 3) sa_nil))))))))))))
theorem G_taken_by (T : TopOk P w K mg base) : DefOk P w K mg base 3 (ga K "taken_by") ["part", "line"] DL.f_taken_by := by
  obtain ⟨fd, F⟩ := T.d_taken_by
  have hN : (["part", "line", "places", "many", "z", "x"] : List Str).Nodup := by decide +kernel
  refine def_ok (N := ["part", "line", "places", "many", "z", "x"]) (ps := ["part", "line"]) (n := 6) F ⟨rfl, rfl, rfl, hN, rfl, by decide +kernel, by decide +kernel⟩ rfl (by decide) (fun _ _ _ _ _ _ us hl => match us, hl with | [_, _], _ => rfl) fun cdv A outer s H E hr => ?_
  have hu := hr.units
  have tk := takes_of (X := cxOf (L2.CX P w) P w K mg base ["part", "line", "places", "many", "z", "x"] d_taken_by.qual (defScope (top 56)) (ga K "taken_by") cdv A outer s H E) (E := E) rfl rfl rfl rfl
  unfold DL.b_taken_by
  exact (ss_cons (ss_asg (se_call ((G_rows_by_place T).mono (by decide)) rfl T.g_rows_by_place hr tk (sa_cons (sv 1) sa_nil)) (sg_name 2 hN))
  (ss_cons (ss_asg (se_listRg (se_b sb_len T.bf.len boot_len rfl (sa_cons (sv 2) sa_nil)) rfl rfl T.bf.list rfl T.bf.range) (sg_name 3 hN))
  (ss_one (ss_ret (se_lc [("x", 5)] rfl hN (si_seq (sv 3)) (fun _ _ _ _ _ => (sg_name 5 hN)) (fun _ _ _ _ _ => sts_nil) (fun _ _ _ _ _ => (se_lc [("z", 4)] rfl hN (si_seq (sv 3)) (fun _ _ _ _ _ => (sg_name 4 hN)) (fun _ _ _ _ _ => (sts_one (st_val (se_call ((G_is_taken T).mono (by decide)) rfl T.g_is_taken hr takes0 (sa_cons (sv 0) (sa_cons (sv 2) (sa_cons (sv 5) (sa_cons (sv 4) sa_nil)))))))) (fun _ _ _ _ _ => (sv 4)) (blkOk_by (by kernel_rfl)))) (blkOk_by (by kernel_rfl)))))))
theorem G_held_on (T : TopOk P w K mg base) : DefOk P w K mg base 4 (ga K "held_on") ["parts", "line", "rounds"] DL.f_held_on := by
  obtain ⟨fd, F⟩ := T.d_held_on
  have hN : (["parts", "line", "rounds", "steps", "part", "found", "x", "piece", "step", "z", "y", "places"] : List Str).Nodup := by decide +kernel
  refine def_ok (N := ["parts", "line", "rounds", "steps", "part", "found", "x", "piece", "step", "z", "y", "places"]) (ps := ["parts", "line", "rounds"]) (n := 12) F ⟨rfl, rfl, rfl, hN, rfl, by decide +kernel, by decide +kernel⟩ rfl (by decide) (fun _ _ _ _ _ _ us hl => match us, hl with | [_, _, _], _ => rfl) fun cdv A outer s H E hr => ?_
  have hu := hr.units
  have tk := takes_of (X := cxOf (L2.CX P w) P w K mg base ["parts", "line", "rounds", "steps", "part", "found", "x", "piece", "step", "z", "y", "places"] d_held_on.qual (defScope (top 57)) (ga K "held_on") cdv A outer s H E) (E := E) rfl rfl rfl rfl
  unfold DL.b_held_on
  exact (ss_cons (by first | exact (ss_setLc 3 [("part", 4)] rfl hN (si_seq (sv 0)) (fun _ _ _ _ _ => (sg_name 4 hN)) (fun _ _ _ _ _ => sts_nil) (fun _ _ _ _ _ => (se_call ((G_taken_by T).mono (by decide)) rfl T.g_taken_by hr takes0 (sa_cons (sv 4) (sa_cons (sv 1) sa_nil)))) (blkOk_by (by kernel_rfl))) | exact (ss_asg (se_lc [("part", 4)] rfl hN (si_seq (sv 0)) (fun _ _ _ _ _ => (sg_name 4 hN)) (fun _ _ _ _ _ => sts_nil) (fun _ _ _ _ _ => (se_call ((G_taken_by T).mono (by decide)) rfl T.g_taken_by hr takes0 (sa_cons (sv 4) (sa_cons (sv 1) sa_nil)))) (blkOk_by (by kernel_rfl))) (sg_name 3 hN)))
  (ss_cons (by first | exact (ss_setLc 5 [("x", 6)] rfl hN (si_range1 (sa_cons (se_b (sb_sum rfl) T.bf.sum boot_sum rfl (sa_cons (se_lc [("piece", 7)] rfl hN (si_seq (sv 1)) (fun _ _ _ _ _ => (sg_name 7 hN)) (fun _ _ _ _ _ => sts_nil) (fun _ _ _ _ _ => (se_b sb_abs T.bf.abs boot_abs rfl (sa_cons (sv 7) sa_nil))) (blkOk_by (by kernel_rfl))) sa_nil)) sa_nil) rfl T.bf.range) (fun _ _ _ _ _ => (sg_name 6 hN)) (fun _ _ _ _ _ => sts_nil) (fun _ _ _ _ _ => (se_lst (sa_cons (sv 6) sa_nil))) (blkOk_by (by kernel_rfl))) | exact (ss_asg (se_lc [("x", 6)] rfl hN (si_range1 (sa_cons (se_b (sb_sum rfl) T.bf.sum boot_sum rfl (sa_cons (se_lc [("piece", 7)] rfl hN (si_seq (sv 1)) (fun _ _ _ _ _ => (sg_name 7 hN)) (fun _ _ _ _ _ => sts_nil) (fun _ _ _ _ _ => (se_b sb_abs T.bf.abs boot_abs rfl (sa_cons (sv 7) sa_nil))) (blkOk_by (by kernel_rfl))) sa_nil)) sa_nil) rfl T.bf.range) (fun _ _ _ _ _ => (sg_name 6 hN)) (fun _ _ _ _ _ => sts_nil) (fun _ _ _ _ _ => (se_lst (sa_cons (sv 6) sa_nil))) (blkOk_by (by kernel_rfl))) (sg_name 5 hN)))
  (ss_cons (ss_for (si_seq (se_bin so_oMul (sv 3) (sv 2))) (sg_name 8 hN) (ss_one (by first | exact (ss_setLc 5 [("places", 11)] rfl hN (si_seq (sv 8)) (fun _ _ _ _ _ => (sg_name 11 hN)) (fun _ _ _ _ _ => sts_nil) (fun _ _ _ _ _ => (se_sortSet rfl T.bf.sorted T.bf.set (by rfl) (by rfl) (se_lc2 [("z", 9), ("y", 10)] [10] rfl hN (si_seq (sv 11)) (fun _ _ _ _ _ => (sw_sub (by decide) (sg_name 9 hN))) (fun _ _ _ _ _ => sts_nil) (fun _ _ _ _ _ => (si_seq (se_ix (sv 5) (sv 9)))) (fun _ _ _ _ _ => (sg_name 10 hN)) (fun _ _ _ _ _ => sts_nil) (fun _ _ _ _ _ => (sv 10)) (blkOk_by (by kernel_rfl))))) (blkOk_by (by kernel_rfl))) | exact (ss_asg (se_lc [("places", 11)] rfl hN (si_seq (sv 8)) (fun _ _ _ _ _ => (sg_name 11 hN)) (fun _ _ _ _ _ => sts_nil) (fun _ _ _ _ _ => (se_sortSet rfl T.bf.sorted T.bf.set (by rfl) (by rfl) (se_lc2 [("z", 9), ("y", 10)] [10] rfl hN (si_seq (sv 11)) (fun _ _ _ _ _ => (sw_sub (by decide) (sg_name 9 hN))) (fun _ _ _ _ _ => sts_nil) (fun _ _ _ _ _ => (si_seq (se_ix (sv 5) (sv 9)))) (fun _ _ _ _ _ => (sg_name 10 hN)) (fun _ _ _ _ _ => sts_nil) (fun _ _ _ _ _ => (sv 10)) (blkOk_by (by kernel_rfl))))) (blkOk_by (by kernel_rfl))) (sg_name 5 hN)))) rfl (passes_of rfl))
  (ss_one (ss_ret (sv 5))))))
theorem G_Program_layers (T : TopOk P w K mg base) : DefOk P w K mg base 1 (He5.wf K (ga K "Program") "property" "layers") ["self"] DL.f_Program_layers := by
  obtain ⟨fd, F⟩ := T.d_Program_layers
  have hN : (["self"] : List Str).Nodup := by decide +kernel
  refine def_ok (N := ["self"]) (ps := ["self"]) (n := 1) F ⟨rfl, rfl, rfl, hN, rfl, by decide +kernel, by decide +kernel⟩ rfl (by decide) (fun _ _ _ _ _ _ us hl => match us, hl with | [_], _ => rfl) fun cdv A outer s H E hr => ?_
  have hu := hr.units
  have tk := takes_of (X := cxOf (L2.CX P w) P w K mg base ["self"] d_Program_layers.qual (defScope (cls 33 2)) (He5.wf K (ga K "Program") "property" "layers") cdv A outer s H E) (E := E) rfl rfl rfl rfl
  unfold DL.b_Program_layers
  exact (ss_one (ss_ret (se_fld T.C_Program T.n_Program_lines (by decide +kernel) (sv 0))))
theorem G_parts_of (T : TopOk P w K mg base) : DefOk P w K mg base 4 (ga K "parts_of") ["program"] DL.f_parts_of := by
  obtain ⟨fd, F⟩ := T.d_parts_of
  have hN : (["program", "layer"] : List Str).Nodup := by decide +kernel
  refine def_ok (N := ["program", "layer"]) (ps := ["program"]) (n := 2) F ⟨rfl, rfl, rfl, hN, rfl, by decide +kernel, by decide +kernel⟩ rfl (by decide) (fun _ _ _ _ _ _ us hl => match us, hl with | [_], _ => rfl) fun cdv A outer s H E hr => ?_
  have hu := hr.units
  have tk := takes_of (X := cxOf (L2.CX P w) P w K mg base ["program", "layer"] d_parts_of.qual (defScope (top 35)) (ga K "parts_of") cdv A outer s H E) (E := E) rfl rfl rfl rfl
  unfold DL.b_parts_of
  exact (ss_one (ss_ret (se_lc [("layer", 1)] rfl hN (si_seq (se_prop ((G_Program_layers T).mono (by decide)) T.C_Program T.p_Program_layers hr (sv 0))) (fun _ _ _ _ _ => (sg_name 1 hN)) (fun _ _ _ _ _ => sts_nil) (fun _ _ _ _ _ => (se_call ((G_part_of T).mono (by decide)) rfl T.g_part_of hr takes0 (sa_cons (sv 1) sa_nil))) (blkOk_by (by kernel_rfl)))))
theorem G_held (T : TopOk P w K mg base) : DefOkD P w K mg base 5 (ga K "held") ["program", "line", "rounds"] [1] DL.f_held := by
  obtain ⟨fd, F⟩ := T.d_held
  have hN : (["program", "line", "rounds", "places"] : List Str).Nodup := by decide +kernel
  refine def_okD (N := ["program", "line", "rounds", "places"]) (ps := ["program", "line", "rounds"]) (n := 4) F rfl (F.binds0 2 (by simp) rfl fun D doc pm an cdv ct us ks hl hk => match us, ks, hl, hk with | [_, _], [_], _, _ => ⟨_, _, _, _, _, _, rfl, rfl, rfl⟩) ⟨rfl, rfl, rfl, hN, rfl, by decide +kernel, by decide +kernel⟩ rfl (by decide) fun cdv A outer s H E hr => ?_
  have hu := hr.units
  have tk := takes_of (X := cxOf (L2.CX P w) P w K mg base ["program", "line", "rounds", "places"] d_held.qual (defScope (top 59)) (ga K "held") cdv A outer s H E) (E := E) rfl rfl rfl rfl
  unfold DL.b_held
  exact (ss_cons (ss_expr (se_call ((G_check_held T).mono (by decide)) rfl T.g_check_held hr tk (sa_cons (sv 0) (sa_cons (sv 1) (sa_cons (sv 2) sa_nil)))))
  (ss_one (ss_ret (se_ty sb_tuple T.bf.tuple boot_tuple rfl (sa_cons (se_lc [("places", 3)] rfl hN (si_seq (se_call ((G_held_on T).mono (by decide)) rfl T.g_held_on hr tk (sa_cons (se_call ((G_parts_of T).mono (by decide)) rfl T.g_parts_of hr tk (sa_cons (sv 0) sa_nil)) (sa_cons (sv 1) (sa_cons (sv 2) sa_nil))))) (fun _ _ _ _ _ => (sg_name 3 hN)) (fun _ _ _ _ _ => sts_nil) (fun _ _ _ _ _ => (se_ty sb_tuple T.bf.tuple boot_tuple rfl (sa_cons (sv 3) sa_nil))) (blkOk_by (by kernel_rfl))) sa_nil)))))
theorem G_letters (T : TopOk P w K mg base) : DefOk P w K mg base 4 (ga K "letters") ["line"] DL.f_letters := by
  obtain ⟨fd, F⟩ := T.d_letters
  have hN : (["line", "piece"] : List Str).Nodup := by decide +kernel
  refine def_ok (N := ["line", "piece"]) (ps := ["line"]) (n := 2) F ⟨rfl, rfl, rfl, hN, rfl, by decide +kernel, by decide +kernel⟩ rfl (by decide) (fun _ _ _ _ _ _ us hl => match us, hl with | [_], _ => rfl) fun cdv A outer s H E hr => ?_
  have hu := hr.units
  have tk := takes_of (X := cxOf (L2.CX P w) P w K mg base ["line", "piece"] d_letters.qual (defScope (top 19)) (ga K "letters") cdv A outer s H E) (E := E) rfl rfl rfl rfl
  unfold DL.b_letters
  exact (ss_cons (ss_expr (se_call ((G_check_line T).mono (by decide)) rfl T.g_check_line hr tk (sa_cons (sv 0) sa_nil)))
  (ss_one (ss_ret (se_m .str PySem.F.plainAttrs_str PySem.F.slot_str_join PySem.F.type_str_join sm_join se_str (sa_cons (se_lc [("piece", 1)] rfl hN (si_seq (sv 0)) (fun _ _ _ _ _ => (sg_name 1 hN)) (fun _ _ _ _ _ => sts_nil) (fun _ _ _ _ _ => (se_if (st_cmp so_cGt (sv 1) se_int) (se_bin so_oAdd se_str (se_bin so_oMulS se_str (se_bin so_oSub (sv 1) se_int))) (se_bin so_oMulS se_str (se_neg (sv 1))))) (blkOk_by (by kernel_rfl))) sa_nil)))))
theorem G_rows (T : TopOk P w K mg base) : DefOk P w K mg base 4 (ga K "rows") ["line"] DL.f_rows := by
  obtain ⟨fd, F⟩ := T.d_rows
  have hN : (["line", "piece", "stretch"] : List Str).Nodup := by decide +kernel
  refine def_ok (N := ["line", "piece", "stretch"]) (ps := ["line"]) (n := 3) F ⟨rfl, rfl, rfl, hN, rfl, by decide +kernel, by decide +kernel⟩ rfl (by decide) (fun _ _ _ _ _ _ us hl => match us, hl with | [_], _ => rfl) fun cdv A outer s H E hr => ?_
  have hu := hr.units
  have tk := takes_of (X := cxOf (L2.CX P w) P w K mg base ["line", "piece", "stretch"] d_rows.qual (defScope (top 21)) (ga K "rows") cdv A outer s H E) (E := E) rfl rfl rfl rfl
  unfold DL.b_rows
  exact (ss_cons (ss_expr (se_call ((G_check_line T).mono (by decide)) rfl T.g_check_line hr tk (sa_cons (sv 0) sa_nil)))
  (ss_one (ss_ret (se_ty sb_tuple T.bf.tuple boot_tuple rfl (sa_cons (se_lc [("piece", 1), ("stretch", 2)] rfl hN (si_zip (sa_cons (sv 0) (sa_cons (se_call ((G_stretches T).mono (by decide)) rfl T.g_stretches hr tk (sa_cons (sv 0) sa_nil)) sa_nil)) rfl T.bf.zip) (fun _ _ _ _ _ => (sg_tup rfl (sgs_cons (sg_name 1 hN) (sgs_cons (sg_name 2 hN) sgs_nil)))) (fun _ _ _ _ _ => (sts_one (st_cmp so_cGt (sv 1) se_int))) (fun _ _ _ _ _ => (sv 2)) (blkOk_by (by kernel_rfl))) sa_nil)))))
theorem G_alone (T : TopOk P w K mg base) : DefOkD P w K mg base 5 (ga K "alone") ["program", "line", "rounds"] [1] DL.f_alone := by
  obtain ⟨fd, F⟩ := T.d_alone
  have hN : (["program", "line", "rounds", "found", "first", "last", "place", "held_there", "y"] : List Str).Nodup := by decide +kernel
  refine def_okD (N := ["program", "line", "rounds", "found", "first", "last", "place", "held_there", "y"]) (ps := ["program", "line", "rounds"]) (n := 9) F rfl (F.binds0 2 (by simp) rfl fun D doc pm an cdv ct us ks hl hk => match us, ks, hl, hk with | [_, _], [_], _, _ => ⟨_, _, _, _, _, _, rfl, rfl, rfl⟩) ⟨rfl, rfl, rfl, hN, rfl, by decide +kernel, by decide +kernel⟩ rfl (by decide) fun cdv A outer s H E hr => ?_
  have hu := hr.units
  have tk := takes_of (X := cxOf (L2.CX P w) P w K mg base ["program", "line", "rounds", "found", "first", "last", "place", "held_there", "y"] d_alone.qual (defScope (top 60)) (ga K "alone") cdv A outer s H E) (E := E) rfl rfl rfl rfl
  unfold DL.b_alone
  exact (ss_cons (ss_expr (se_call ((G_check_held T).mono (by decide)) rfl T.g_check_held hr tk (sa_cons (sv 0) (sa_cons (sv 1) (sa_cons (sv 2) sa_nil)))))
  (ss_cons (ss_asg (se_bin so_oMul (se_lst (sa_cons (se_tup sa_nil) sa_nil)) (se_b sb_len T.bf.len boot_len rfl (sa_cons (se_call ((G_letters T).mono (by decide)) rfl T.g_letters hr tk (sa_cons (sv 1) sa_nil)) sa_nil))) (sg_name 3 hN))
  (ss_cons (ss_for (si_seq (se_call ((G_rows T).mono (by decide)) rfl T.g_rows hr tk (sa_cons (sv 1) sa_nil))) (sg_tup rfl (sgs_cons (sg_name 4 hN) (sgs_cons (sg_name 5 hN) sgs_nil))) (ss_one (ss_for (si_enum (sa_cons (se_call ((G_held_on T).mono (by decide)) rfl T.g_held_on hr tk (sa_cons (se_call ((G_parts_of T).mono (by decide)) rfl T.g_parts_of hr tk (sa_cons (sv 0) sa_nil)) (sa_cons (se_tup (sa_cons (se_bin so_oAdd (se_bin so_oSub (sv 5) (sv 4)) se_int) sa_nil)) (sa_cons (sv 2) sa_nil)))) sa_nil) rfl T.bf.enumerate) (sg_tup rfl (sgs_cons (sg_name 6 hN) (sgs_cons (sg_name 7 hN) sgs_nil))) (ss_one (ss_asg (se_ty sb_tuple T.bf.tuple boot_tuple rfl (sa_cons (se_lc [("y", 8)] rfl hN (si_seq (sv 7)) (fun _ _ _ _ _ => (sg_name 8 hN)) (fun _ _ _ _ _ => sts_nil) (fun _ _ _ _ _ => (se_bin so_oAdd (sv 4) (sv 8))) (blkOk_by (by kernel_rfl))) sa_nil)) (sg_sub (sv 3) (se_bin so_oAdd (sv 4) (sv 6))))) rfl (passes_of rfl))) rfl (passes_of rfl))
  (ss_one (ss_ret (se_ty sb_tuple T.bf.tuple boot_tuple rfl (sa_cons (sv 3) sa_nil)))))))
theorem G_shows_more (T : TopOk P w K mg base) : DefOk P w K mg base 6 (ga K "shows_more") ["program", "plan", "certificate"] DL.f_shows_more := by
  obtain ⟨fd, F⟩ := T.d_shows_more
  have hN : (["program", "plan", "certificate", "line", "x", "y"] : List Str).Nodup := by decide +kernel
  refine def_ok (N := ["program", "plan", "certificate", "line", "x", "y"]) (ps := ["program", "plan", "certificate"]) (n := 6) F ⟨rfl, rfl, rfl, hN, rfl, by decide +kernel, by decide +kernel⟩ rfl (by decide) (fun _ _ _ _ _ _ us hl => match us, hl with | [_, _, _], _ => rfl) fun cdv A outer s H E hr => ?_
  have hu := hr.units
  have tk := takes_of (X := cxOf (L2.CX P w) P w K mg base ["program", "plan", "certificate", "line", "x", "y"] d_shows_more.qual (defScope (top 74)) (ga K "shows_more") cdv A outer s H E) (E := E) rfl rfl rfl rfl
  unfold DL.b_shows_more
  exact (ss_cons (ss_if (st_not (st_val (se_call ((G_is_place_pair T).mono (by decide)) rfl T.g_is_place_pair hr tk (sa_cons (sv 1) (sa_cons (sv 2) sa_nil))))) (ss_one (ss_ret se_bl)) ss_nil)
  (ss_cons (ss_asg (sv 2) (sg_tup rfl (sgs_cons (sg_name 3 hN) (sgs_cons (sg_name 4 hN) (sgs_cons (sg_name 5 hN) sgs_nil)))))
  (ss_one (ss_ret (se_and (se_cmp (so_cIn hu) (sv 5) (se_ix (se_callD ((G_held T).mono (by decide)) rfl rfl T.g_held hr tk (sa_cons (sv 0) (sa_cons (sv 3) sa_nil))) (sv 4))) (se_one (se_cmp (so_cNin hu) (sv 5) (se_ix (se_callD ((G_alone T).mono (by decide)) rfl rfl T.g_alone hr tk (sa_cons (sv 0) (sa_cons (sv 3) sa_nil))) (sv 4)))))))))
theorem G_shows_unlike (T : TopOk P w K mg base) : DefOk P w K mg base 6 (ga K "shows_unlike") ["one", "other", "plan", "certificate"] DL.f_shows_unlike := by
  obtain ⟨fd, F⟩ := T.d_shows_unlike
  have hN : (["one", "other", "plan", "certificate", "line", "x", "y"] : List Str).Nodup := by decide +kernel
  refine def_ok (N := ["one", "other", "plan", "certificate", "line", "x", "y"]) (ps := ["one", "other", "plan", "certificate"]) (n := 7) F ⟨rfl, rfl, rfl, hN, rfl, by decide +kernel, by decide +kernel⟩ rfl (by decide) (fun _ _ _ _ _ _ us hl => match us, hl with | [_, _, _, _], _ => rfl) fun cdv A outer s H E hr => ?_
  have hu := hr.units
  have tk := takes_of (X := cxOf (L2.CX P w) P w K mg base ["one", "other", "plan", "certificate", "line", "x", "y"] d_shows_unlike.qual (defScope (top 73)) (ga K "shows_unlike") cdv A outer s H E) (E := E) rfl rfl rfl rfl
  unfold DL.b_shows_unlike
  exact (ss_cons (ss_if (st_not (st_val (se_call ((G_is_place_pair T).mono (by decide)) rfl T.g_is_place_pair hr tk (sa_cons (sv 2) (sa_cons (sv 3) sa_nil))))) (ss_one (ss_ret se_bl)) ss_nil)
  (ss_cons (ss_asg (sv 3) (sg_tup rfl (sgs_cons (sg_name 4 hN) (sgs_cons (sg_name 5 hN) (sgs_cons (sg_name 6 hN) sgs_nil)))))
  (ss_one (ss_ret (se_cmp (so_cNe hu) (se_cmp (so_cIn hu) (sv 6) (se_ix (se_callD ((G_held T).mono (by decide)) rfl rfl T.g_held hr tk (sa_cons (sv 0) (sa_cons (sv 4) sa_nil))) (sv 5))) (se_cmp (so_cIn hu) (sv 6) (se_ix (se_callD ((G_held T).mono (by decide)) rfl rfl T.g_held hr tk (sa_cons (sv 1) (sa_cons (sv 4) sa_nil))) (sv 5))))))))
theorem G_accepts (T : TopOk P w K mg base) : DefOk P w K mg base 9 (ga K "accepts") ["claim", "certificate"] DL.f_accepts := by
  obtain ⟨fd, F⟩ := T.d_accepts
  have hN : (["claim", "certificate", "word", "plan", "program", "other", "kind", "parts"] : List Str).Nodup := by decide +kernel
  refine def_ok (N := ["claim", "certificate", "word", "plan", "program", "other", "kind", "parts"]) (ps := ["claim", "certificate"]) (n := 8) F ⟨rfl, rfl, rfl, hN, rfl, by decide +kernel, by decide +kernel⟩ rfl (by decide) (fun _ _ _ _ _ _ us hl => match us, hl with | [_, _], _ => rfl) fun cdv A outer s H E hr => ?_
  have hu := hr.units
  have tk := takes_of (X := cxOf (L2.CX P w) P w K mg base ["claim", "certificate", "word", "plan", "program", "other", "kind", "parts"] d_accepts.qual (defScope (top 76)) (ga K "accepts") cdv A outer s H E) (E := E) rfl rfl rfl rfl
  unfold DL.b_accepts
  exact (ss_cons (ss_if (st_pt (st_or (st_not (st_val (se_isi .tuple T.bf.isinstance T.bf.tuple boot_tuple (by rfl) (by rfl) (sv 0)))) (st_or (st_cmp (so_cEq hu) (sv 0) (se_tup sa_nil)) (st_or1 (st_not (st_val (se_isi .str T.bf.isinstance T.bf.str boot_str (by rfl) (by rfl) (se_ix (sv 0) se_int)))))))) (ss_one (ss_ret se_bl)) ss_nil)
  (ss_cons (by first | exact (ss_par2 rfl (sa_cons (se_ix (sv 0) se_int) (sa_cons (se_ix (sv 0) (se_neg se_int)) sa_nil)) hN rfl rfl (by decide) rfl rfl rfl rfl) | exact (ss_asg (se_tup (sa_cons (se_ix (sv 0) se_int) (sa_cons (se_ix (sv 0) (se_neg se_int)) sa_nil))) (sg_tup rfl (sgs_cons (sg_name 2 hN) (sgs_cons (sg_name 3 hN) sgs_nil)))))
  (ss_cons (ss_if (st_pt (st_or (st_cmp (so_cNe hu) (se_getC T.t_SIZES (sv 2) se_int rfl) (se_b sb_len T.bf.len boot_len rfl (sa_cons (sv 0) sa_nil))) (st_or (st_not (st_val (se_isi .str T.bf.isinstance T.bf.str boot_str (by rfl) (by rfl) (sv 3)))) (st_or1 (st_cmp (so_cNin hu) (sv 3) (se_glob T.c_PLANS rfl)))))) (ss_one (ss_ret se_bl)) ss_nil)
  (ss_cons (ss_asg (se_call ((G_program_of T).mono (by decide)) rfl T.g_program_of hr tk (sa_cons (se_ix (sv 0) se_int) sa_nil)) (sg_name 4 hN))
  (ss_cons (ss_if (st_isN (sv 4)) (ss_one (ss_ret se_bl)) ss_nil)
  (ss_cons (ss_if (st_cmp (so_cEq hu) (sv 2) se_str) (ss_one (ss_ret (se_call ((G_shows_more T).mono (by decide)) rfl T.g_shows_more hr tk (sa_cons (sv 4) (sa_cons (sv 3) (sa_cons (sv 1) sa_nil)))))) ss_nil)
  (ss_cons (ss_if (st_cmp (so_cEq hu) (sv 2) se_str) (ss_cons (ss_asg (se_call ((G_program_of T).mono (by decide)) rfl T.g_program_of hr tk (sa_cons (se_ix (sv 0) se_int) sa_nil)) (sg_name 5 hN))
  (ss_one (ss_ret (se_and (se_notN (sv 5)) (se_one (se_call ((G_shows_unlike T).mono (by decide)) rfl T.g_shows_unlike hr tk (sa_cons (sv 4) (sa_cons (sv 5) (sa_cons (sv 3) (sa_cons (sv 1) sa_nil)))))))))) ss_nil)
  (ss_cons (by first | exact (ss_par2 rfl (sa_cons (se_ix (sv 0) se_int) (sa_cons (se_call ((G_parts_of T).mono (by decide)) rfl T.g_parts_of hr tk (sa_cons (sv 4) sa_nil)) sa_nil)) hN rfl rfl (by decide) rfl rfl rfl rfl) | exact (ss_asg (se_tup (sa_cons (se_ix (sv 0) se_int) (sa_cons (se_call ((G_parts_of T).mono (by decide)) rfl T.g_parts_of hr tk (sa_cons (sv 4) sa_nil)) sa_nil))) (sg_tup rfl (sgs_cons (sg_name 6 hN) (sgs_cons (sg_name 7 hN) sgs_nil)))))
  (ss_cons (ss_if (st_pt (st_or (st_not (st_val (se_isi .str T.bf.isinstance T.bf.str boot_str (by rfl) (by rfl) (sv 6)))) (st_or1 (st_cmp (so_cNin hu) (sv 6) (se_glob T.c_KINDS rfl))))) (ss_one (ss_ret se_bl)) ss_nil)
  (ss_cons (ss_if (st_cmp (so_cEq hu) (sv 2) se_str) (ss_one (ss_ret se_bad)) ss_nil)
  (ss_cons (ss_if (st_cmp (so_cEq hu) (sv 2) se_str) (ss_one (ss_ret se_bad)) ss_nil)
  (ss_one (ss_ret se_bad)))))))))))))
theorem G__law_judged_right (T : TopOk P w K mg base) : DefOk P w K mg base 10 (ga K "_law_judged_right") ["spring"] DL.f__law_judged_right := by
  obtain ⟨fd, F⟩ := T.d__law_judged_right
  have hN : (["spring", "rooms", "layers", "laid", "other", "room", "text", "run", "layer", "track", "pairs", "x", "y", "paper", "saying", "due"] : List Str).Nodup := by decide +kernel
  refine def_ok (N := ["spring", "rooms", "layers", "laid", "other", "room", "text", "run", "layer", "track", "pairs", "x", "y", "paper", "saying", "due"]) (ps := ["spring"]) (n := 16) F ⟨rfl, rfl, rfl, hN, rfl, by decide +kernel, by decide +kernel⟩ rfl (by decide) (fun _ _ _ _ _ _ us hl => match us, hl with | [_], _ => rfl) fun cdv A outer s H E hr => ?_
  have hu := hr.units
  have tk := takes_of (X := cxOf (L2.CX P w) P w K mg base ["spring", "rooms", "layers", "laid", "other", "room", "text", "run", "layer", "track", "pairs", "x", "y", "paper", "saying", "due"] d__law_judged_right.qual (defScope (top 98)) (ga K "_law_judged_right") cdv A outer s H E) (E := E) rfl rfl rfl rfl
  unfold DL.b__law_judged_right
  exact (ss_cons (ss_asg (se_ix (se_lst (sa_cons (se_lst (sa_cons se_int sa_nil)) (sa_cons (se_lst (sa_cons se_int (sa_cons se_int sa_nil))) (sa_cons (se_lst (sa_cons se_int (sa_cons se_int sa_nil))) (sa_cons (se_lst (sa_cons se_int (sa_cons se_int (sa_cons se_int sa_nil)))) (sa_cons (se_lst (sa_cons se_int (sa_cons se_int (sa_cons se_int sa_nil)))) sa_nil)))))) (se_call ((G__law_take T).mono (by decide)) rfl T.gXlaw_take hr tk (sa_cons (sv 0) (sa_cons se_int sa_nil)))) (sg_name 1 hN))
  (ss_cons (by first | exact (ss_par3 rfl (sa_cons (se_lc [("room", 5)] rfl hN (si_seq (sv 1)) (fun _ _ _ _ _ => (sg_name 5 hN)) (fun _ _ _ _ _ => sts_nil) (fun _ _ _ _ _ => (se_call ((G__law_layer T).mono (by decide)) rfl T.gXlaw_layer hr takes0 (sa_cons (sv 0) (sa_cons (sv 5) sa_nil)))) (blkOk_by (by kernel_rfl))) (sa_cons (se_call ((G__law_plan T).mono (by decide)) rfl T.gXlaw_plan hr tk (sa_cons (sv 0) sa_nil)) (sa_cons se_non sa_nil))) hN rfl rfl rfl (by decide) (by decide) (by decide) rfl rfl rfl rfl rfl) | exact (ss_asg (se_tup (sa_cons (se_lc [("room", 5)] rfl hN (si_seq (sv 1)) (fun _ _ _ _ _ => (sg_name 5 hN)) (fun _ _ _ _ _ => sts_nil) (fun _ _ _ _ _ => (se_call ((G__law_layer T).mono (by decide)) rfl T.gXlaw_layer hr takes0 (sa_cons (sv 0) (sa_cons (sv 5) sa_nil)))) (blkOk_by (by kernel_rfl))) (sa_cons (se_call ((G__law_plan T).mono (by decide)) rfl T.gXlaw_plan hr tk (sa_cons (sv 0) sa_nil)) (sa_cons se_non sa_nil)))) (sg_tup rfl (sgs_cons (sg_name 2 hN) (sgs_cons (sg_name 3 hN) (sgs_cons (sg_name 4 hN) sgs_nil))))))
  (ss_cons (by first | exact (ss_par2 rfl (sa_cons (se_m .str PySem.F.plainAttrs_str PySem.F.slot_str_join PySem.F.type_str_join sm_join se_str (sa_cons (se_lc [("layer", 8)] rfl hN (si_seq (sv 2)) (fun _ _ _ _ _ => (sg_name 8 hN)) (fun _ _ _ _ _ => sts_nil) (fun _ _ _ _ _ => (se_call ((G__law_text T).mono (by decide)) rfl T.gXlaw_text hr takes0 (sa_cons (sv 8) sa_nil))) (blkOk_by (by kernel_rfl))) sa_nil)) (sa_cons (se_call ((G__law_line T).mono (by decide)) rfl T.gXlaw_line hr tk (sa_cons (sv 0) (sa_cons (sv 3) sa_nil))) sa_nil)) hN rfl rfl (by decide) rfl rfl rfl rfl) | exact (ss_asg (se_tup (sa_cons (se_m .str PySem.F.plainAttrs_str PySem.F.slot_str_join PySem.F.type_str_join sm_join se_str (sa_cons (se_lc [("layer", 8)] rfl hN (si_seq (sv 2)) (fun _ _ _ _ _ => (sg_name 8 hN)) (fun _ _ _ _ _ => sts_nil) (fun _ _ _ _ _ => (se_call ((G__law_text T).mono (by decide)) rfl T.gXlaw_text hr takes0 (sa_cons (sv 8) sa_nil))) (blkOk_by (by kernel_rfl))) sa_nil)) (sa_cons (se_call ((G__law_line T).mono (by decide)) rfl T.gXlaw_line hr tk (sa_cons (sv 0) (sa_cons (sv 3) sa_nil))) sa_nil))) (sg_tup rfl (sgs_cons (sg_name 6 hN) (sgs_cons (sg_name 7 hN) sgs_nil)))))
  (ss_cons (ss_if (st_cmp (so_cEq hu) (se_call ((G__law_take T).mono (by decide)) rfl T.gXlaw_take hr tk (sa_cons (sv 0) (sa_cons se_int sa_nil))) se_int) (ss_cons (ss_asg (se_ty sb_list T.bf.list boot_list rfl (sa_cons (sv 2) sa_nil)) (sg_name 4 hN))
  (ss_one (ss_asg (se_call ((G__law_layer T).mono (by decide)) rfl T.gXlaw_layer hr tk (sa_cons (sv 0) (sa_cons se_int sa_nil))) (sg_sub (sv 4) (se_call ((G__law_take T).mono (by decide)) rfl T.gXlaw_take hr tk (sa_cons (sv 0) (sa_cons (se_b sb_len T.bf.len boot_len rfl (sa_cons (sv 1) sa_nil)) sa_nil))))))) ss_nil)
  (ss_cons (ss_asg (se_call ((G__law_rows T).mono (by decide)) rfl T.gXlaw_rows hr tk (sa_cons (sv 7) sa_nil)) (sg_name 9 hN))
  (ss_cons (ss_asg (se_call ((G__law_pairs T).mono (by decide)) rfl T.gXlaw_pairs hr tk (sa_cons (sv 2) (sa_cons (sv 4) (sa_cons (sv 9) sa_nil)))) (sg_name 10 hN))
  (ss_cons (by first | exact (ss_par2 rfl (sa_cons (se_call ((G__law_take T).mono (by decide)) rfl T.gXlaw_take hr tk (sa_cons (sv 0) (sa_cons (se_b sb_len T.bf.len boot_len rfl (sa_cons (sv 9) sa_nil)) sa_nil))) (sa_cons (se_call ((G__law_take T).mono (by decide)) rfl T.gXlaw_take hr tk (sa_cons (sv 0) (sa_cons (se_b sb_len T.bf.len boot_len rfl (sa_cons (sv 9) sa_nil)) sa_nil))) sa_nil)) hN rfl rfl (by decide) rfl rfl rfl rfl) | exact (ss_asg (se_tup (sa_cons (se_call ((G__law_take T).mono (by decide)) rfl T.gXlaw_take hr tk (sa_cons (sv 0) (sa_cons (se_b sb_len T.bf.len boot_len rfl (sa_cons (sv 9) sa_nil)) sa_nil))) (sa_cons (se_call ((G__law_take T).mono (by decide)) rfl T.gXlaw_take hr tk (sa_cons (sv 0) (sa_cons (se_b sb_len T.bf.len boot_len rfl (sa_cons (sv 9) sa_nil)) sa_nil))) sa_nil))) (sg_tup rfl (sgs_cons (sg_name 11 hN) (sgs_cons (sg_name 12 hN) sgs_nil)))))
  (ss_cons (ss_if (st_pt (st_and (st_cmp (so_cNe hu) (sv 10) (se_lst sa_nil)) (st_and1 (st_cmp so_cGt (se_call ((G__law_take T).mono (by decide)) rfl T.gXlaw_take hr tk (sa_cons (sv 0) (sa_cons se_int sa_nil))) se_int)))) (ss_one (ss_asg (se_ix (sv 10) (se_call ((G__law_take T).mono (by decide)) rfl T.gXlaw_take hr tk (sa_cons (sv 0) (sa_cons (se_b sb_len T.bf.len boot_len rfl (sa_cons (sv 10) sa_nil)) sa_nil)))) (sg_tup rfl (sgs_cons (sg_name 11 hN) (sgs_cons (sg_name 12 hN) sgs_nil))))) ss_nil)
  (ss_cons (ss_asg (se_if (st_cmp (so_cEq hu) (se_call ((G__law_take T).mono (by decide)) rfl T.gXlaw_take hr tk (sa_cons (sv 0) (sa_cons se_int sa_nil))) se_int) (se_tup (sa_cons (sv 7) (sa_cons (sv 11) (sa_cons (sv 12) sa_nil)))) (se_call ((G__law_bent T).mono (by decide)) rfl T.gXlaw_bent hr tk (sa_cons (sv 0) (sa_cons (se_tup (sa_cons (sv 7) (sa_cons (sv 11) (sa_cons (sv 12) sa_nil)))) sa_nil)))) (sg_name 13 hN))
  (ss_cons (ss_if (st_cmp (so_cEq hu) (se_call ((G__law_take T).mono (by decide)) rfl T.gXlaw_take hr tk (sa_cons (sv 0) (sa_cons se_int sa_nil))) se_int) (ss_one (ss_asg (se_call ((G__law_plan T).mono (by decide)) rfl T.gXlaw_plan hr tk (sa_cons (sv 0) sa_nil)) (sg_name 3 hN))) ss_nil)
  (ss_cons (ss_asg (se_tup (sa_cons se_str (sa_cons (sv 6) (sa_cons (sv 3) sa_nil)))) (sg_name 14 hN))
  (ss_cons (ss_if (st_notN (sv 4)) (ss_one (ss_asg (se_tup (sa_cons se_str (sa_cons (sv 6) (sa_cons (se_m .str PySem.F.plainAttrs_str PySem.F.slot_str_join PySem.F.type_str_join sm_join se_str (sa_cons (se_lc [("layer", 8)] rfl hN (si_seq (sv 4)) (fun _ _ _ _ _ => (sg_name 8 hN)) (fun _ _ _ _ _ => sts_nil) (fun _ _ _ _ _ => (se_call ((G__law_text T).mono (by decide)) rfl T.gXlaw_text hr takes0 (sa_cons (sv 8) sa_nil))) (blkOk_by (by kernel_rfl))) sa_nil)) (sa_cons (sv 3) sa_nil))))) (sg_name 14 hN))) ss_nil)
  (ss_cons (ss_asg (se_call ((G__law_shows T).mono (by decide)) rfl T.gXlaw_shows hr tk (sa_cons (sv 2) (sa_cons (sv 4) (sa_cons (sv 3) (sa_cons (sv 13) sa_nil))))) (sg_name 15 hN))
  (ss_one (ss_ret (se_cmp (so_cEq hu) (se_b sb_reprB T.bf.repr boot_repr rfl (sa_cons (se_call ((G_accepts T).mono (by decide)) rfl T.g_accepts hr tk (sa_cons (sv 14) (sa_cons (sv 13) sa_nil))) sa_nil)) (se_b sb_reprB T.bf.repr boot_repr rfl (sa_cons (sv 15) sa_nil))))))))))))))))))
theorem G_law (T : TopOk P w K mg base) : DefOk P w K mg base 11 (ga K "law") ["script"] DL.f_law := by
  obtain ⟨fd, F⟩ := T.d_law
  have hN : (["script", "at", "spring"] : List Str).Nodup := by decide +kernel
  refine def_ok (N := ["script", "at", "spring"]) (ps := ["script"]) (n := 3) F ⟨rfl, rfl, rfl, hN, rfl, by decide +kernel, by decide +kernel⟩ rfl (by decide) (fun _ _ _ _ _ _ us hl => match us, hl with | [_], _ => rfl) fun cdv A outer s H E hr => ?_
  have hu := hr.units
  have tk := takes_of (X := cxOf (L2.CX P w) P w K mg base ["script", "at", "spring"] d_law.qual (defScope (top 99)) (ga K "law") cdv A outer s H E) (E := E) rfl rfl rfl rfl
  unfold DL.b_law
  exact (ss_cons (ss_for (si_range1 (sa_cons (se_b (sb_max2 rfl) T.bf.max boot_max rfl (sa_cons se_int (sa_cons (se_b (sb_min2 rfl) T.bf.min boot_min rfl (sa_cons (se_b sb_len T.bf.len boot_len rfl (sa_cons (sv 0) sa_nil)) (sa_cons se_int sa_nil))) sa_nil))) sa_nil) rfl T.bf.range) (sg_name 1 hN) (ss_cons (ss_asg (se_call ((G__law_spring T).mono (by decide)) rfl T.gXlaw_spring hr tk (sa_cons (sv 0) (sa_cons (sv 1) sa_nil))) (sg_name 2 hN))
  (ss_one (ss_if (st_pt (st_or (st_not (st_val (se_call ((G__law_judged_right T).mono (by decide)) rfl T.gXlaw_judged_right hr tk (sa_cons (sv 2) sa_nil)))) (st_or1 (st_not (st_val (se_call ((G__law_judged_right T).mono (by decide)) rfl T.gXlaw_judged_right hr tk (sa_cons (sv 2) sa_nil))))))) (ss_one (ss_ret se_bl)) ss_nil))) rfl (passes_of rfl))
  (ss_one (ss_ret se_bl)))
end
abbrev R : PySem.W.OpenRow := PySem.W.OpenLaw.row PySem.Challenge.rw_filledrows_k70_places_judged
abbrev hk : PySem.W.Hook := hookM 4 need fa fb fn ts
def ob (s : PySem.W.SharedT) : AlM := obsMG 4 need fa fb fn ts (HandSHeadRun.getT s)
theorem ob_eq (s : PySem.W.SharedT) : ob s = hk.obs s.abs := obsMG_eq (HandSHeadRun.getT_eq s)
def names : List Str := (R.prog.main.scope.names.filter (fun x => x.2 == .local)).map (·.1) |>.filter (fun x => decide (x ≠ Str.ofString "law"))
theorem runA : ∀ w : World, HandSHeadRun.RunEq R (PySem.W.view R.prog [99]) hk ob 6000 names (w.withFollow "special-get-raises" false) := fun w os => by kernel_rfl
theorem runB : ∀ w : World, HandSHeadRun.RunEq R (PySem.W.view R.prog [99]) hk ob 6000 names (w.withFollow "special-get-raises" true) := fun w os => by kernel_rfl
theorem run (w : World) : HandSHeadRun.RunEq R (PySem.W.view R.prog [99]) hk ob 6000 names w :=
  PySem.W.byRow2 "special-get-raises" (P := fun w => HandSHeadRun.RunEq R (PySem.W.view R.prog [99]) hk ob 6000 names w) runA runB w
end DW
end S_K70Walk
section S_Run
set_option linter.all false
set_option maxRecDepth 100000
set_option maxHeartbeats 4000000
/-! Run: the denotations, run by simp. Plain Lean. -/
namespace DL
/-! ### order of work: what comes first is run first -/
abbrev DepB {α β : Type} (_ : α → Hv → R β) : Type := R α
def bnd {α β : Type} (f : α → Hv → R β) (r : DepB f) : R β := R.bind r f
@[simp ↓] theorem to_bnd {α β : Type} (r : R α) (f : α → Hv → R β) : r.bind f = bnd f r := rfl
@[simp] theorem bnd_ok {α β : Type} (a : α) (G : Hv) (f : α → Hv → R β) : bnd f (R.ok a G) = f a G := rfl
@[simp] theorem bnd_exn {α β : Type} (a : VV) (G : Hv) (f : α → Hv → R β) : bnd f (R.exn a G) = R.exn a G := rfl
@[simp] theorem bnd_bad {α β : Type} (f : α → Hv → R β) : bnd f R.bad = R.bad := rfl
abbrev DepS {α : Type} (_ : α → Hv → O) : Type := R α
def stt {α : Type} (S : Env) (f : α → Hv → O) (r : DepS f) : O := R.st r S f
@[simp ↓] theorem to_stt {α : Type} (r : R α) (S : Env) (f : α → Hv → O) : r.st S f = stt S f r := rfl
@[simp] theorem stt_ok {α : Type} (a : α) (S : Env) (G : Hv) (f : α → Hv → O) : stt S f (R.ok a G) = f a G := rfl
@[simp] theorem stt_exn {α : Type} (a : VV) (S : Env) (G : Hv) (f : α → Hv → O) : stt S f (R.exn a G) = O.exn a S G := rfl
@[simp] theorem stt_bad {α : Type} (S : Env) (f : α → Hv → O) : stt S f R.bad = O.bad := rfl
def O.thn (o : O) (f : DS) : O := match o with
  | .nx S G => f S G
  | o => o
abbrev DepO (_ : DS) : Type := O
def thnF (f : DS) (o : DepO f) : O := O.thn o f
@[simp ↓] theorem to_thnF (o : O) (f : DS) : o.thn f = thnF f o := rfl
@[simp] theorem thnF_nx (S : Env) (G : Hv) (f : DS) : thnF f (O.nx S G) = f S G := rfl
@[simp] theorem thnF_rt (v : VV) (G : Hv) (f : DS) : thnF f (O.rt v G) = .rt v G := rfl
@[simp] theorem thnF_bk (S : Env) (G : Hv) (f : DS) : thnF f (O.bk S G) = .bk S G := rfl
@[simp] theorem thnF_ct (S : Env) (G : Hv) (f : DS) : thnF f (O.ct S G) = .ct S G := rfl
@[simp] theorem thnF_exn (x : VV) (S : Env) (G : Hv) (f : DS) : thnF f (O.exn x S G) = .exn x S G := rfl
@[simp] theorem thnF_bad (f : DS) : thnF f O.bad = .bad := rfl
@[simp] theorem thn_nx (S : Env) (G : Hv) (f : DS) : (O.nx S G).thn f = f S G := rfl
@[simp] theorem thn_rt (v : VV) (G : Hv) (f : DS) : (O.rt v G).thn f = .rt v G := rfl
@[simp] theorem thn_bk (S : Env) (G : Hv) (f : DS) : (O.bk S G).thn f = .bk S G := rfl
@[simp] theorem thn_ct (S : Env) (G : Hv) (f : DS) : (O.ct S G).thn f = .ct S G := rfl
@[simp] theorem thn_exn (x : VV) (S : Env) (G : Hv) (f : DS) : (O.exn x S G).thn f = .exn x S G := rfl
@[simp] theorem thn_bad (f : DS) : (O.bad).thn f = .bad := rfl
theorem thn_ite {c : Prop} [Decidable c] {a b : O} {f : DS} : (if c then a else b).thn f = if c then a.thn f else b.thn f := by split <;> rfl
def gRunF (f : DS) (o : DepO f) : O := gRun o f
@[simp ↓] theorem to_gRunF (o : O) (f : DS) : gRun o f = gRunF f o := rfl
@[simp] theorem gRunF_nx (S : Env) (G : Hv) (f : DS) : gRunF f (O.nx S G) = f S G := rfl
@[simp] theorem gRun_nx (S : Env) (G : Hv) (f : DS) : gRun (O.nx S G) f = f S G := rfl
@[simp] theorem dSeq_ap (a b : DS) (S : Env) (G : Hv) : dSeq a b S G = (a S G).thn b := Eq.trans rfl rfl
@[simp] theorem dNext_ap (S : Env) (G : Hv) : dNext S G = .nx S G := Eq.trans rfl rfl
@[simp] theorem dC_ap (v : VV) (S : Env) (G : Hv) : dC v S G = .ok v G := Eq.trans rfl rfl
@[simp] theorem dVar_ap (i : Nat) (S : Env) (G : Hv) : dVar i S G = match S[i]? with
  | some (some v) => .ok v G
  | _ => .bad := Eq.trans rfl rfl
@[simp] theorem dBin_ap (f) (a b : DE) (S : Env) (G : Hv) : dBin f a b S G = (a S G).bind fun x G1 => (b S G1).bind fun y G2 => ofO (f x y G2) := Eq.trans rfl rfl
@[simp] theorem dCmp_ap (f) (a b : DE) (S : Env) (G : Hv) : dCmp f a b S G = (a S G).bind fun x G1 => (b S G1).bind fun y G2 => ofP ((f G2 x y).map VV.bl) G2 := Eq.trans rfl rfl
@[simp] theorem tV_ap (a : DE) (S : Env) (G : Hv) : tV a S G = (a S G).bind fun x G1 => ofP (asB x) G1 := Eq.trans rfl rfl
@[simp] theorem tAnd_ap (a b : DT) (S : Env) (G : Hv) : tAnd a b S G = (a S G).bind fun c G1 => if c then b S G1 else .ok false G1 := Eq.trans rfl rfl
@[simp] theorem tOr_ap (a b : DT) (S : Env) (G : Hv) : tOr a b S G = (a S G).bind fun c G1 => if c then .ok true G1 else b S G1 := Eq.trans rfl rfl
@[simp] theorem tNot_ap (a : DT) (S : Env) (G : Hv) : tNot a S G = (a S G).bind fun c G1 => .ok (!c) G1 := Eq.trans rfl rfl
@[simp] theorem dAnd_ap (a b : DE) (S : Env) (G : Hv) : dAnd a b S G = (a S G).bind fun x G1 => match x with
  | .bl true => b S G1
  | .bl false => .ok (.bl false) G1
  | _ => .bad := Eq.trans rfl rfl
@[simp] theorem dOr_ap (a b : DE) (S : Env) (G : Hv) : dOr a b S G = (a S G).bind fun x G1 => match x with
  | .bl true => .ok (.bl true) G1
  | .bl false => b S G1
  | _ => .bad := Eq.trans rfl rfl
@[simp] theorem dNot_ap (a : DE) (S : Env) (G : Hv) : dNot a S G = (a S G).bind fun x G1 => match x with
  | .bl c => .ok (.bl (!c)) G1
  | _ => .bad := Eq.trans rfl rfl
@[simp] theorem dIf_ap (t : DT) (a b : DE) (S : Env) (G : Hv) : dIf t a b S G = (t S G).bind fun c G1 => if c then a S G1 else b S G1 := Eq.trans rfl rfl
@[simp] theorem dUn_ap (f) (a : DE) (S : Env) (G : Hv) : dUn f a S G = (a S G).bind fun x G1 => ofP (f x) G1 := Eq.trans rfl rfl
@[simp] theorem dIsN_ap (a : DE) (S : Env) (G : Hv) : dIsN a S G = (a S G).bind fun x G1 => .ok (.bl (isN x)) G1 := Eq.trans rfl rfl
@[simp] theorem dNotN_ap (a : DE) (S : Env) (G : Hv) : dNotN a S G = (a S G).bind fun x G1 => .ok (.bl (!isN x)) G1 := Eq.trans rfl rfl
@[simp] theorem aNil_ap (S : Env) (G : Hv) : aNil S G = .ok [] G := Eq.trans rfl rfl
@[simp] theorem aCons_ap (a : DE) (r : DA) (S : Env) (G : Hv) : aCons a r S G = (a S G).bind fun x G1 => (r S G1).bind fun xs G2 => .ok (x :: xs) G2 := Eq.trans rfl rfl
@[simp] theorem dTup_ap (a : DA) (S : Env) (G : Hv) : dTup a S G = (a S G).bind fun xs G1 => if xs.length ≤ LIM then .ok (.tup xs) G1 else .bad := Eq.trans rfl rfl
@[simp] theorem dLst_ap (a : DA) (S : Env) (G : Hv) : dLst a S G = (a S G).bind fun xs G1 => if xs.length ≤ LIM then .ok (.ref G1.length) (G1 ++ [.lst xs]) else .bad := Eq.trans rfl rfl
@[simp] theorem dIx_ap (a b : DE) (S : Env) (G : Hv) : dIx a b S G = (a S G).bind fun x G1 => (b S G1).bind fun y G2 => ofP (oIx G2 x y) G2 := Eq.trans rfl rfl
@[simp] theorem dFld_ap (c f : Nat) (a : DE) (S : Env) (G : Hv) : dFld c f a S G = (a S G).bind fun x G1 => ofP (oFld c f G1 x) G1 := Eq.trans rfl rfl
@[simp] theorem dCall_ap (f : Fn) (a : DA) (S : Env) (G : Hv) : dCall f a S G = (a S G).bind fun vs G1 => f vs G1 := Eq.trans rfl rfl
@[simp] theorem dB_ap (f : Bt) (a : DA) (S : Env) (G : Hv) : dB f a S G = (a S G).bind fun vs G1 => ofO (f vs G1) := Eq.trans rfl rfl
@[simp] theorem dIsi_ap (t : Ty) (a : DE) (S : Env) (G : Hv) : dIsi t a S G = (a S G).bind fun x G1 => ofP ((isTy G1 t x).map VV.bl) G1 := Eq.trans rfl rfl
@[simp] theorem dM_ap (T : Rt) (f : Mt) (a : DE) (r : DA) (S : Env) (G : Hv) : dM T f a r S G = (a S G).bind fun x G1 => if isRt T G1 x then (r S G1).bind fun vs G2 => ofO (f x vs G2) else .bad := Eq.trans rfl rfl
@[simp] theorem dExpr_ap (a : DE) (S : Env) (G : Hv) : dExpr a S G = (a S G).st S fun _ G1 => .nx S G1 := Eq.trans rfl rfl
@[simp] theorem dRet_ap (a : DE) (S : Env) (G : Hv) : dRet a S G = (a S G).st S fun v G1 => .rt v G1 := Eq.trans rfl rfl
@[simp] theorem dRetN_ap (S : Env) (G : Hv) : dRetN S G = .rt .non G := Eq.trans rfl rfl
@[simp] theorem sIf_ap (t : DT) (a b : DS) (S : Env) (G : Hv) : sIf t a b S G = (t S G).st S fun c G1 => if c then a S G1 else b S G1 := Eq.trans rfl rfl
@[simp] theorem sAsg_ap (a : DE) (g : DG) (S : Env) (G : Hv) : sAsg a g S G = (a S G).st S fun v G1 => gRun (g v S G1) O.nx := Eq.trans rfl rfl
@[simp] theorem gName_ap (i : Nat) (v : VV) (S : Env) (G : Hv) : gName i v S G = .nx (S.set i (some v)) G := Eq.trans rfl rfl
@[simp] theorem gTup_ap (gs : List DG) (xs : List VV) (S : Env) (G : Hv) : gTup gs (.tup xs) S G = if xs.length = gs.length then gAll gs xs S G else .bad := by
  unfold gTup; simp only; split <;> rfl
@[simp] theorem gAll_nil (S : Env) (G : Hv) : gAll [] [] S G = .nx S G := rfl
@[simp] theorem gAll_cons (g : DG) (gs : List DG) (v : VV) (vs : List VV) (S : Env) (G : Hv) : gAll (g :: gs) (v :: vs) S G = gRun (g v S G) (gAll gs vs) := rfl
@[simp] theorem gSub_ap (a b : DE) (v : VV) (S : Env) (G : Hv) : gSub a b v S G = (a S G).st S fun x G1 => (b S G1).st S fun y G2 => match x, y with
  | .ref i, .int k => match G2[i]? with
    | some (.lst xs) => match ixN xs.length k with
      | some j => .nx S (G2.set i (.lst (xs.set j v)))
      | none => .bad
    | _ => .bad
  | _, _ => .bad := Eq.trans rfl rfl
@[simp] theorem gFld_ap (c f : Nat) (a : DE) (v : VV) (S : Env) (G : Hv) : gFld c f a v S G = (a S G).st S fun x G1 => match x with
  | .ref i => match G1[i]? with
    | some (.ins d fs) => if c = d ∧ fs.length < 1000 then .nx S (G1.set i (.ins c (put f v fs))) else .bad
    | _ => .bad
  | _ => .bad := Eq.trans rfl rfl
@[simp] theorem sAug_ap (f) (i : Nat) (a : DE) (S : Env) (G : Hv) : sAug f i a S G = (dVar i S G).st S fun x G1 => (a S G1).st S fun y G2 => (ofO (f x y G2)).st S fun v G3 => .nx (S.set i (some v)) G3 := Eq.trans rfl rfl
@[simp] theorem sFor_ap (it : DI) (g : DG) (b : DS) (S : Env) (G : Hv) : sFor it g b S G = (it S G).st S fun p G1 => forL p.2 g b p.1 S G1 := Eq.trans rfl rfl
@[simp] theorem dLc_ap (vs : List Nat) (it : DI) (g : DG) (t : DT) (e : DE) (S : Env) (G : Hv) : dLc vs it g t e S G = (it S G).bind fun p G1 => lcL p.2 g t e vs (wipe S vs) G1.length p.1 (G1 ++ [.lst []]) := Eq.trans rfl rfl
@[simp] theorem iSeq_ap (a : DE) (S : Env) (G : Hv) : iSeq a S G = (a S G).bind fun x G1 => ofP (seqOf G1 x) G1 := Eq.trans rfl rfl
@[simp] theorem iRange1_ap (a : DA) (S : Env) (G : Hv) : iRange1 a S G = (a S G).bind fun vs G1 => ofP (rangeOf1 vs) G1 := Eq.trans rfl rfl
@[simp] theorem iRange2_ap (a : DA) (S : Env) (G : Hv) : iRange2 a S G = (a S G).bind fun vs G1 => ofP (rangeOf2 vs) G1 := Eq.trans rfl rfl
@[simp] theorem iEnum_ap (a : DA) (S : Env) (G : Hv) : iEnum a S G = (a S G).bind fun vs G1 => ofP (enumOf G1 vs) G1 := Eq.trans rfl rfl
@[simp] theorem iZip_ap (a : DA) (S : Env) (G : Hv) : iZip a S G = (a S G).bind fun vs G1 => ofP (zipOf G1 vs) G1 := Eq.trans rfl rfl
@[simp] theorem tYes_ap (S : Env) (G : Hv) : tYes S G = .ok true G := Eq.trans rfl rfl
@[simp] theorem dProp_ap (c p : Nat) (f : Fn) (a : DE) (S : Env) (G : Hv) : dProp c p f a S G = (a S G).bind fun x G1 => if isIns c p G1 x then noX (f [x] G1) else .bad := Eq.trans rfl rfl
@[simp] theorem dMake_ap (c : Nat) (f : Fn) (a : DA) (S : Env) (G : Hv) : dMake c f a S G = (a S G).bind fun vs G1 => (noX (f (.ref G1.length :: vs) (G1 ++ [.ins c []]))).bind fun u G2 => if isN u then .ok (.ref G1.length) G2 else .bad := Eq.trans rfl rfl
@[simp] theorem dChain_ap (f g) (a b c : DE) (S : Env) (G : Hv) : dChain f g a b c S G = (a S G).bind fun x G1 => (b S G1).bind fun y G2 => match f G2 x y with
  | some true => (c S G2).bind fun z G3 => ofP ((g G3 y z).map VV.bl) G3
  | some false => .ok (.bl false) G2
  | none => .bad := Eq.trans rfl rfl
@[simp] theorem asB_bl (b : Bool) : asB (.bl b) = some b := rfl
@[simp] theorem LIM_eq : LIM = 16777216 := rfl
/-! ### operators -/
@[simp] theorem oAdd_int (i j : Int) (G : Hv) : oAdd (.int i) (.int j) G = some (.int (i + j), G) := rfl
@[simp] theorem oSub_int (i j : Int) (G : Hv) : oSub (.int i) (.int j) G = some (.int (i - j), G) := rfl
@[simp] theorem oMul_int (i j : Int) (G : Hv) : oMul (.int i) (.int j) G = if MulOk i j then some (.int (i * j), G) else none := rfl
@[simp] theorem oMod_int (i j : Int) (G : Hv) : oMod (.int i) (.int j) G = if 0 < j then some (.int (i % j), G) else none := rfl
@[simp] theorem oFdiv_int (i j : Int) (G : Hv) : oFdiv (.int i) (.int j) G = if 0 < j ∧ j < 1073741824 then some (.int (i / j), G) else none := rfl
@[simp] theorem oNeg_int (i : Int) : oNeg (.int i) = some (.int (-i)) := rfl
@[simp] theorem aAdd_int (i j : Int) (G : Hv) : aAdd (.int i) (.int j) G = some (.int (i + j), G) := rfl
@[simp] theorem oEq_int (i j : Int) (G : Hv) : oEq G (.int i) (.int j) = some (decide (i = j)) := rfl
@[simp] theorem oEq_str (i j : List Nat) (G : Hv) : oEq G (.str i) (.str j) = some (decide (i = j)) := rfl
@[simp] theorem cEq_ap (G : Hv) (x y : VV) : cEq G x y = oEq G x y := Eq.trans rfl rfl
@[simp] theorem cNe_ap (G : Hv) (x y : VV) : cNe G x y = (oEq G x y).map not := Eq.trans rfl rfl
@[simp] theorem cLt_int (G : Hv) (i j : Int) : cLt G (.int i) (.int j) = some (decide (i < j)) := rfl
@[simp] theorem cLe_int (G : Hv) (i j : Int) : cLe G (.int i) (.int j) = some (decide (i ≤ j)) := rfl
@[simp] theorem cGt_int (G : Hv) (i j : Int) : cGt G (.int i) (.int j) = some (decide (j < i)) := rfl
@[simp] theorem cGe_int (G : Hv) (i j : Int) : cGe G (.int i) (.int j) = some (decide (j ≤ i)) := rfl
@[simp] theorem isN_non : isN .non = true := rfl
@[simp] theorem isN_ref (i : Nat) : isN (.ref i) = false := rfl
@[simp] theorem isN_tup (i : List VV) : isN (.tup i) = false := rfl
@[simp] theorem isN_int (i : Int) : isN (.int i) = false := rfl
/-! ### a def -/
theorem closedG_refl (n : Nat) : ∀ G : Hv, closedG n G G = true
  | [] => rfl
  | o :: G => by simp [closedG, closedG_refl n G]
/-- what a def comes to: nothing that is kept is new -/
theorem gc_pure {G E : Hv} {v : VV} (h : closedV G.length v = true) : gcR G (.ok v (G ++ E)) = .ok v G := by
  unfold gcR
  simp [h, closedG_refl]
theorem gc_pure0 {G : Hv} {v : VV} (h : closedV G.length v = true) : gcR G (.ok v G) = .ok v G := by
  have := gc_pure (E := []) h
  simpa using this
@[simp] theorem closedV_int (n : Nat) (i : Int) : closedV n (.int i) = true := by rw [closedV] <;> simp
@[simp] theorem closedV_str (n : Nat) (i : List Nat) : closedV n (.str i) = true := by rw [closedV] <;> simp
@[simp] theorem closedV_bl (n : Nat) (i : Bool) : closedV n (.bl i) = true := by rw [closedV] <;> simp
@[simp] theorem closedV_non (n : Nat) : closedV n .non = true := by rw [closedV] <;> simp
@[simp] theorem closedV_cls (n c : Nat) : closedV n (.cls c) = true := by rw [closedV] <;> simp
@[simp] theorem closedV_ref (n i : Nat) : closedV n (.ref i) = decide (i < n) := by rw [closedV]
@[simp] theorem closedV_tup (n : Nat) (xs : List VV) : closedV n (.tup xs) = closedL n xs := by rw [closedV]
@[simp] theorem closedL_nil (n : Nat) : closedL n [] = true := by rw [closedL]
@[simp] theorem closedL_cons (n : Nat) (x : VV) (xs : List VV) : closedL n (x :: xs) = (closedV n x && closedL n xs) := by rw [closedL]
theorem log2_lt {n k : Nat} (h : n < 2 ^ k) (hk : 0 < k) : n.log2 < k := by
  by_cases hn : n = 0
  · subst hn; simpa using hk
  · exact (Nat.log2_lt hn).mpr h
theorem mulOkN {i j : Int} (hi : i.natAbs < 2 ^ 64) (hj : j.natAbs < 2 ^ 64) : MulOk i j := by
  have := log2_lt hi (by decide)
  have := log2_lt hj (by decide)
  unfold MulOk
  omega
def spr (a b d : Int) : VO := .lst [.int a, .int b, .int d]
structure Good (a b d : Int) : Prop where
  a0 : 0 ≤ a
  a1 : a < 2147483648
  b0 : 0 ≤ b
  b1 : b < 2147483648
  d0 : 0 ≤ d
theorem get_set {G : Hv} {p : Nat} {x y : VO} (h : G[p]? = some y) : (G.set p x)[p]? = some x := by
  have := (List.getElem?_eq_some_iff.mp h).1
  simp [this]
theorem closedG_set {n : Nat} {o : VO} (h : closedO n o = true) : ∀ (G : Hv) (i : Nat), closedG n G (G.set i o) = true
  | [], i => by simp [closedG]
  | x :: G, 0 => by simp [closedG, h, closedG_refl]
  | x :: G, i + 1 => by simp [closedG, closedG_set h G i]
theorem closed_spr (n : Nat) (a b d : Int) : closedO n (spr a b d) = true := by simp [closedO, spr]
theorem gc_set {G E : Hv} {v : VV} {p : Nat} {o : VO} (h : closedV G.length v = true) (ho : closedO G.length o = true) : gcR G (.ok v (G.set p o ++ E)) = .ok v (G.set p o) := by
  have e : (G.set p o ++ E).take G.length = G.set p o := by
    rw [List.take_append_of_le_length (by simp), List.take_of_length_le (by simp)]
  unfold gcR
  simp only [e]
  simp [h, closedG_set ho]
theorem gc_set0 {G : Hv} {v : VV} {p : Nat} {o : VO} (h : closedV G.length v = true) (ho : closedO G.length o = true) : gcR G (.ok v (G.set p o)) = .ok v (G.set p o) := by
  have := gc_set (E := []) (p := p) h ho
  simpa using this

@[simp] theorem ite_ok {α : Type} {c : Prop} [Decidable c] {a b : α} {G : Hv} : (if c then R.ok a G else R.ok b G) = R.ok (if c then a else b) G := by split <;> rfl
@[simp] theorem oAdd_tup (a b : List VV) (G : Hv) : oAdd (.tup a) (.tup b) G = if a.length + b.length ≤ LIM then some (.tup (a ++ b), G) else none := rfl
@[simp] theorem dSl_ap (a : DE) (lo hi : DO) (S : Env) (G : Hv) : dSl a lo hi S G = (a S G).bind fun x G1 => (lo S G1).bind fun l G2 => (hi S G2).bind fun h G3 => ofO (oSlice x l h G3) := Eq.trans rfl rfl
@[simp] theorem oNone_ap (S : Env) (G : Hv) : oNone S G = .ok none G := Eq.trans rfl rfl
@[simp] theorem oSome_ap (a : DE) (S : Env) (G : Hv) : oSome a S G = (a S G).bind fun x G1 => match x with
  | .int i => .ok (some i) G1
  | _ => .bad := Eq.trans rfl rfl
@[simp] theorem oSlice_tup (xs : List VV) (lo hi : Option Int) (G : Hv) : oSlice (.tup xs) lo hi G = some (.tup (cut xs lo hi), G) := rfl
theorem cut_map {α β : Type} (f : α → β) (xs : List α) (lo hi : Option Int) : cut (xs.map f) lo hi = (cut xs lo hi).map f := by simp [cut]
theorem cut_mem {α : Type} {xs : List α} {lo hi : Option Int} {x : α} (h : x ∈ cut xs lo hi) : x ∈ xs := List.mem_of_mem_drop (List.mem_of_mem_take h)
theorem cut_len {α : Type} (xs : List α) (lo hi : Option Int) : (cut xs lo hi).length ≤ xs.length := by simp [cut]; omega
theorem upTo_len : ∀ (n : Nat) (lo : Int), (upTo lo n).length = n
  | 0, _ => rfl
  | n + 1, lo => by rw [upTo, List.length_cons, upTo_len n]
/-- a loop to its end: the list that is walked stays -/
theorem forL_invC {chk : List (Nat × VO)} {g : DG} {b : DS} (I : Nat → Env → Hv → Prop) (st : ∀ i S G, I i S G → stays G chk = true) : ∀ (xs : List VV) (i : Nat) (S : Env) (G : Hv), I i S G →
    (∀ j S G x, xs[j - i]? = some x → i ≤ j → I j S G → ∃ S1 G1 S2 G2, g x S G = .nx S1 G1 ∧ b S1 G1 = .nx S2 G2 ∧ I (j + 1) S2 G2) → ∃ S' G', forL chk g b xs S G = .nx S' G' ∧ I (i + xs.length) S' G'
  | [], i, S, G, h, _ => ⟨S, G, by simp [forL, st i S G h], h⟩
  | x :: xs, i, S, G, h, k => by
    obtain ⟨S1, G1, S2, G2, e1, e2, h2⟩ := k i S G x (by simp) (Nat.le_refl _) h
    obtain ⟨S3, G3, e3, h3⟩ := forL_invC I st xs (i + 1) S2 G2 h2 fun j S G y hy hj => k j S G y (by
      have : j - i = (j - (i + 1)) + 1 := by omega
      rw [this, List.getElem?_cons_succ]
      exact hy) (by omega)
    refine ⟨S3, G3, ?_, ?_⟩
    · simp only [forL, st i S G h, if_true, e1, gRun_nx, e2]
      exact e3
    · rw [List.length_cons]
      rwa [show i + 1 + xs.length = i + (xs.length + 1) by omega] at h3
/-- a loop over things that nothing needs to hold -/
theorem forL_inv {g : DG} {b : DS} (I : Nat → Env → Hv → Prop) : ∀ (xs : List VV) (i : Nat) (S : Env) (G : Hv), I i S G →
    (∀ j S G x, x ∈ xs → i ≤ j → j < i + xs.length → I j S G → ∃ S1 G1 S2 G2, g x S G = .nx S1 G1 ∧ b S1 G1 = .nx S2 G2 ∧ I (j + 1) S2 G2) → ∃ S' G', forL [] g b xs S G = .nx S' G' ∧ I (i + xs.length) S' G'
  | [], i, S, G, h, _ => ⟨S, G, by simp [forL, stays], h⟩
  | x :: xs, i, S, G, h, k => by
    obtain ⟨S1, G1, S2, G2, e1, e2, h2⟩ := k i S G x (List.mem_cons_self ..) (Nat.le_refl _) (by simp) h
    obtain ⟨S3, G3, e3, h3⟩ := forL_inv I xs (i + 1) S2 G2 h2 fun j S G y hy hj hj2 => k j S G y (List.mem_cons_of_mem _ hy) (by omega) (by simp; omega)
    refine ⟨S3, G3, ?_, ?_⟩
    · simp only [forL, stays, if_true, e1, gRun_nx, e2]
      exact e3
    · rw [List.length_cons]
      rwa [show i + 1 + xs.length = i + (xs.length + 1) by omega] at h3
/-! data -/
@[simp] theorem DEPTH_eq : DEPTH = 12 := rfl
@[simp] theorem toPD_non (G : Hv) (n : Nat) : toPD G (n + 1) .non = some .non := rfl
@[simp] theorem toPD_bl (G : Hv) (n : Nat) (b : Bool) : toPD G (n + 1) (.bl b) = some (.bl b) := rfl
@[simp] theorem toPD_int (G : Hv) (n : Nat) (b : Int) : toPD G (n + 1) (.int b) = some (.int b) := rfl
@[simp] theorem toPD_str (G : Hv) (n : Nat) (b : List Nat) : toPD G (n + 1) (.str b) = some (.str b) := rfl
@[simp] theorem toPD_tup (G : Hv) (n : Nat) (xs : List VV) : toPD G (n + 1) (.tup xs) = (mapO (toPD G n) xs).map PD.tup := rfl
theorem toPD_ref (G : Hv) (n : Nat) (i : Nat) : toPD G (n + 1) (.ref i) = match G[i]? with
  | some (.lst xs) => (mapO (toPD G n) xs).map PD.lst
  | _ => none := rfl
@[simp] theorem mapO_nil {α β : Type} (f : α → Option β) : mapO f [] = some [] := rfl
@[simp] theorem mapO_cons {α β : Type} (f : α → Option β) (x : α) (xs : List α) : mapO f (x :: xs) = match f x with
  | some y => match mapO f xs with
    | some ys => some (y :: ys)
    | none => none
  | none => none := rfl
@[simp] theorem eqv_int (i j : Int) : PD.eqv (.int i) (.int j) = decide (i = j) := by rw [PD.eqv]
@[simp] theorem eqv_str (i j : List Nat) : PD.eqv (.str i) (.str j) = decide (i = j) := by rw [PD.eqv]
@[simp] theorem eqv_bl (i j : Bool) : PD.eqv (.bl i) (.bl j) = (i == j) := by rw [PD.eqv]
@[simp] theorem eqv_non : PD.eqv .non .non = true := by rw [PD.eqv]
@[simp] theorem eqv_tup (i j : List PD) : PD.eqv (.tup i) (.tup j) = eqvL i j := by rw [PD.eqv]
@[simp] theorem eqv_lst (i j : List PD) : PD.eqv (.lst i) (.lst j) = eqvL i j := by rw [PD.eqv]
@[simp] theorem eqvL_nil : eqvL [] [] = true := by rw [eqvL]
@[simp] theorem eqvL_cons (x y : PD) (xs ys : List PD) : eqvL (x :: xs) (y :: ys) = (PD.eqv x y && eqvL xs ys) := by rw [eqvL]
@[simp] theorem eqvL_nc (y : PD) (ys : List PD) : eqvL [] (y :: ys) = false := by rw [eqvL] <;> simp
@[simp] theorem eqvL_cn (y : PD) (ys : List PD) : eqvL (y :: ys) [] = false := by rw [eqvL] <;> simp
@[simp] theorem eqv_non_tup (xs : List PD) : PD.eqv .non (.tup xs) = false := by rw [PD.eqv] <;> simp
@[simp] theorem eqv_tup_non (xs : List PD) : PD.eqv (.tup xs) .non = false := by rw [PD.eqv] <;> simp
/-- x in these -/
def inL (G : Hv) (x : VV) (xs : List VV) : Option Bool := match toPD G DEPTH x, mapO (toPD G DEPTH) xs with
  | some d, some ds => some (ds.any fun z => PD.eqv z d)
  | _, _ => none
@[simp] theorem cIn_tup (G : Hv) (x : VV) (xs : List VV) : cIn G x (.tup xs) = inL G x xs := by
  unfold cIn oIn inL
  simp only [asSeq]
  all_goals (cases toPD G DEPTH x <;> cases mapO (toPD G DEPTH) xs <;> rfl)
@[simp] theorem cIn_ref (G : Hv) (x : VV) (i : Nat) : cIn G x (.ref i) = match G[i]? with
  | some (.lst xs) => inL G x xs
  | some (.flst xs) => inL G x xs
  | _ => none := by
  unfold cIn oIn inL
  simp only [asSeq, asListR]
  cases G[i]? with
  | none => rfl
  | some o => cases o <;> rfl
theorem inL_str (G : Hv) (x : List Nat) : ∀ ss : List (List Nat), inL G (.str x) (ss.map VV.str) = some (ss.any fun s => decide (s = x)) := fun ss => by
  have : mapO (toPD G DEPTH) (ss.map VV.str) = some (ss.map PD.str) := by
    induction ss with
    | nil => rfl
    | cons a r ih =>
      rw [List.map_cons, mapO_cons, ih]
      rfl
  unfold inL
  rw [this]
  simp [List.any_map, Function.comp_def]
@[simp] theorem inL_s2 (G : Hv) (x a b : List Nat) : inL G (.str x) [.str a, .str b] = some (decide (a = x) || decide (b = x)) := by
  have := inL_str G x [a, b]
  simpa using this
@[simp] theorem inL_s3 (G : Hv) (x a b c : List Nat) : inL G (.str x) [.str a, .str b, .str c] = some (decide (a = x) || (decide (b = x) || decide (c = x))) := by
  have := inL_str G x [a, b, c]
  simpa using this
theorem mid_of {i : Int} (h : i.natAbs ≤ 4611686018427387903) : mid i = true := Nat.ble_eq_true_of_le h
/-! ### what is wanted of a run -/
def Wp (r : R VV) (Q : VV → Hv → Prop) : Prop := ∃ v G, r = .ok v G ∧ Q v G
abbrev DepW (_ : VV → Hv → Prop) : Type := R VV
abbrev WpF (Q : VV → Hv → Prop) (r : DepW Q) : Prop := Wp r Q
@[simp ↓] theorem to_WpF (r : R VV) (Q : VV → Hv → Prop) : Wp r Q = WpF Q r := rfl
theorem Wp.ok {v : VV} {G : Hv} {Q : VV → Hv → Prop} (h : Q v G) : Wp (.ok v G) Q := ⟨v, G, rfl, h⟩
theorem Wp.of {r : R VV} {v : VV} {G : Hv} {Q : VV → Hv → Prop} (e : r = .ok v G) (h : Q v G) : Wp r Q := ⟨v, G, e, h⟩
theorem Wp_ref {k n : Nat} {b : DS} {vs : List VV} {G : Hv} {Q : VV → Hv → Prop} (h : Wp (gcR G (outR (b (start n vs) G))) Q) (h1 : vs.length = k := by rfl) (h2 : closedL 0 vs = false := by simp) : Wp (dDef k n b vs G) Q := by
  unfold dDef
  rw [if_pos h1, if_neg (by rw [h2]; simp)]
  exact h
@[simp] theorem outR_rt (v : VV) (G : Hv) : outR (.rt v G) = .ok v G := rfl
@[simp] theorem outR_nx (S : Env) (G : Hv) : outR (.nx S G) = .ok .non G := rfl
/-! ### the spring: a list that is written -/
def HasS (G : Hv) (p : Nat) : Prop := ∃ a b d, Good a b d ∧ G[p]? = some (spr a b d)
/-- only the spring was written, things were laid behind -/
def Wd (p : Nat) (G G' : Hv) : Prop := ∃ a b d E, Good a b d ∧ G' = G.set p (spr a b d) ++ E
/-- only the spring was written -/
def Nx (p : Nat) (G G' : Hv) : Prop := ∃ a b d, Good a b d ∧ G' = G.set p (spr a b d)
theorem HasS.lt {G : Hv} {p : Nat} (h : HasS G p) : p < G.length := by
  obtain ⟨a, b, d, _, e⟩ := h
  exact (List.getElem?_eq_some_iff.mp e).1
theorem set_same {G : Hv} {p : Nat} {x : VO} (h : G[p]? = some x) : G.set p x = G := by
  obtain ⟨hl, e⟩ := List.getElem?_eq_some_iff.mp h
  rw [← e]
  exact List.set_getElem_self hl
theorem HasS.wd {G : Hv} {p : Nat} (h : HasS G p) : Wd p G G := by
  obtain ⟨a, b, d, g, e⟩ := h
  exact ⟨a, b, d, [], g, by rw [set_same e]; simp⟩
theorem Nx.wd {G G' : Hv} {p : Nat} (h : Nx p G G') : Wd p G G' := by
  obtain ⟨a, b, d, g, e⟩ := h
  exact ⟨a, b, d, [], g, by simp [e]⟩
theorem Wd.more {G G' : Hv} {p : Nat} (h : Wd p G G') (E : Hv) : Wd p G (G' ++ E) := by
  obtain ⟨a, b, d, E', g, e⟩ := h
  exact ⟨a, b, d, E' ++ E, g, by rw [e, List.append_assoc]⟩
theorem Wd.len {G G' : Hv} {p : Nat} (h : Wd p G G') : G.length ≤ G'.length := by
  obtain ⟨a, b, d, E', g, e⟩ := h
  rw [e]; simp
theorem Wd.has {G G' : Hv} {p : Nat} (hp : p < G.length) (h : Wd p G G') : HasS G' p := by
  obtain ⟨a, b, d, E', g, e⟩ := h
  refine ⟨a, b, d, g, ?_⟩
  rw [e, List.getElem?_append_left (by simpa using hp), List.getElem?_set_self hp]
theorem Wd.nx {G G1 G2 : Hv} {p : Nat} (hp : p < G.length) (h : Wd p G G1) (k : Nx p G1 G2) : Wd p G G2 := by
  obtain ⟨a, b, d, E, g, e⟩ := h
  obtain ⟨a', b', d', g', e'⟩ := k
  refine ⟨a', b', d', E, g', ?_⟩
  rw [e', e, List.set_append_left _ _ (by simpa using hp), List.set_set]
theorem Wd.wd {G G1 G2 : Hv} {p : Nat} (hp : p < G.length) (h : Wd p G G1) (k : Wd p G1 G2) : Wd p G G2 := by
  obtain ⟨a, b, d, E, g, e⟩ := k
  have : Nx p G1 (G1.set p (spr a b d)) := ⟨a, b, d, g, rfl⟩
  rw [e]
  exact (h.nx hp this).more E
theorem Nx.get {G G' : Hv} {p i : Nat} (h : Nx p G G') (hi : i ≠ p) : G'[i]? = G[i]? := by
  obtain ⟨a, b, d, g, e⟩ := h
  rw [e, List.getElem?_set_ne (Ne.symm hi)]
theorem Nx.len {G G' : Hv} {p : Nat} (h : Nx p G G') : G'.length = G.length := by
  obtain ⟨a, b, d, g, e⟩ := h
  rw [e]; simp
theorem Wd.get {G G' : Hv} {p i : Nat} (h : Wd p G G') (hi : i ≠ p) (hl : i < G.length) : G'[i]? = G[i]? := by
  obtain ⟨a, b, d, E, g, e⟩ := h
  rw [e, List.getElem?_append_left (by simpa using hl), List.getElem?_set_ne (Ne.symm hi)]
theorem Wd.fin {G G1 : Hv} {p : Nat} {v : VV} (h : Wd p G G1) (hv : closedV G.length v = true) : ∃ G2, Nx p G G2 ∧ gcR G (.ok v G1) = .ok v G2 := by
  obtain ⟨a, b, d, E, g, e⟩ := h
  exact ⟨_, ⟨a, b, d, g, rfl⟩, by rw [e]; exact gc_set hv (closed_spr _ _ _ _)⟩
theorem Wd.end {G G1 : Hv} {p : Nat} {v : VV} {Q : VV → Hv → Prop} (h : Wd p G G1) (hv : closedV G.length v = true) (k : ∀ G2, Nx p G G2 → Q v G2) : Wp (gcR G (.ok v G1)) Q := by
  obtain ⟨G2, h2, e⟩ := h.fin hv
  exact ⟨v, G2, e, k G2 h2⟩
/-- an item by its number -/
theorem atI_ok {α : Type} {xs : List α} {i : Int} (h0 : 0 ≤ i) (h1 : i < xs.length) : ∃ x, x ∈ xs ∧ atI xs i = some x := by
  have hl : i.toNat < xs.length := by omega
  refine ⟨xs[i.toNat], List.getElem_mem hl, ?_⟩
  unfold atI ixN
  rw [if_pos h0, if_pos h1]
  exact List.getElem?_eq_getElem hl
/-- an item of a list that was just written -/
theorem ix_lit {G : Hv} {xs : List VV} {i : Nat} {k : Int} (h : G[i]? = some (.lst xs)) (h0 : 0 ≤ k) (h1 : k < xs.length) : ∃ x, x ∈ xs ∧ oIx G (.ref i) (.int k) = some x := by
  obtain ⟨x, hx, e⟩ := atI_ok h0 h1
  refine ⟨x, hx, ?_⟩
  unfold oIx
  simp only [asSeq, asListR, h]
  exact e
/-- a def that was given an object -/
theorem dDef_ref {k n : Nat} {b : DS} {vs : List VV} {G : Hv} (h1 : vs.length = k) (h2 : closedL 0 vs = false) : dDef k n b vs G = gcR G (outR (b (start n vs) G)) := by
  unfold dDef
  rw [if_pos h1, if_neg (by rw [h2]; simp)]
theorem dDef_val {k n : Nat} {b : DS} {vs : List VV} {G : Hv} (h1 : vs.length = k) (h2 : closedL 0 vs = true) : dDef k n b vs G = reloc G (gcR [] (outR (b (start n vs) []))) := by
  unfold dDef
  rw [if_pos h1, if_pos h2]
/-! ### runs by themselves -/
mutual
theorem shV_closed (n : Nat) : ∀ {v : VV}, closedV 0 v = true → shV n v = v
  | .non, _ => by rw [shV] <;> simp
  | .bl _, _ => by rw [shV] <;> simp
  | .int _, _ => by rw [shV] <;> simp
  | .str _, _ => by rw [shV] <;> simp
  | .cls _, _ => by rw [shV] <;> simp
  | .ref i, h => by simp at h
  | .tup xs, h => by rw [shV, shL_closed n (by simpa using h)]
  | .exc c fs, h => by rw [shV, shF_closed n (by rw [closedV] at h; exact h)]
  | .clo c xs, h => by rw [shV, shL_closed n (by rw [closedV] at h; exact h)]
theorem shL_closed (n : Nat) : ∀ {v : List VV}, closedL 0 v = true → shL n v = v
  | [], _ => by rw [shL]
  | x :: xs, h => by
    rw [closedL_cons, Bool.and_eq_true] at h
    rw [shL, shV_closed n h.1, shL_closed n h.2]
theorem shF_closed (n : Nat) : ∀ {v : List (Nat × VV)}, closedF 0 v = true → shF n v = v
  | [], _ => by rw [shF]
  | (c, x) :: xs, h => by
    rw [closedF, Bool.and_eq_true] at h
    rw [shF, shV_closed n h.1, shF_closed n h.2]
end
mutual
theorem shV_zero : ∀ (v : VV), shV 0 v = v
  | .non => by rw [shV] <;> simp
  | .bl _ => by rw [shV] <;> simp
  | .int _ => by rw [shV] <;> simp
  | .str _ => by rw [shV] <;> simp
  | .cls _ => by rw [shV] <;> simp
  | .ref i => by rw [shV, Nat.zero_add]
  | .tup xs => by rw [shV, shL_zero xs]
  | .exc c fs => by rw [shV, shF_zero fs]
  | .clo c xs => by rw [shV, shL_zero xs]
theorem shL_zero : ∀ (v : List VV), shL 0 v = v
  | [] => by rw [shL]
  | x :: xs => by rw [shL, shV_zero x, shL_zero xs]
theorem shF_zero : ∀ (v : List (Nat × VV)), shF 0 v = v
  | [] => by rw [shF]
  | (c, x) :: xs => by rw [shF, shV_zero x, shF_zero xs]
end
theorem shK_zero : ∀ (v : List (VV × VV)), shK 0 v = v
  | [] => rfl
  | (c, x) :: xs => by rw [shK, shV_zero x, shK_zero xs]
theorem shO_zero : ∀ (o : VO), shO 0 o = o
  | .lst xs => by rw [shO, shL_zero]
  | .flst xs => by rw [shO, shL_zero]
  | .dic xs => by rw [shO, shK_zero]
  | .ins c xs => by rw [shO, shF_zero]
theorem map_shO_zero (G : Hv) : G.map (shO 0) = G := by
  have : shO 0 = id := funext shO_zero
  rw [this]; simp
theorem reloc_nil (r : R VV) : reloc [] r = r := by
  cases r with
  | ok v G => simp [reloc, shV_zero, map_shO_zero]
  | exn v G => simp [reloc, shV_zero, map_shO_zero]
  | bad => rfl
/-- a closed call anywhere is the call by itself, laid behind -/
theorem dDef_loc {k n : Nat} {b : DS} {vs : List VV} (h : closedL 0 vs = true) (G : Hv) : dDef k n b vs G = reloc G (dDef k n b vs []) := by
  unfold dDef
  split
  · rw [reloc_nil]
  · rfl
theorem loc_val {k n : Nat} {b : DS} {vs : List VV} {v : VV} (h : closedL 0 vs = true) (e : dDef k n b vs [] = .ok v []) (hv : closedV 0 v = true) (G : Hv) : dDef k n b vs G = .ok v G := by
  rw [dDef_loc h G, e]
  simp [reloc, shV_closed _ hv]
theorem loc_ref {k n : Nat} {b : DS} {vs : List VV} {i : Nat} {E : Hv} (h : closedL 0 vs = true) (e : dDef k n b vs [] = .ok (.ref i) E) (G : Hv) : dDef k n b vs G = .ok (.ref (G.length + i)) (G ++ E.map (shO G.length)) := by
  rw [dDef_loc h G, e]
  simp [reloc, shV]
/-- to run a closed call by itself -/
theorem Wp_loc {k n : Nat} {b : DS} {vs : List VV} {G : Hv} {Q : VV → Hv → Prop} (h : Wp (gcR [] (outR (b (start n vs) []))) fun v E => Q (shV G.length v) (G ++ E.map (shO G.length))) (h1 : vs.length = k := by rfl) (h2 : closedL 0 vs = true := by simp) : Wp (dDef k n b vs G) Q := by
  obtain ⟨v, E, e, q⟩ := h
  unfold dDef
  rw [if_pos h1, if_pos h2, e]
  exact ⟨_, _, rfl, q⟩
end DL
end S_Run
section S_Run2
set_option linter.all false
set_option maxRecDepth 100000
set_option maxHeartbeats 4000000
/-! Run2: comprehensions, texts. Plain Lean. -/
namespace DL
@[simp] theorem bLen_tup (xs : List VV) (G : Hv) : bLen [.tup xs] G = some (.int xs.length, G) := Eq.trans rfl rfl
@[simp] theorem bLen_ref (i : Nat) (G : Hv) : bLen [.ref i] G = (asListR G (.ref i)).map fun xs => (.int xs.length, G) := Eq.trans rfl rfl
theorem lcL_inv {chk : List (Nat × VO)} {g : DG} {t : DT} {e : DE} {vs : List Nat} {S0 : Env} {D : Nat} (I : Nat → List VV → Hv → Prop) (st : ∀ i acc G, I i acc G → stays G chk = true) : ∀ (xs : List VV) (i : Nat) (acc : List VV) (G : Hv), I i acc G →
    (∀ j acc G x, xs[j - i]? = some x → i ≤ j → I j acc G → ∃ S1 G1, g x S0 G = .nx S1 G1 ∧ ((∃ G2, t S1 G1 = .ok false G2 ∧ I (j + 1) acc G2) ∨ ∃ G2 y G3, t S1 G1 = .ok true G2 ∧ e S1 G2 = .ok y G3 ∧ G3[D]? = some (.lst acc) ∧ acc.length < LIM ∧ I (j + 1) (acc ++ [y]) (G3.set D (.lst (acc ++ [y]))))) →
    ∃ acc' G', lcL chk g t e vs S0 D xs G = .ok (.ref D) G' ∧ I (i + xs.length) acc' G'
  | [], i, acc, G, h, _ => ⟨acc, G, by simp [lcL, st i acc G h], h⟩
  | x :: xs, i, acc, G, h, k => by
    obtain ⟨S1, G1, e1, h2⟩ := k i acc G x (by simp) (Nat.le_refl _) h
    have step : ∀ j acc G y, xs[j - (i + 1)]? = some y → i + 1 ≤ j → I j acc G → _ := fun j acc G y hy hj => k j acc G y (by
      have : j - i = (j - (i + 1)) + 1 := by omega
      rw [this, List.getElem?_cons_succ]
      exact hy) (by omega)
    rw [List.length_cons, show i + (xs.length + 1) = i + 1 + xs.length by omega]
    rcases h2 with ⟨G2, e2, h3⟩ | ⟨G2, y, G3, e2, e3, e4, hl, h3⟩
    · obtain ⟨acc', G', e5, h5⟩ := lcL_inv I st xs (i + 1) acc G2 h3 step
      refine ⟨acc', G', ?_, h5⟩
      simp only [lcL, st i acc G h, if_true, e1, e2]
      exact e5
    · obtain ⟨acc', G', e5, h5⟩ := lcL_inv I st xs (i + 1) _ _ h3 step
      refine ⟨acc', G', ?_, h5⟩
      have hl' : acc.length < 16777216 := hl
      simp [lcL, st i acc G h, e1, e2, e3, e4, hl']
      exact e5
/-- [e for x in xs], where nothing is laid -/
theorem lcL_map {chk : List (Nat × VO)} {g : DG} {e : DE} {vs : List Nat} {S0 : Env} {D : Nat} {f : VV → VV} (xs : List VV) (G : Hv) (hD : D = G.length) (hst : ∀ o, stays (G ++ [o]) chk = true) (hl : xs.length < LIM)
    (k : ∀ x o, x ∈ xs → ∃ S1, g x S0 (G ++ [o]) = .nx S1 (G ++ [o]) ∧ e S1 (G ++ [o]) = .ok (f x) (G ++ [o])) : lcL chk g tYes e vs S0 D xs (G ++ [.lst []]) = .ok (.ref D) (G ++ [.lst (xs.map f)]) := by
  subst hD
  obtain ⟨acc', G', e1, h1, h2⟩ := lcL_inv (chk := chk) (g := g) (t := tYes) (e := e) (vs := vs) (S0 := S0) (D := G.length) (fun i acc G' => acc = (xs.take i).map f ∧ G' = G ++ [.lst acc]) (fun i acc G' ⟨_, h⟩ => by rw [h]; exact hst _) xs 0 [] (G ++ [.lst []]) ⟨by simp, rfl⟩ (by
    rintro j acc G' x hx _ ⟨rfl, rfl⟩
    rw [Nat.sub_zero] at hx
    obtain ⟨S1, e1, e2⟩ := k x (.lst ((xs.take j).map f)) (List.mem_of_getElem? hx)
    refine ⟨S1, _, e1, .inr ⟨_, f x, _, rfl, e2, by simp, ?_, ?_, by simp⟩⟩
    · rw [List.length_map, List.length_take]; omega
    · rw [List.take_succ, hx]; simp)
  rw [e1, h2, h1]
  simp
theorem splitC_none {c : Nat} : ∀ {w : List Nat}, c ∉ w → splitC c w = [w]
  | [], _ => rfl
  | d :: w, h => by
    have hd : ¬ d = c := fun e => h (by simp [e])
    have hw : c ∉ w := fun m => h (List.mem_cons_of_mem _ m)
    rw [splitC, if_neg hd, splitC_none hw]
theorem splitC_app {c : Nat} {r : List Nat} : ∀ {w : List Nat}, c ∉ w → splitC c (w ++ c :: r) = w :: splitC c r
  | [], _ => by simp [splitC]
  | d :: w, h => by
    have hd : ¬ d = c := fun e => h (by simp [e])
    have hw : c ∉ w := fun m => h (List.mem_cons_of_mem _ m)
    rw [List.cons_append, splitC, if_neg hd, splitC_app hw]
theorem split_join {c : Nat} : ∀ {ws : List (List Nat)}, ws ≠ [] → (∀ w ∈ ws, c ∉ w) → splitC c (joinS [c] ws) = ws
  | [], h, _ => (h rfl).elim
  | [w], _, h => by rw [joinS, splitC_none (h w (by simp))]
  | w :: v :: r, _, h => by
    rw [joinS, List.singleton_append, splitC_app (h w (by simp)), split_join (by simp) fun x hx => h x (List.mem_cons_of_mem _ hx)]
theorem join_len {c : Nat} {m : Nat} : ∀ {ws : List (List Nat)}, (∀ w ∈ ws, w.length ≤ m) → (joinS [c] ws).length ≤ ws.length * (m + 1)
  | [], _ => by simp [joinS]
  | [w], h => by
    have := h w (by simp)
    simp [joinS]; omega
  | w :: v :: r, h => by
    have h1 := h w (by simp)
    have h2 := join_len (c := c) (ws := v :: r) fun x hx => h x (List.mem_cons_of_mem _ hx)
    rw [joinS]
    have e : (w :: v :: r).length * (m + 1) = (v :: r).length * (m + 1) + (m + 1) := by rw [List.length_cons, Nat.add_mul, Nat.one_mul]
    rw [e, List.length_append, List.length_append]
    simp only [List.length_singleton]
    omega
/-- a loop that looks at each, and ends the def at the first that is not p -/
theorem forL_all {chk : List (Nat × VO)} {i : Nat} {b : DS} {p : VV → Bool} {r : VV} {G : Hv} (A : Env → Prop) (st : stays G chk = true) (hA : ∀ S x, A S → A (S.set i (some x))) : ∀ (xs : List VV) (S : Env), A S →
    (∀ S x, A S → x ∈ xs → b (S.set i (some x)) G = if p x = true then .nx (S.set i (some x)) G else .rt r G) → ∃ S', A S' ∧ forL chk (gName i) b xs S G = if xs.all p = true then .nx S' G else .rt r G
  | [], S, h, _ => ⟨S, h, by simp [forL, st]⟩
  | x :: xs, S, h, hb => by
    have h1 := hb S x h (by simp)
    by_cases hp : p x = true
    · rw [if_pos hp] at h1
      obtain ⟨S', h2, e⟩ := forL_all A st hA xs _ (hA S x h) fun S y hS hy => hb S y hS (List.mem_cons_of_mem _ hy)
      refine ⟨S', h2, ?_⟩
      simp only [forL, st, if_true, gName_ap, gRun_nx, h1, e, List.all_cons, hp, Bool.true_and]
    · rw [if_neg hp] at h1
      have hp' : p x = false := by simpa using hp
      refine ⟨S, h, ?_⟩
      simp [forL, st, h1, hp']
end DL
end S_Run2
section S_Run3
set_option linter.all false
set_option maxRecDepth 100000
set_option maxHeartbeats 4000000
/-! Run3: what Sem2 brings, run by simp. -/
namespace DL
@[simp] theorem dSortSet_ap (a : DE) (S : Env) (G : Hv) : dSortSet a S G = (a S G).bind fun x G1 => ofO (oSortSet G1 x) := Eq.trans rfl rfl
@[simp] theorem dIsC_ap (c : Nat) (a : DE) (S : Env) (G : Hv) : dIsC c a S G = (a S G).bind fun x G1 => if isC c G1 x then .ok (.bl true) G1 else .bad := Eq.trans rfl rfl
@[simp] theorem dLc2_ap (vs vs1 : List Nat) (it : DI) (g : DG) (t : DT) (it1 : DI) (g1 : DG) (t1 : DT) (e : DE) (S : Env) (G : Hv) : dLc2 vs vs1 it g t it1 g1 t1 e S G = (it S G).bind fun p G1 => lc2L p.2 g t it1 g1 t1 e vs vs1 (wipe S vs) G1.length p.1 (G1 ++ [.lst []]) := Eq.trans rfl rfl
@[simp] theorem dListRg_ap (a : DE) (S : Env) (G : Hv) : dListRg a S G = (a S G).bind fun x G1 => match x with
  | .int j => if Nat.ble j.natAbs 16777216 = true then .ok (.ref G1.length) (G1 ++ [.lst (upTo 0 j.toNat)]) else .bad
  | _ => .bad := Eq.trans rfl rfl
@[simp] theorem dCallD_ap (f : Fn) (ds : List VV) (a : DA) (S : Env) (G : Hv) : dCallD f ds a S G = (a S G).bind fun vs G1 => f (vs ++ ds) G1 := Eq.trans rfl rfl
@[simp] theorem dDic0_ap (S : Env) (G : Hv) : dDic0 S G = .ok (.ref G.length) (G ++ [.dic []]) := Eq.trans rfl rfl
end DL
end S_Run3
section S_A70
set_option linter.all false
set_option maxRecDepth 100000
set_option maxHeartbeats 4000000
/-! A69: the springs of k69. -/
namespace DL
theorem take_spec0 {G : Hv} {p : Nat} {a b d m : Int} (g : Good a b d) (h : G[p]? = some (spr a b d)) (hm : 0 < m) (hm2 : m < 1073741824) :
    ∃ dg b' d', 0 ≤ dg ∧ dg < m ∧ Good b b' d' ∧ f__law_take [.ref p, .int m] G = .ok (.int dg) (G.set p (spr b b' d')) := by
  obtain ⟨g1, g2, g3, g4, g5⟩ := g
  have m1 : MulOk a 47903 := mulOkN (by omega) (by decide)
  have e1 : (0 : Int) ≤ b % 30011 := Int.emod_nonneg _ (by decide)
  have e2 : b % 30011 < 30011 := Int.emod_lt_of_pos _ (by decide)
  have m2 : MulOk b (b % 30011 + 1013) := mulOkN (by omega) (by omega)
  have s1 : ∀ x, (G.set p x)[p]? = some x := fun x => get_set h
  have hl : p < G.length := (List.getElem?_eq_some_iff.mp h).1
  unfold spr at h
  unfold f__law_take dDef
  simp [b__law_take, start, h, oIx, asSeq, asListR, atI, ixN, bInt, m1, m2, s1, List.set_set]
  have hr : (0 : Int) ≤ (a * 47903 + b * (b % 30011 + 1013) + 29) % 2147483563 := Int.emod_nonneg _ (by decide)
  have hr2 : (a * 47903 + b * (b % 30011 + 1013) + 29) % 2147483563 < 2147483563 := Int.emod_lt_of_pos _ (by decide)
  by_cases hd : 0 < d
  · simp [hd, bDivmod, hm, hm2, s1, oIx, asSeq, asListR, atI, ixN, List.set_set]
    refine ⟨_, ?_, ?_, _, _, ?_, gc_set0 (by simp) (closed_spr _ _ _ _)⟩
    · exact Int.emod_nonneg _ (by omega)
    · exact Int.emod_lt_of_pos _ hm
    · exact ⟨by omega, by omega, hr, by omega, Int.ediv_nonneg (by omega) (by omega)⟩
  · simp [hd, hm, s1, oIx, asSeq, asListR, atI, ixN, bInt]
    refine ⟨_, ?_, ?_, _, _, ?_, gc_set0 (by simp) (closed_spr _ _ _ _)⟩
    · exact Int.emod_nonneg _ (by omega)
    · exact Int.emod_lt_of_pos _ hm
    · exact ⟨by omega, by omega, hr, by omega, by omega⟩

theorem take_spec {G : Hv} {p : Nat} {m : Int} (h : HasS G p) (hm : 0 < m) (hm2 : m < 1073741824) :
    ∃ dg G', 0 ≤ dg ∧ dg < m ∧ Nx p G G' ∧ f__law_take [.ref p, .int m] G = .ok (.int dg) G' := by
  obtain ⟨a, b, d, g, e⟩ := h
  obtain ⟨dg, b', d', h1, h2, h3, h4⟩ := take_spec0 g e hm hm2
  exact ⟨dg, _, h1, h2, ⟨_, _, _, h3, rfl⟩, h4⟩
/-- one of a list by the spring -/
theorem take_w {G G1 : Hv} {p : Nat} {m : Int} (hp : p < G.length) (w : Wd p G G1) (hm : 0 < m) (hm2 : m < 1073741824) :
    ∃ dg G2, 0 ≤ dg ∧ dg < m ∧ Nx p G1 G2 ∧ Wd p G G2 ∧ f__law_take [.ref p, .int m] G1 = .ok (.int dg) G2 := by
  obtain ⟨dg, G2, h1, h2, h3, h4⟩ := take_spec (w.has hp) hm hm2
  exact ⟨dg, G2, h1, h2, h3, w.nx hp h3, h4⟩
/-- a list laid, then an item of it by the spring -/
theorem pick_w {G G1 : Hv} {p : Nat} {m : Int} (xs : List VV) (hp : p < G.length) (w : Wd p G G1) (hm : 0 < m) (hm2 : m < 1073741824) (hl : m ≤ xs.length) :
    ∃ dg G2 x, x ∈ xs ∧ Wd p G G2 ∧ f__law_take [.ref p, .int m] (G1 ++ [.lst xs]) = .ok (.int dg) G2 ∧ oIx G2 (.ref G1.length) (.int dg) = some x := by
  obtain ⟨dg, G2, h1, h2, h3, h4, e⟩ := take_w hp (w.more [.lst xs]) hm hm2
  have hg : G2[G1.length]? = some (.lst xs) := by
    rw [h3.get (by have := w.len; omega)]
    simp
  obtain ⟨x, hx, e2⟩ := ix_lit hg h1 (by omega)
  exact ⟨dg, G2, x, hx, h4, e, e2⟩
theorem plan_spec {G : Hv} {p : Nat} (h : HasS G p) : Wp (f__law_plan [.ref p] G) fun v G2 => Nx p G G2 ∧ v ∈ ["behind", "front", "joined", "packed", "any"].map fun s => VV.str (s.toList.map Char.toNat) := by
  have hp := h.lt
  refine Wp_ref ?_
  simp [b__law_plan, start]
  obtain ⟨dg, G2, x, hx, w, e, e2⟩ := pick_w (m := 5) [VV.str [98, 101, 104, 105, 110, 100], VV.str [102, 114, 111, 110, 116], VV.str [106, 111, 105, 110, 101, 100], VV.str [112, 97, 99, 107, 101, 100], VV.str [97, 110, 121]] hp h.wd (by decide) (by decide) (by decide)
  simp [e, e2]
  have hx' : closedV G.length x = true := by simp at hx; rcases hx with rfl | rfl | rfl | rfl | rfl <;> simp
  exact w.end hx' fun G3 n => ⟨n, by simpa using hx⟩
theorem size_spec {G : Hv} {p : Nat} (h : HasS G p) : Wp (f__law_size [.ref p] G) fun v G2 => Nx p G G2 ∧ ∃ k : Int, v = .int k ∧ 1 ≤ k ∧ k ≤ 10 := by
  have hp := h.lt
  refine Wp_ref ?_
  simp [b__law_size, start]
  obtain ⟨d1, G1, h1, h2, n1, w1, e1⟩ := take_w (m := 4) hp h.wd (by decide) (by decide)
  simp [e1]
  exact w1.end (by simp) fun G3 n => ⟨n, _, rfl, by omega, by omega⟩
/-! ### layers -/
abbrev tLook : List Nat := [108, 111, 111, 107]
abbrev tAdd : List Nat := [97, 100, 100]
abbrev tClear : List Nat := [99, 108, 101, 97, 114]
abbrev tRow : List Nat := [114, 111, 119]
abbrev tTrue : List Nat := [116, 114, 117, 101]
abbrev tLine : List Nat := [108, 105, 110, 101]
abbrev tFirst : List Nat := [102, 105, 114, 115, 116]
abbrev tLast : List Nat := [108, 97, 115, 116]
abbrev tAtBack : List Nat := [97, 116, 32, 98, 97, 99, 107]
abbrev tAtAhead : List Nat := [97, 116, 32, 97, 104, 101, 97, 100]
abbrev tBack : List Nat := [98, 97, 99, 107]
abbrev tAhead : List Nat := [97, 104, 101, 97, 100]
abbrev tAround : List Nat := [97, 114, 111, 117, 110, 100]
abbrev lay (w s y : List Nat) (n e : Int) (o sp : Bool) : VV := .tup [.str w, .str s, .str y, .int n, .int e, .bl o, .bl sp]
abbrev clearL : VV := lay tClear [] [] 0 1 false false
def laysOf (w : List Nat) (o sp : Bool) : List VV := ([tFirst, tLast].map fun y => lay w tRow y 0 1 o sp) ++ [tRow, tTrue, tLine].flatMap fun s => ([tAtBack, tAtAhead].flatMap fun y => [1, 2, 3].map fun n => lay w s y n 1 o sp) ++ [tBack, tAhead, tAround].flatMap fun y => [0, 1, 2, 3].flatMap fun n => [1, 2, 3].map fun e => lay w s y n e o sp
def allLays : List VV := clearL :: ([tLook, tAdd].flatMap fun w => [true, false].flatMap fun o => [true, false].flatMap fun sp => if w = tAdd ∧ o = false then [] else laysOf w o sp)
def wid : VV → Int
  | .tup [.str w, _, .str y, .int n, .int e, _, _] => if w = tClear then 0 else if y = tFirst ∨ y = tLast then 1 else if n = 0 then e else n
  | _ => 0
theorem mem_lays {w : List Nat} {o sp : Bool} {l : VV} (hw : w = tLook ∨ w = tAdd) (ho : w = tAdd → o = true) (h : l ∈ laysOf w o sp) : l ∈ allLays := by
  refine List.mem_cons_of_mem _ (List.mem_flatMap.mpr ⟨w, by simpa using hw, List.mem_flatMap.mpr ⟨o, by cases o <;> simp, List.mem_flatMap.mpr ⟨sp, by cases sp <;> simp, ?_⟩⟩⟩)
  rw [if_neg]
  · exact h
  · rintro ⟨h1, h2⟩
    rw [ho h1] at h2
    cases h2
theorem layer_spec {G : Hv} {p : Nat} {room : Int} (h : HasS G p) (r0 : 0 ≤ room) (r3 : room ≤ 3) : Wp (f__law_layer [.ref p, .int room] G) fun v G2 => Nx p G G2 ∧ v ∈ allLays ∧ wid v ≤ room := by
  have hp := h.lt
  refine Wp_ref ?_
  simp [b__law_layer, start]
  obtain ⟨d1, G1, x, hx, w1, e1, e2⟩ := pick_w (m := 5) [VV.str [108, 111, 111, 107], VV.str [97, 100, 100], VV.str [108, 111, 111, 107], VV.str [99, 108, 101, 97, 114], VV.str [108, 111, 111, 107]] hp h.wd (by decide) (by decide) (by decide)
  simp [e1, e2]
  have hx : x = .str tLook ∨ x = .str tAdd ∨ x = .str tClear := by
    simp at hx
    rcases hx with h | h | h | h | h <;> simp [h]
  obtain ⟨word, rfl⟩ : ∃ word, x = .str word := by rcases hx with h | h | h <;> exact ⟨_, h⟩
  have hx : word = tLook ∨ word = tAdd ∨ word = tClear := by simpa using hx
  by_cases hc : word = tClear ∨ room < 1
  · have hc' : word = [99, 108, 101, 97, 114] ∨ room < 1 := hc
    simp [hc']
    exact w1.end (by simp) fun G3 n => ⟨n, List.mem_cons_self .., by simpa [wid] using r0⟩
  · have hc' : ¬ (word = [99, 108, 101, 97, 114] ∨ room < 1) := hc
    have hw : word = tLook ∨ word = tAdd := by
      rcases hx with h | h | h
      · exact .inl h
      · exact .inr h
      · exact (hc (.inl h)).elim
    have hnc : word ≠ tClear := fun h => hc (.inl h)
    have hroom : 1 ≤ room := by
      have : ¬ room < 1 := fun h => hc (.inr h)
      omega
    simp [hc']
    obtain ⟨d2, G2, sc, hsc, w2, e3, e4⟩ := pick_w (m := 3) [VV.str [114, 111, 119], VV.str [116, 114, 117, 101], VV.str [108, 105, 110, 101]] hp w1 (by decide) (by decide) (by decide)
    simp [e3, e4]
    obtain ⟨scope, hscope, rfl⟩ : ∃ s, s ∈ [tRow, tTrue, tLine] ∧ sc = .str s := by
      simp at hsc
      rcases hsc with h | h | h <;> exact ⟨_, by simp, h⟩
    obtain ⟨fm, G3, f1, f2, n3, w3, e5⟩ := take_w (m := 6) hp w2 (by decide) (by decide)
    simp [-dOr_ap, e5]
    have own : ∃ o G4, Wd p G G4 ∧ (word = tAdd → o = true) ∧ dOr (dCmp cEq (dVar 2) (dC (VV.str [97, 100, 100]))) (dCmp cEq (dCall f__law_take (aCons (dVar 0) (aCons (dC (VV.int 2)) aNil))) (dC (VV.int 0)))
        [some (VV.ref p), some (VV.int room), some (VV.str word), some (VV.str scope), some (VV.int fm), none, none, none, none] G3 = .ok (.bl o) G4 := by
      by_cases ha : word = [97, 100, 100]
      · exact ⟨true, G3, w3, fun _ => rfl, by simp [ha]⟩
      · obtain ⟨d, G4, q1, q2, n4, w4, e⟩ := take_w (m := 2) hp w3 (by decide) (by decide)
        exact ⟨decide (d = 0), G4, w4, fun h => (ha h).elim, by simp [ha, e]⟩
    obtain ⟨o, G4, w4, ho, e6⟩ := own
    simp [-dOr_ap, e6]
    obtain ⟨d7, G5, _, _, n5, w5, e7⟩ := take_w (m := 4) hp w4 (by decide) (by decide)
    simp [e7]
    have cl : ∀ y n e sp, closedV G.length (lay word scope y n e o sp) = true := fun y n e sp => by simp
    by_cases h5 : fm = 5
    · simp [h5]
      obtain ⟨d8, G6, y, hy, w6, e8, e9⟩ := pick_w (m := 2) [VV.str [102, 105, 114, 115, 116], VV.str [108, 97, 115, 116]] hp w5 (by decide) (by decide) (by decide)
      simp [e8, e9]
      obtain ⟨way, hway, rfl⟩ : ∃ s, s ∈ [tFirst, tLast] ∧ y = .str s := by
        simp at hy
        rcases hy with h | h <;> exact ⟨_, by simp, h⟩
      refine w6.end (by simp) fun G7 n => ⟨n, mem_lays hw ho (List.mem_append_left _ (List.mem_map.mpr ⟨way, hway, rfl⟩)), ?_⟩
      have : way = tFirst ∨ way = tLast := by simpa using hway
      simp [wid, hnc, this]
      exact hroom
    · simp [h5, bMin2]
      have hm : (if (3 : Int) < room then 3 else room) = room := by rw [if_neg (by omega)]
      obtain ⟨d8, G6, b1, b2, n6, w6, e8⟩ := take_w (m := room) hp w5 (by omega) (by omega)
      simp [hm, e8]
      have hn3 : 1 + d8 = 1 ∨ 1 + d8 = 2 ∨ 1 + d8 = 3 := by omega
      by_cases h4 : fm = 4
      · simp [h4]
        obtain ⟨d9, G7, y, hy, w7, e9, e10⟩ := pick_w (m := 2) [VV.str [97, 116, 32, 98, 97, 99, 107], VV.str [97, 116, 32, 97, 104, 101, 97, 100]] hp w6 (by decide) (by decide) (by decide)
        simp [e9, e10]
        obtain ⟨way, hway, rfl⟩ : ∃ s, s ∈ [tAtBack, tAtAhead] ∧ y = .str s := by
          simp at hy
          rcases hy with h | h <;> exact ⟨_, by simp, h⟩
        refine w7.end (by simp) fun G8 n => ⟨n, mem_lays hw ho (List.mem_append_right _ (List.mem_flatMap.mpr ⟨scope, hscope, List.mem_append_left _ (List.mem_flatMap.mpr ⟨way, hway, List.mem_map.mpr ⟨1 + d8, by simpa using hn3, rfl⟩⟩)⟩)), ?_⟩
        have : ¬ (way = tFirst ∨ way = tLast) := by
          simp at hway
          rcases hway with h | h <;> rw [h] <;> simp
        have h0 : 1 + d8 ≠ 0 := by omega
        simp [wid, hnc, this, h0]
        omega
      · simp [h4]
        obtain ⟨d9, G7, y, hy, w7, e9, e10⟩ := pick_w (m := 3) [VV.str [98, 97, 99, 107], VV.str [97, 104, 101, 97, 100], VV.str [97, 114, 111, 117, 110, 100]] hp w6 (by decide) (by decide) (by decide)
        simp [e9, e10]
        obtain ⟨way, hway, rfl⟩ : ∃ s, s ∈ [tBack, tAhead, tAround] ∧ y = .str s := by
          simp at hy
          rcases hy with h | h | h <;> exact ⟨_, by simp, h⟩
        have hnf : ¬ (way = tFirst ∨ way = tLast) := by
          simp at hway
          rcases hway with h | h | h <;> rw [h] <;> simp
        have mem : ∀ (n e : Int) (sp : Bool), n ∈ [(0 : Int), 1, 2, 3] → e ∈ [(1 : Int), 2, 3] → lay word scope way n e o sp ∈ allLays := fun n e sp hn he =>
          mem_lays hw ho (List.mem_append_right _ (List.mem_flatMap.mpr ⟨scope, hscope, List.mem_append_right _ (List.mem_flatMap.mpr ⟨way, hway, List.mem_flatMap.mpr ⟨n, hn, List.mem_map.mpr ⟨e, he, rfl⟩⟩⟩)⟩))
        by_cases h3 : fm = 3
        · simp [h3]
          refine w7.end (by simp) fun G8 n => ⟨n, mem 0 (1 + d8) _ (by simp) (by simpa using hn3), ?_⟩
          simp [wid, hnc, hnf]
          omega
        · simp [h3]
          obtain ⟨d10, G8, ev, hev, w8, e11, e12⟩ := pick_w (m := 4) [VV.int 1, VV.int 1, VV.int 2, VV.int 3] hp w7 (by decide) (by decide) (by decide)
          simp [e11, e12]
          obtain ⟨every, hevery, rfl⟩ : ∃ s, s ∈ [(1 : Int), 2, 3] ∧ ev = .int s := by
            simp at hev
            rcases hev with h | h | h <;> exact ⟨_, by simp, h⟩
          refine w8.end (by simp) fun G9 n => ⟨n, mem (1 + d8) every _ (by simp; omega) hevery, ?_⟩
          have h0 : 1 + d8 ≠ 0 := by omega
          simp [wid, hnc, hnf, h0]
          omega

/-! ### lines -/
theorem size_w {G G1 : Hv} {p : Nat} (hp : p < G.length) (w : Wd p G G1) : ∃ (k : Int) (G2 : Hv), 1 ≤ k ∧ k ≤ 10 ∧ Wd p G G2 ∧ f__law_size [.ref p] G1 = .ok (.int k) G2 := by
  obtain ⟨v, G2, e, n, k, rfl, h1, h2⟩ := size_spec (w.has hp)
  exact ⟨k, G2, h1, h2, w.nx hp n, e⟩
structure Line (xs : List Int) (k : Nat) : Prop where
  ne : xs ≠ []
  le : xs.length ≤ k
  ok : ∀ x ∈ xs, x ≠ 0 ∧ -10 ≤ x ∧ x ≤ 10
theorem Line.mono {xs : List Int} {k j : Nat} (h : Line xs k) (l : k ≤ j) : Line xs j := ⟨h.ne, Nat.le_trans h.le l, h.ok⟩
theorem Line.snoc {xs : List Int} {k : Nat} {x : Int} (h : Line xs k) (h0 : x ≠ 0) (h1 : -10 ≤ x) (h2 : x ≤ 10) : Line (xs ++ [x]) (k + 1) := ⟨by simp, by have := h.le; simp; omega, fun y hy => by
  rcases List.mem_append.mp hy with hy | hy
  · exact h.ok y hy
  · rw [List.mem_singleton.mp hy]; exact ⟨h0, h1, h2⟩⟩
theorem Line.cons {xs : List Int} {k : Nat} {x : Int} (h : ∀ y ∈ xs, y ≠ 0 ∧ -10 ≤ y ∧ y ≤ 10) (hl : xs.length ≤ k) (h0 : x ≠ 0) (h1 : -10 ≤ x) (h2 : x ≤ 10) : Line (x :: xs) (k + 1) := ⟨by simp, by simp; omega, fun y hy => by
  rcases List.mem_cons.mp hy with hy | hy
  · rw [hy]; exact ⟨h0, h1, h2⟩
  · exact h y hy⟩
theorem closedL_ints (n : Nat) : ∀ xs : List Int, closedL n (xs.map VV.int) = true
  | [] => by simp
  | x :: xs => by simp [closedL_ints n xs]
theorem last_int {xs : List Int} (h : xs ≠ []) (G : Hv) : ∃ z, oIx G (.tup (xs.map VV.int)) (.int (-1)) = some (.int z) := by
  have hl : 0 < xs.length := List.length_pos_iff.mpr h
  refine ⟨xs[xs.length - 1], ?_⟩
  unfold oIx
  simp only [asSeq, atI, ixN, List.length_map]
  rw [if_neg (by decide), if_pos (by omega)]
  have e : (-1 + (xs.length : Int)).toNat = xs.length - 1 := by omega
  simp only [e, List.getElem?_map]
  rw [List.getElem?_eq_getElem (by omega)]
  rfl
def lnS (p : Nat) (laid : List Nat) (xs : List Int) (t u : Option VV) : Env := [some (.ref p), some (.str laid), some (.tup (xs.map VV.int)), t, u]
theorem loop_joined {G0 G : Hv} {p : Nat} {laid : List Nat} {xs : List Int} (hp : p < G0.length) (w : Wd p G0 G) (hx : Line xs 1) (n : Nat) (hn : n ≤ 4) (t u : Option VV) :
    ∃ ys t2 G', forL [] (gName 3) (sAsg (dBin oAdd (dVar 2) (dTup (aCons (dCall f__law_size (aCons (dVar 0) aNil)) aNil))) (gName 2)) (upTo 0 n) [some (.ref p), some (.str laid), some (.tup (xs.map VV.int)), t, u] G = .nx [some (.ref p), some (.str laid), some (.tup (ys.map VV.int)), t2, u] G' ∧ Wd p G0 G' ∧ Line ys 5 := by
  obtain ⟨S', G', e, ys, t', hS, w', hl⟩ := forL_inv (fun i S G => ∃ (ys : List Int) (t : Option VV), S = [some (.ref p), some (.str laid), some (.tup (ys.map VV.int)), t, u] ∧ Wd p G0 G ∧ Line ys (1 + i)) (upTo 0 n) 0 _ _ ⟨xs, t, rfl, w, hx⟩ (g := gName 3) (b := sAsg (dBin oAdd (dVar 2) (dTup (aCons (dCall f__law_size (aCons (dVar 0) aNil)) aNil))) (gName 2)) (by
    rintro j S G x hx h0 hj ⟨ys, t, rfl, w, hl⟩
    rw [upTo_len] at hj
    obtain ⟨k, G2, k1, k2, w2, e⟩ := size_w hp w
    have hle := hl.le
    refine ⟨[some (.ref p), some (.str laid), some (.tup (ys.map VV.int)), some x, u], G, [some (.ref p), some (.str laid), some (.tup ((ys ++ [k]).map VV.int)), some x, u], G2, by simp, ?_, ys ++ [k], some x, rfl, w2, (hl.snoc (by omega) (by omega) (by omega)).mono (by omega)⟩
    have hlim : ys.length + 1 ≤ 16777216 := by omega
    simp [e, hlim])
  exact ⟨ys, t', G', by rw [← hS]; exact e, w', hl.mono (by rw [upTo_len]; omega)⟩
abbrev bAny0 : DS := dSeq (sAsg (dIf (tAnd (tV (dCmp cGt (dIx (dVar 2) (dUn oNeg (dC (.int 1)))) (dC (.int 0)))) (tV (dCmp cEq (dCall f__law_take (aCons (dVar 0) (aCons (dC (.int 2)) (aNil)))) (dC (.int 0))))) (dUn oNeg (dC (.int 1))) (dC (.int 1))) (gName 4)) (
  sAsg (dBin oAdd (dVar 2) (dTup (aCons (dBin oMul (dVar 4) (dCall f__law_size (aCons (dVar 0) (aNil)))) (aNil)))) (gName 2))
theorem loop_any {G0 G : Hv} {p : Nat} {laid : List Nat} {xs : List Int} (hp : p < G0.length) (w : Wd p G0 G) (hx : Line xs 1) (n : Nat) (hn : n ≤ 4) (t u : Option VV) :
    ∃ ys t2 u2 G', forL [] (gName 3) bAny0 (upTo 0 n) [some (.ref p), some (.str laid), some (.tup (xs.map VV.int)), t, u] G = .nx [some (.ref p), some (.str laid), some (.tup (ys.map VV.int)), t2, u2] G' ∧ Wd p G0 G' ∧ Line ys 5 := by
  obtain ⟨S', G', e, ys, t', u', hS, w', hl⟩ := forL_inv (fun i S G => ∃ (ys : List Int) (t u : Option VV), S = [some (.ref p), some (.str laid), some (.tup (ys.map VV.int)), t, u] ∧ Wd p G0 G ∧ Line ys (1 + i)) (upTo 0 n) 0 _ _ ⟨xs, t, u, rfl, w, hx⟩ (g := gName 3) (b := bAny0) (by
    rintro j S G x hx h0 hj ⟨ys, t, u, rfl, w, hl⟩
    rw [upTo_len] at hj
    have hle := hl.le
    have hlim : ys.length + 1 ≤ 16777216 := by omega
    obtain ⟨z, hz⟩ := last_int hl.ne G
    have sg : ∃ (s : Int) (G2 : Hv), (s = 1 ∨ s = -1) ∧ Wd p G0 G2 ∧ dIf (tAnd (tV (dCmp cGt (dIx (dVar 2) (dUn oNeg (dC (.int 1)))) (dC (.int 0)))) (tV (dCmp cEq (dCall f__law_take (aCons (dVar 0) (aCons (dC (.int 2)) (aNil)))) (dC (.int 0))))) (dUn oNeg (dC (.int 1))) (dC (.int 1))
        [some (.ref p), some (.str laid), some (.tup (ys.map VV.int)), some x, u] G = .ok (.int s) G2 := by
      by_cases h : 0 < z
      · obtain ⟨d, G2, q1, q2, n4, w4, e⟩ := take_w (m := 2) hp w (by decide) (by decide)
        by_cases hd : d = 0
        · exact ⟨-1, G2, .inr rfl, w4, by simp [hz, h, e, hd]⟩
        · exact ⟨1, G2, .inl rfl, w4, by simp [hz, h, e, hd]⟩
      · exact ⟨1, G, .inl rfl, w, by simp [hz, h]⟩
    obtain ⟨s, G2, hs, w2, e2⟩ := sg
    obtain ⟨k, G3, k1, k2, w3, e3⟩ := size_w hp w2
    have hm : MulOk s k := mulOkN (by omega) (by omega)
    have hsk : s * k = k ∨ s * k = -k := by
      rcases hs with h | h <;> rw [h] <;> omega
    refine ⟨[some (.ref p), some (.str laid), some (.tup (ys.map VV.int)), some x, u], G, [some (.ref p), some (.str laid), some (.tup ((ys ++ [s * k]).map VV.int)), some x, some (.int s)], G3, by simp, ?_, ys ++ [s * k], some x, some (.int s), rfl, w3, (hl.snoc (by omega) (by omega) (by omega)).mono (by omega)⟩
    simp [-dIf_ap, e2, e3, hm, hlim])
  exact ⟨ys, t', u', G', by rw [← hS]; exact e, w', hl.mono (by rw [upTo_len]; omega)⟩
/-- a negative piece more, at the end | at the front -/
theorem line_spec {G : Hv} {p : Nat} {laid : List Nat} (h : HasS G p) (hl : VV.str laid ∈ ["behind", "front", "joined", "packed", "any"].map fun s => VV.str (s.toList.map Char.toNat)) :
    Wp (f__law_line [.ref p, .str laid] G) fun v G2 => Nx p G G2 ∧ ∃ xs, v = .tup (xs.map VV.int) ∧ Line xs 7 := by
  have hp := h.lt
  refine Wp_ref ?_
  obtain ⟨k, G1, k1, k2, w1, e1⟩ := size_w hp h.wd
  have l1 : Line [k] 1 := ⟨by simp, by simp, fun x hx => by rw [List.mem_singleton.mp hx]; omega⟩
  have fin : ∀ (xs : List Int) (G2 : Hv), Line xs 7 → Wd p G G2 → Wp (gcR G (.ok (.tup (xs.map VV.int)) G2)) fun v G2 => Nx p G G2 ∧ ∃ xs, v = .tup (xs.map VV.int) ∧ Line xs 7 := fun xs G2 hx w => w.end (by simp [closedL_ints]) fun G3 n => ⟨n, xs, rfl, hx⟩
  simp at hl
  rcases hl with rfl | rfl | rfl | rfl | rfl <;> simp [b__law_line, start, e1]
  · -- behind
    obtain ⟨d, G2, d0, d1, n2, w2, e2⟩ := take_w (m := 4) hp (w1.more [VO.lst [VV.str [106, 111, 105, 110, 101, 100], VV.str [112, 97, 99, 107, 101, 100]], VO.lst [VV.str [98, 101, 104, 105, 110, 100], VV.str [112, 97, 99, 107, 101, 100]]]) (by decide) (by decide)
    by_cases hd : 0 < d
    · obtain ⟨k', G3, q1, q2, w3, e3⟩ := size_w hp w2
      simp [e2, hd, e3]
      exact fin [k, -k'] G3 ((l1.snoc (x := -k') (by omega) (by omega) (by omega)).mono (by omega)) w3
    · simp [e2, hd]
      exact fin [k] G2 (l1.mono (by omega)) w2
  · -- front
    obtain ⟨d, G2, d0, d1, n2, w2, e2⟩ := take_w (m := 4) hp (w1.more [VO.lst [VV.str [106, 111, 105, 110, 101, 100], VV.str [112, 97, 99, 107, 101, 100]], VO.lst [VV.str [98, 101, 104, 105, 110, 100], VV.str [112, 97, 99, 107, 101, 100]]]) (by decide) (by decide)
    by_cases hd : 0 < d
    · obtain ⟨k', G3, q1, q2, w3, e3⟩ := size_w hp w2
      simp [e2, hd, e3]
      exact fin [-k', k] G3 ((Line.cons (k := 1) (x := -k') l1.ok (by simp) (by omega) (by omega) (by omega)).mono (by omega)) w3
    · simp [e2, hd]
      exact fin [k] G2 (l1.mono (by omega)) w2
  · -- joined
    obtain ⟨d, G2, d0, d1, n2, w2, e2⟩ := take_w (m := 4) hp (w1.more [VO.lst [VV.str [106, 111, 105, 110, 101, 100], VV.str [112, 97, 99, 107, 101, 100]]]) (by decide) (by decide)
    have hr : mid d = true := mid_of (by omega)
    obtain ⟨ys, t2, G3, e3, w3, hy⟩ := loop_joined (laid := [106, 111, 105, 110, 101, 100]) hp w2 l1 d.toNat (by omega) none none
    simp at e3
    simp [e2, rangeOf1, hr, e3]
    exact fin ys _ (hy.mono (by omega)) (w3.more _)
  · -- packed
    obtain ⟨d, G2, d0, d1, n2, w2, e2⟩ := take_w (m := 4) hp (w1.more [VO.lst [VV.str [106, 111, 105, 110, 101, 100], VV.str [112, 97, 99, 107, 101, 100]]]) (by decide) (by decide)
    have hr : mid d = true := mid_of (by omega)
    obtain ⟨ys, t2, G3, e3, w3, hy⟩ := loop_joined (laid := [112, 97, 99, 107, 101, 100]) hp w2 l1 d.toNat (by omega) none none
    simp at e3
    simp [e2, rangeOf1, hr, e3]
    obtain ⟨d, G4, d0, d1, n4, w4, e4⟩ := take_w (m := 4) hp (w3.more [VO.lst [VV.str [98, 101, 104, 105, 110, 100], VV.str [112, 97, 99, 107, 101, 100]]]) (by decide) (by decide)
    have hlim : ys.length + 1 ≤ 16777216 := by have := hy.le; omega
    by_cases hd : 0 < d
    · obtain ⟨k', G5, q1, q2, w5, e5⟩ := size_w hp w4
      simp [e4, hd, e5, hlim]
      have := fin (ys ++ [-k']) G5 ((hy.snoc (x := -k') (by omega) (by omega) (by omega)).mono (by omega)) w5
      simpa using this
    · simp [e4, hd]
      exact fin ys G4 (hy.mono (by omega)) w4
  · -- any
    obtain ⟨d, G2, d0, d1, n2, w2, e2⟩ := take_w (m := 4) hp (w1.more [VO.lst [VV.str [106, 111, 105, 110, 101, 100], VV.str [112, 97, 99, 107, 101, 100]]]) (by decide) (by decide)
    have hr : mid d = true := mid_of (by omega)
    obtain ⟨ys, t2, u2, G3, e3, w3, hy⟩ := loop_any (laid := [97, 110, 121]) hp w2 l1 d.toNat (by omega) none none
    simp at e3
    simp [e2, rangeOf1, hr, e3]
    obtain ⟨d, G4, d0, d1, n4, w4, e4⟩ := take_w (m := 3) hp w3 (by decide) (by decide)
    by_cases hd : d = 0
    · obtain ⟨k', G5, q1, q2, w5, e5⟩ := size_w hp w4
      have hcl : 1 + (cut (ys.map VV.int) none (some 3)).length ≤ 16777216 := by
        have h1 := cut_len (ys.map VV.int) none (some 3)
        have h2 := hy.le
        rw [List.length_map] at h1
        omega
      simp [e4, hd, e5, hcl]
      have hc : Line (-k' :: cut ys none (some 3)) 6 := Line.cons (fun y hm => hy.ok y (cut_mem hm)) (Nat.le_trans (cut_len _ _ _) hy.le) (by omega) (by omega) (by omega)
      have := fin _ (G5 ++ [VO.lst [VV.str [98, 101, 104, 105, 110, 100], VV.str [112, 97, 99, 107, 101, 100]]]) (hc.mono (by omega)) (w5.more _)
      rw [List.map_cons, ← cut_map] at this
      exact this
    · simp [e4, hd]
      exact fin ys _ (hy.mono (by omega)) (w4.more _)
end DL
end S_A70
section S_B70
set_option linter.all false
set_option maxRecDepth 1000000
set_option maxHeartbeats 4000000
/-! B69: texts and parts of k69's layers: all are looked through. -/
namespace DL
abbrev cPart : Nat := 1953653072
abbrev cProgram : Nat := 30787916450984528
def partV : VV → VO
  | .tup [w, s, y, n, e, o, sp] => .ins cPart [(1685221239, w), (435678045043, s), (7954807, y), (125779768604014, n), (521610294885, e), (7239535, o), (435710685299, sp)]
  | _ => .lst []
def txtO (l : VV) : Option (List Nat) := match f__law_text [l] [] with
  | .ok (.str t) [] => some t
  | _ => none
def txt (l : VV) : List Nat := (txtO l).getD []
def chk (l : VV) : Bool := match txtO l with
  | some t => (match f_part_of [.str t] [] with
    | .ok (.ref k) Gp => decide (Gp[k]? = some (partV l))
    | _ => false) && !t.contains 10
  | none => false
def isLay : VV → Bool
  | .tup [.str w, .str s, .str y, .int n, .int e, .bl o, .bl sp] => true
  | _ => false
def chkP (i : Nat) : Bool := ((allLays.drop (60 * i)).take 60).all chk
theorem chk_p0 : chkP 0 = true := by decide +kernel
theorem chk_p1 : chkP 1 = true := by decide +kernel
theorem chk_p2 : chkP 2 = true := by decide +kernel
theorem chk_p3 : chkP 3 = true := by decide +kernel
theorem chk_p4 : chkP 4 = true := by decide +kernel
theorem chk_p5 : chkP 5 = true := by decide +kernel
theorem chk_p6 : chkP 6 = true := by decide +kernel
theorem chk_p7 : chkP 7 = true := by decide +kernel
theorem chk_p8 : chkP 8 = true := by decide +kernel
theorem chk_p9 : chkP 9 = true := by decide +kernel
theorem chk_p10 : chkP 10 = true := by decide +kernel
theorem chk_p11 : chkP 11 = true := by decide +kernel
theorem chk_p12 : chkP 12 = true := by decide +kernel
theorem chk_ps : ∀ i : Nat, i < 13 → chkP i = true
  | 0, _ => chk_p0
  | 1, _ => chk_p1
  | 2, _ => chk_p2
  | 3, _ => chk_p3
  | 4, _ => chk_p4
  | 5, _ => chk_p5
  | 6, _ => chk_p6
  | 7, _ => chk_p7
  | 8, _ => chk_p8
  | 9, _ => chk_p9
  | 10, _ => chk_p10
  | 11, _ => chk_p11
  | 12, _ => chk_p12
  | n + 13, h => absurd h (by omega)
theorem all_pieces {p : VV → Bool} : ∀ (n : Nat) (L : List VV), L.length ≤ 60 * n → (∀ i, i < n → ((L.drop (60 * i)).take 60).all p = true) → L.all p = true
  | 0, L, hl, _ => by
    have : L = [] := List.length_eq_zero_iff.mp (by omega)
    rw [this]; rfl
  | n + 1, L, hl, h => by
    have h0 := h 0 (by omega)
    have ih := all_pieces n (L.drop 60) (by rw [List.length_drop]; omega) fun i hi => by
      have := h (i + 1) (by omega)
      rw [List.drop_drop, show 60 + 60 * i = 60 * (i + 1) by omega]
      exact this
    rw [← List.take_append_drop 60 L, List.all_append, ih, Bool.and_true]
    simpa using h0
theorem allLays_len : allLays.length ≤ 60 * 13 := by decide +kernel
theorem chk_all : allLays.all chk = true := all_pieces 13 allLays allLays_len chk_ps
theorem lay_all : allLays.all isLay = true := by decide +kernel
end DL
end S_B70
section S_C70
set_option linter.all false
set_option maxRecDepth 1000000
set_option maxHeartbeats 4000000
/-! C69: programs of k69. -/
namespace DL
theorem lay_of {l : VV} (h : l ∈ allLays) : ∃ w s y n e o sp, l = lay w s y n e o sp := by
  have := List.all_eq_true.mp lay_all l h
  unfold isLay at this
  split at this
  · exact ⟨_, _, _, _, _, _, _, rfl⟩
  · cases this
theorem closed_lay {l : VV} (h : l ∈ allLays) (n : Nat) : closedV n l = true := by
  obtain ⟨w, s, y, k, e, o, sp, rfl⟩ := lay_of h
  simp
theorem chk_at {l : VV} (h : l ∈ allLays) : f__law_text [l] [] = .ok (.str (txt l)) [] ∧ (∃ k E, f_part_of [.str (txt l)] [] = .ok (.ref k) E ∧ E[k]? = some (partV l)) ∧ 10 ∉ txt l := by
  have c := List.all_eq_true.mp chk_all l h
  unfold chk at c
  cases ht : txtO l with
  | none => rw [ht] at c; cases c
  | some t =>
    rw [ht] at c
    have e : txt l = t := by unfold txt; rw [ht]; rfl
    rw [e]
    simp only [Bool.and_eq_true, Bool.not_eq_true'] at c
    obtain ⟨c1, c2⟩ := c
    refine ⟨?_, ?_, ?_⟩
    · unfold txtO at ht
      split at ht
      · rename_i t' e'
        cases ht
        exact e'
      · cases ht
    · split at c1
      · rename_i k E e'
        exact ⟨k, E, e', of_decide_eq_true c1⟩
      · cases c1
    · intro hm
      have : t.contains 10 = true := by simpa using hm
      rw [this] at c2
      cases c2
theorem text_eq {l : VV} (h : l ∈ allLays) (G : Hv) : f__law_text [l] G = .ok (.str (txt l)) G := loc_val (by simp [closed_lay h]) (chk_at h).1 (by simp) G
theorem partV_sh {l : VV} (h : l ∈ allLays) (n : Nat) : shO n (partV l) = partV l := by
  obtain ⟨w, s, y, k, e, o, sp, rfl⟩ := lay_of h
  show shO n (.ins cPart _) = .ins cPart _
  rw [shO, shF_closed n (by simp [closedF])]
theorem part_eq {l : VV} (h : l ∈ allLays) (G : Hv) : ∃ k E, f_part_of [.str (txt l)] G = .ok (.ref (G.length + k)) (G ++ E) ∧ (G ++ E)[G.length + k]? = some (partV l) := by
  obtain ⟨k, E, e1, e2⟩ := (chk_at h).2.1
  refine ⟨k, E.map (shO G.length), loc_ref (by simp) e1 G, ?_⟩
  rw [List.getElem?_append_right (Nat.le_add_right _ _), Nat.add_sub_cancel_left, List.getElem?_map, e2]
  simp [partV_sh h]
theorem width_eq {G : Hv} {p : Nat} {l : VV} (hl : l ∈ allLays) (h : G[p]? = some (partV l)) : f_width_of [.ref p] G = .ok (.int (wid l)) G := by
  obtain ⟨w, s, y, k, e, o, sp, rfl⟩ := lay_of hl
  unfold f_width_of
  rw [dDef_ref (k := 1) (vs := [.ref p]) rfl (by simp)]
  unfold partV at h
  have f : ∀ (f : Nat) (v : VV), look f [(1685221239, VV.str w), (435678045043, .str s), (7954807, .str y), (125779768604014, .int k), (521610294885, .int e), (7239535, .bl o), (435710685299, .bl sp)] = some v → oFld cPart f G (.ref p) = some v := fun f v hf => by
    unfold oFld
    simp only [h]
    simpa using hf
  have f1 := f 1685221239 (.str w) rfl
  have f2 := f 7954807 (.str y) rfl
  have f3 := f 125779768604014 (.int k) rfl
  have f4 := f 521610294885 (.int e) rfl
  simp [b_width_of, start, f1, wid]
  by_cases h1 : w = [99, 108, 101, 97, 114]
  · simp [h1, gc_pure0]
  · simp [h1]
    by_cases h2 : [102, 105, 114, 115, 116] = y ∨ [108, 97, 115, 116] = y
    · have h2' : y = [102, 105, 114, 115, 116] ∨ y = [108, 97, 115, 116] := h2.imp Eq.symm Eq.symm
      simp [f2, h2, h2', gc_pure0]
    · have h2' : ¬ (y = [102, 105, 114, 115, 116] ∨ y = [108, 97, 115, 116]) := fun h => h2 (h.imp Eq.symm Eq.symm)
      simp [f2, f3, h2, h2']
      by_cases h3 : k = 0 <;> simp [f4, h3, gc_pure0]
theorem wid_all : allLays.all (fun l => decide (0 ≤ wid l)) = true := by decide +kernel
theorem wid0 {l : VV} (h : l ∈ allLays) : 0 ≤ wid l := of_decide_eq_true (List.all_eq_true.mp wid_all l h)
def wsum (ls : List VV) : Int := (ls.map wid).sum
theorem wsum_take {ls : List VV} (h : ∀ l ∈ ls, l ∈ allLays) (j : Nat) : wsum (ls.take j) ≤ wsum ls := by
  have : ∀ ls : List VV, (∀ l ∈ ls, l ∈ allLays) → 0 ≤ wsum ls := fun ls => by
    induction ls with
    | nil => exact fun _ => Int.le_refl _
    | cons a r ih =>
      intro h
      have h1 := wid0 (h a (List.mem_cons_self ..))
      have h2 := ih fun l hl => h l (List.mem_cons_of_mem _ hl)
      unfold wsum at h2 ⊢
      rw [List.map_cons, List.sum_cons]
      omega
  have e : wsum ls = wsum (ls.take j) + wsum (ls.drop j) := by
    unfold wsum
    rw [← List.sum_append, ← List.map_append, List.take_append_drop]
  have := this (ls.drop j) fun l hl => h l (List.mem_of_mem_drop hl)
  omega
theorem wsum_succ {ls : List VV} {j : Nat} {l : VV} (h : ls[j]? = some l) : wsum (ls.take (j + 1)) = wsum (ls.take j) + wid l := by
  unfold wsum
  rw [List.take_succ, h]
  simp
theorem numG : ∀ (xs : List VV) (n : Int) (i : Nat), (num n xs)[i]? = xs[i]?.map fun x => .tup [.int (n + i), x]
  | [], _, i => by simp [num]
  | x :: xs, n, 0 => by simp [num]
  | x :: xs, n, i + 1 => by
    rw [num, List.getElem?_cons_succ, List.getElem?_cons_succ, numG xs (n + 1) i]
    have e : n + 1 + (i : Int) = n + ((i + 1 : Nat) : Int) := by omega
    rw [e]
abbrev texts (ls : List VV) : List VV := ls.map fun l => .str (txt l)
theorem first_wrong_run {G : Hv} {x : VV} {ls : List VV} {chk : List (Nat × VO)} (hs : seqOf G x = some (texts ls, chk)) (hst : ∀ E, stays (G ++ E) chk = true) (hl : ∀ l ∈ ls, l ∈ allLays) (h4 : ls.length ≤ 4) (h8 : wsum ls ≤ 8) :
    ∃ E, b_first_wrong [some x, none, none, none, none] G = .rt .non (G ++ E) := by
  obtain ⟨S', G', e, E, t2, t3, t4, rfl, rfl⟩ := forL_invC (chk := chk) (g := gTup [gName 2, gName 3]) (b := dSeq (sAsg (dCall f_part_of (aCons (dVar 3) (aNil))) (gName 4)) (
    dSeq (sIf (tOr (tV (dCmp cEq (dVar 2) (dC c_MOST_LAYERS))) (tOr (tV (dIsN (dVar 4))) (tV (dCmp cGt (dBin oAdd (dVar 1) (dCall f_width_of (aCons (dVar 4) (aNil)))) (dC c_MOST_WIDTH))))) (dRet (dVar 2)) (dNext)) (
    sAug aAdd 1 (dCall f_width_of (aCons (dVar 4) (aNil))))))
    (fun j S G' => ∃ E t2 t3 t4, G' = G ++ E ∧ S = [some x, some (.int (wsum (ls.take j))), t2, t3, t4]) (fun j S G' ⟨E, _, _, _, e, _⟩ => by rw [e]; exact hst E) (num 0 (texts ls)) 0 [some x, some (.int 0), none, none, none] G ⟨[], none, none, none, by simp, by simp [wsum]⟩ (by
    rintro j S G' y hy _ ⟨E, t2, t3, t4, rfl, rfl⟩
    rw [Nat.sub_zero, numG, List.getElem?_map] at hy
    cases hlj : ls[j]? with
    | none => rw [hlj] at hy; cases hy
    | some l =>
      rw [hlj] at hy
      simp at hy
      subst hy
      have hm : l ∈ allLays := hl l (List.mem_of_getElem? hlj)
      have hj : j < ls.length := (List.getElem?_eq_some_iff.mp hlj).1
      obtain ⟨k, E2, e2, e3⟩ := part_eq hm (G ++ E)
      have hw := width_eq hm e3
      have hle : wsum (ls.take (j + 1)) ≤ 8 := Int.le_trans (wsum_take hl _) h8
      rw [wsum_succ hlj] at hle
      have n4 : ¬ (j : Int) = 4 := by omega
      have n8 : ¬ (8 : Int) < wsum (ls.take j) + wid l := by omega
      simp at e2 hw
      refine ⟨[some x, some (.int (wsum (ls.take j))), some (.int j), some (.str (txt l)), t4], G ++ E, [some x, some (.int (wsum (ls.take (j + 1)))), some (.int j), some (.str (txt l)), some (.ref (G.length + E.length + k))], (G ++ E) ++ E2, by simp, ?_, E ++ E2, some (.int j), some (.str (txt l)), some (.ref (G.length + E.length + k)), by simp, rfl⟩
      rw [wsum_succ hlj]
      simp [e2, hw, n4, n8, c_MOST_LAYERS, c_MOST_WIDTH])
  refine ⟨E, ?_⟩
  simp [b_first_wrong, enumOf, hs]
  rw [e]
  simp
theorem first_wrong_ref {G : Hv} {p : Nat} {ls : List VV} (h : G[p]? = some (.lst (texts ls))) (hl : ∀ l ∈ ls, l ∈ allLays) (h4 : ls.length ≤ 4) (h8 : wsum ls ≤ 8) : f_first_wrong [.ref p] G = .ok .non G := by
  have hp := (List.getElem?_eq_some_iff.mp h).1
  obtain ⟨E, e⟩ := first_wrong_run (G := G) (x := .ref p) (chk := [(p, .lst (texts ls))]) (by simp [seqOf, h]) (fun E => by simp [stays, List.getElem?_append_left hp, h]) hl h4 h8
  unfold f_first_wrong
  rw [dDef_ref (k := 1) (vs := [.ref p]) rfl (by simp)]
  show gcR G (outR (b_first_wrong [some (.ref p), none, none, none, none] G)) = _
  rw [e]
  exact gc_pure (by simp)
theorem closed_texts (n : Nat) : ∀ ls : List VV, closedL n (texts ls) = true
  | [] => by simp
  | l :: ls => by simp [closed_texts n ls]
theorem first_wrong_tup {G : Hv} {ls : List VV} (hl : ∀ l ∈ ls, l ∈ allLays) (h4 : ls.length ≤ 4) (h8 : wsum ls ≤ 8) : f_first_wrong [.tup (texts ls)] G = .ok .non G := by
  obtain ⟨E, e⟩ := first_wrong_run (G := []) (x := .tup (texts ls)) (chk := []) (by simp [seqOf]) (fun E => by simp [stays]) hl h4 h8
  refine loc_val (by simp [closed_texts]) ?_ (by simp) G
  rw [dDef_val (k := 1) (vs := [.tup (texts ls)]) rfl (by simp [closed_texts])]
  show reloc [] (gcR [] (outR (b_first_wrong [some (.tup (texts ls)), none, none, none, none] []))) = _
  rw [e, reloc_nil]
  exact gc_pure (by simp)
/-! ### the program -/
theorem len_all : allLays.all (fun l => decide ((txt l).length ≤ 100)) = true := by decide +kernel
theorem txt_len {l : VV} (h : l ∈ allLays) : (txt l).length ≤ 100 := of_decide_eq_true (List.all_eq_true.mp len_all l h)
def wholeText (ls : List VV) : List Nat := joinS [10] (ls.map txt)
theorem toPD_texts (G : Hv) (n : Nat) : ∀ ls : List VV, mapO (toPD G (n + 1)) (texts ls) = some (ls.map fun l => .str (txt l))
  | [] => rfl
  | l :: ls => by
    show mapO _ (VV.str (txt l) :: texts ls) = _
    rw [mapO_cons, toPD_texts G n ls]
    rfl
theorem split_text {ls : List VV} (h0 : ls ≠ []) (hl : ∀ l ∈ ls, l ∈ allLays) (h4 : ls.length ≤ 4) (G : Hv) : mSplit (.str (wholeText ls)) [.str [10]] G = some (.ref G.length, G ++ [.lst (texts ls)]) := by
  have e : splitC 10 (wholeText ls) = ls.map txt := split_join (by simpa using h0) fun w hw => by
    obtain ⟨l, hm, rfl⟩ := List.mem_map.mp hw
    exact (chk_at (hl l hm)).2.2
  have hlen : (wholeText ls).length + 2 ≤ LIM := by
    have := join_len (c := 10) (m := 100) (ws := ls.map txt) fun w hw => by
      obtain ⟨l, hm, rfl⟩ := List.mem_map.mp hw
      exact txt_len (hl l hm)
    rw [List.length_map] at this
    unfold wholeText
    have h5 : ls.length * (100 + 1) ≤ 4 * 101 := Nat.mul_le_mul_right _ h4
    show _ ≤ 16777216
    omega
  unfold mSplit
  simp only [hlen, if_true, e, newL, List.map_map]
  rfl
abbrev progV (ls : List VV) : VO := .ins cProgram [(495622973804, .tup (texts ls))]
theorem init_eq {ls : List VV} {G : Hv} {p : Nat} (h0 : ls ≠ []) (hl : ∀ l ∈ ls, l ∈ allLays) (h4 : ls.length ≤ 4) (h8 : wsum ls ≤ 8) (h : G[p]? = some (.ins cProgram [])) : f_ProgramX_initX [.ref p, .tup (texts ls)] G = .ok .non (G.set p (progV ls)) := by
  unfold f_ProgramX_initX
  rw [dDef_ref (k := 2) (vs := [.ref p, .tup (texts ls)]) rfl (by simp)]
  have hne : oEq G (.tup (texts ls)) (.tup []) = some false := by
    unfold oEq
    cases ls with
    | nil => exact (h0 rfl).elim
    | cons a r =>
      rw [DEPTH_eq, toPD_tup, toPD_texts]
      simp
  simp [b_ProgramX_initX, start, isTy, hne, first_wrong_tup hl h4 h8, h, put]
  exact gc_set0 (by simp) (by simp [closedO, closedF, closed_texts])
theorem read_eq {ls : List VV} (h0 : ls ≠ []) (hl : ∀ l ∈ ls, l ∈ allLays) (h4 : ls.length ≤ 4) (h8 : wsum ls ≤ 8) (G : Hv) : f_Program_read [.cls cProgram, .str (wholeText ls)] G = .ok (.ref (G.length + 1)) (G ++ [.lst (texts ls), progV ls]) := by
  have e : f_Program_read [.cls cProgram, .str (wholeText ls)] [] = .ok (.ref 1) [.lst (texts ls), progV ls] := by
    unfold f_Program_read
    rw [dDef_val (k := 2) (vs := [.cls cProgram, .str (wholeText ls)]) rfl (by simp), reloc_nil]
    have hs := split_text h0 hl h4 []
    have hf := first_wrong_ref (G := [.lst (texts ls)]) (p := 0) rfl hl h4 h8
    have hi := init_eq (G := [.lst (texts ls), .ins cProgram []]) (p := 1) h0 hl h4 h8 rfl
    simp at hs
    simp [b_Program_read, start, isTy, isRt, hs, hf, dMakeV, bTuple, asSeq, asListR, hi]
    rfl
  rw [show f_Program_read [.cls cProgram, .str (wholeText ls)] G = _ from loc_ref (by simp) e G]
  have c1 : shO G.length (.lst (texts ls)) = .lst (texts ls) := by rw [shO, shL_closed _ (closed_texts 0 ls)]
  have c2 : shO G.length (progV ls) = progV ls := by
    rw [shO, shF_closed _ (by simp [closedF, closed_texts])]
  simp [c1, c2]
theorem program_of_eq {ls : List VV} (h0 : ls ≠ []) (hl : ∀ l ∈ ls, l ∈ allLays) (h4 : ls.length ≤ 4) (h8 : wsum ls ≤ 8) (G : Hv) : f_program_of [.str (wholeText ls)] G = .ok (.ref (G.length + 1)) (G ++ [.lst (texts ls), progV ls]) := by
  have e : f_program_of [.str (wholeText ls)] [] = .ok (.ref 1) [.lst (texts ls), progV ls] := by
    unfold f_program_of
    rw [dDef_val (k := 1) (vs := [.str (wholeText ls)]) rfl (by simp), reloc_nil]
    simp [b_program_of, start, isTy, sThru, dCallC, read_eq h0 hl h4 h8]
    rfl
  rw [show f_program_of [.str (wholeText ls)] G = _ from loc_ref (by simp) e G]
  have c1 : shO G.length (.lst (texts ls)) = .lst (texts ls) := by rw [shO, shL_closed _ (closed_texts 0 ls)]
  have c2 : shO G.length (progV ls) = progV ls := by
    rw [shO, shF_closed _ (by simp [closedF, closed_texts])]
  simp [c1, c2]
/-- the parts, as they lie -/
def PartsAt (G : Hv) (ls : List VV) (rs : List VV) : Prop := rs.length = ls.length ∧ ∀ (j : Nat) (l : VV), ls[j]? = some l → ∃ r, rs[j]? = some (.ref r) ∧ G[r]? = some (partV l)
theorem PartsAt.more {G : Hv} {ls rs : List VV} (h : PartsAt G ls rs) (E : Hv) : PartsAt (G ++ E) ls rs := ⟨h.1, fun j l hl => by
  obtain ⟨r, h1, h2⟩ := h.2 j l hl
  exact ⟨r, h1, by rw [List.getElem?_append_left (List.getElem?_eq_some_iff.mp h2).1]; exact h2⟩⟩
theorem layers_eq {ls : List VV} {G : Hv} {q : Nat} (h : G[q]? = some (progV ls)) : f_Program_layers [.ref q] G = .ok (.tup (texts ls)) G := by
  unfold f_Program_layers
  rw [dDef_ref (k := 1) (vs := [.ref q]) rfl (by simp)]
  simp [b_Program_layers, start, oFld, h, look]
  exact gc_pure0 (by simp [closed_texts])
theorem parts_of_eq {ls : List VV} {G : Hv} {q : Nat} (hl : ∀ l ∈ ls, l ∈ allLays) (h4 : ls.length ≤ 4) (h : G[q]? = some (progV ls)) :
    ∃ E rs, f_parts_of [.ref q] G = .ok (.ref G.length) (G ++ E) ∧ (G ++ E)[G.length]? = some (.lst rs) ∧ PartsAt (G ++ E) ls rs := by
  obtain ⟨acc, G', e, E, rfl, h1, h2, h3⟩ := lcL_inv (chk := []) (g := gName 1) (t := tYes) (e := dCall f_part_of (aCons (dVar 1) aNil)) (vs := [1]) (S0 := [some (.ref q), none]) (D := G.length)
    (fun j acc G' => ∃ E, G' = G ++ E ∧ (G ++ E)[G.length]? = some (.lst acc) ∧ acc.length = j ∧ ∀ (i : Nat) (l : VV), i < j → ls[i]? = some l → ∃ r, acc[i]? = some (.ref r) ∧ (G ++ E)[r]? = some (partV l) ∧ r ≠ G.length)
    (fun _ _ _ _ => rfl) (texts ls) 0 [] (G ++ [.lst []]) ⟨[.lst []], rfl, by simp, rfl, fun i l hi => absurd hi (Nat.not_lt_zero _)⟩ (by
    rintro j acc G' x hx _ ⟨E, rfl, hD, hlen, hall⟩
    rw [Nat.sub_zero, List.getElem?_map] at hx
    cases hlj : ls[j]? with
    | none => rw [hlj] at hx; cases hx
    | some l =>
      rw [hlj] at hx
      simp at hx
      subst hx
      have hm : l ∈ allLays := hl l (List.mem_of_getElem? hlj)
      have hj : j < ls.length := (List.getElem?_eq_some_iff.mp hlj).1
      obtain ⟨k, E2, e2, e3⟩ := part_eq hm (G ++ E)
      have hDl : G.length < (G ++ E).length := (List.getElem?_eq_some_iff.mp hD).1
      have hDE : (G ++ E ++ E2)[G.length]? = some (.lst acc) := by rw [List.getElem?_append_left hDl]; exact hD
      refine ⟨[some (.ref q), some (.str (txt l))], G ++ E, by simp, .inr ⟨G ++ E, .ref ((G ++ E).length + k), G ++ E ++ E2, by simp, by simpa using e2, hDE, ?_, ?_⟩⟩
      · show acc.length < 16777216
        omega
      · refine ⟨(E ++ E2).set 0 (.lst (acc ++ [.ref ((G ++ E).length + k)])), ?_, ?_, by simp [hlen], fun i l' hi hl' => ?_⟩
        · rw [List.append_assoc, List.set_append_right _ _ (Nat.le_refl _), Nat.sub_self]
        · have : 0 < (E ++ E2).length := by simp at hDl ⊢; omega
          rw [List.getElem?_append_right (Nat.le_refl _), Nat.sub_self, List.getElem?_set_self this]
        · have keep : ∀ r o, (G ++ E ++ E2)[r]? = some o → r ≠ G.length → (G ++ (E ++ E2).set 0 (.lst (acc ++ [.ref ((G ++ E).length + k)])))[r]? = some o := fun r o hr hne => by
            have e4 : G ++ (E ++ E2).set 0 (.lst (acc ++ [.ref ((G ++ E).length + k)])) = (G ++ E ++ E2).set G.length (.lst (acc ++ [.ref ((G ++ E).length + k)])) := by
              rw [List.append_assoc, List.set_append_right _ _ (Nat.le_refl _), Nat.sub_self]
            rw [e4, List.getElem?_set_ne (Ne.symm hne)]
            exact hr
          by_cases hij : i = j
          · subst hij
            rw [hlj] at hl'
            cases hl'
            exact ⟨(G ++ E).length + k, by rw [List.getElem?_append_right (by omega), hlen]; simp, keep _ _ e3 (by simp at hDl ⊢; omega), by simp at hDl ⊢; omega⟩
          · obtain ⟨r, h1, h2, h3⟩ := hall i l' (by omega) hl'
            have hr : r < (G ++ E).length := (List.getElem?_eq_some_iff.mp h2).1
            refine ⟨r, by rw [List.getElem?_append_left (by omega)]; exact h1, keep r _ (by rw [List.getElem?_append_left hr]; exact h2) h3, h3⟩)
  refine ⟨E, acc, ?_, h1, by rw [h2]; simp, fun j l hj => ?_⟩
  · unfold f_parts_of
    rw [dDef_ref (k := 1) (vs := [.ref q]) rfl (by simp)]
    have hi : isIns cProgram 126935165919596 G (.ref q) = true := by simp [isIns, h, look]
    simp [b_parts_of, start, hi, layers_eq h, seqOf, wipe]
    rw [e]
    unfold gcR
    simp
  · obtain ⟨r, h4, h5, _⟩ := h3 j l (by have := (List.getElem?_eq_some_iff.mp hj).1; simpa using this) hj
    exact ⟨r, h4, h5⟩
end DL
end S_C70
section S_D70
set_option linter.all false
set_option maxRecDepth 1000000
set_option maxHeartbeats 4000000
/-! D69: lines and papers of k69, as both sides see them. -/
namespace DL
/-! ### data that can be told -/
def Tm (G : Hv) (n : Nat) (v : VV) : Prop := ∃ d, toPD G n v = some d
theorem mapO_all {α β : Type} {f : α → Option β} : ∀ {xs : List α} {ys : List β}, mapO f xs = some ys → ∀ x ∈ xs, ∃ y, f x = some y
  | [], _, _, x, h => by cases h
  | a :: xs, ys, e, x, h => by
    rw [mapO_cons] at e
    cases ha : f a with
    | none => rw [ha] at e; cases e
    | some b =>
      rw [ha] at e
      simp only at e
      cases hx : mapO f xs with
      | none => rw [hx] at e; cases e
      | some bs =>
        rcases List.mem_cons.mp h with rfl | h
        · exact ⟨b, ha⟩
        · exact mapO_all hx x h
theorem mapO_len {α β : Type} {f : α → Option β} : ∀ {xs : List α} {ys : List β}, mapO f xs = some ys → ys.length = xs.length
  | [], _, e => by cases e; rfl
  | a :: xs, ys, e => by
    rw [mapO_cons] at e
    cases ha : f a with
    | none => rw [ha] at e; cases e
    | some b =>
      rw [ha] at e
      simp only at e
      cases hx : mapO f xs with
      | none => rw [hx] at e; cases e
      | some bs =>
        rw [hx] at e
        cases e
        simp [mapO_len hx]
theorem mapO_of {α β : Type} {f : α → Option β} : ∀ {xs : List α}, (∀ x ∈ xs, ∃ y, f x = some y) → ∃ ys, mapO f xs = some ys
  | [], _ => ⟨[], rfl⟩
  | a :: xs, h => by
    obtain ⟨b, hb⟩ := h a (by simp)
    obtain ⟨bs, hbs⟩ := mapO_of fun x hx => h x (List.mem_cons_of_mem _ hx)
    exact ⟨b :: bs, by rw [mapO_cons, hb, hbs]⟩
theorem Tm.zero {G : Hv} {v : VV} (h : Tm G 0 v) : False := by obtain ⟨d, e⟩ := h; cases e
theorem Tm.tup {G : Hv} {n : Nat} {xs : List VV} (h : Tm G (n + 1) (.tup xs)) : ∀ x ∈ xs, Tm G n x := by
  obtain ⟨d, e⟩ := h
  rw [toPD_tup] at e
  cases q : mapO (toPD G n) xs with
  | none => rw [q] at e; cases e
  | some ds => exact fun x hx => mapO_all q x hx
theorem Tm.mkTup {G : Hv} {n : Nat} {xs : List VV} (h : ∀ x ∈ xs, Tm G n x) : Tm G (n + 1) (.tup xs) := by
  obtain ⟨ys, e⟩ := mapO_of (f := toPD G n) h
  exact ⟨.tup ys, by rw [toPD_tup, e]; rfl⟩
theorem Tm.up {G : Hv} : ∀ {n : Nat} {v : VV}, Tm G n v → Tm G (n + 1) v
  | 0, v, h => h.zero.elim
  | n + 1, v, h => by
    cases v with
    | tup xs => exact .mkTup fun x hx => (h.tup x hx).up
    | ref i =>
      obtain ⟨d, e⟩ := h
      rw [toPD_ref] at e
      cases q : G[i]? with
      | none => rw [q] at e; cases e
      | some o =>
        rw [q] at e
        cases o with
        | lst xs =>
          simp only at e
          cases z : mapO (toPD G n) xs with
          | none => rw [z] at e; cases e
          | some ds =>
            obtain ⟨es, hes⟩ := mapO_of (f := toPD G (n + 1)) (xs := xs) fun x hx => Tm.up (mapO_all z x hx)
            exact ⟨.lst es, by rw [toPD_ref, q]; simp only [hes]; rfl⟩
        | _ => cases e
    | non => exact ⟨_, rfl⟩
    | bl _ => exact ⟨_, rfl⟩
    | int _ => exact ⟨_, rfl⟩
    | str _ => exact ⟨_, rfl⟩
    | _ => obtain ⟨d, e⟩ := h; cases e
inductive TmC (G : Hv) : VV → Prop where
  | non : TmC G .non
  | bl (b : Bool) : TmC G (.bl b)
  | int (i : Int) : TmC G (.int i)
  | str (s : List Nat) : TmC G (.str s)
  | tup (xs : List VV) : TmC G (.tup xs)
  | ref (i : Nat) (xs : List VV) (h : G[i]? = some (.lst xs)) : TmC G (.ref i)
theorem Tm.c {G : Hv} : ∀ {n : Nat} {v : VV}, Tm G n v → TmC G v
  | 0, v, h => h.zero.elim
  | n + 1, v, h => by
    cases v with
    | tup xs => exact .tup xs
    | ref i =>
      obtain ⟨d, e⟩ := h
      rw [toPD_ref] at e
      cases q : G[i]? with
      | none => rw [q] at e; cases e
      | some o =>
        rw [q] at e
        cases o with
        | lst xs => exact .ref i xs q
        | _ => cases e
    | non => exact .non
    | bl b => exact .bl b
    | int b => exact .int b
    | str b => exact .str b
    | _ => obtain ⟨d, e⟩ := h; cases e
theorem toPD_app {G E : Hv} : ∀ {n : Nat} {v : VV} {d : PD}, toPD G n v = some d → toPD (G ++ E) n v = some d
  | 0, v, d, h => by cases h
  | n + 1, v, d, h => by
    have lst : ∀ {xs : List VV} {ds : List PD}, mapO (toPD G n) xs = some ds → mapO (toPD (G ++ E) n) xs = some ds := fun {xs} => by
      induction xs with
      | nil => exact fun h => h
      | cons a r ih =>
        intro ds h
        rw [mapO_cons] at h ⊢
        cases ha : toPD G n a with
        | none => rw [ha] at h; cases h
        | some b =>
          rw [ha] at h
          rw [toPD_app ha]
          simp only at h ⊢
          cases hr : mapO (toPD G n) r with
          | none => rw [hr] at h; cases h
          | some bs => rw [hr] at h; rw [ih hr]; exact h
    cases v with
    | tup xs =>
      rw [toPD_tup] at h ⊢
      cases q : mapO (toPD G n) xs with
      | none => rw [q] at h; cases h
      | some ds => rw [q] at h; rw [lst q]; exact h
    | ref i =>
      rw [toPD_ref] at h ⊢
      cases q : G[i]? with
      | none => rw [q] at h; cases h
      | some o =>
        rw [List.getElem?_append_left (List.getElem?_eq_some_iff.mp q).1, q]
        rw [q] at h
        cases o with
        | lst xs =>
          simp only at h ⊢
          cases z : mapO (toPD G n) xs with
          | none => rw [z] at h; cases h
          | some ds => rw [z] at h; rw [lst z]; exact h
        | _ => cases h
    | non => exact h
    | bl b => exact h
    | int b => exact h
    | str b => exact h
    | _ => cases h
theorem Tm.more {G : Hv} {n : Nat} {v : VV} (h : Tm G n v) (E : Hv) : Tm (G ++ E) n v := let ⟨d, e⟩ := h; ⟨d, toPD_app e⟩
theorem toPD_closed {G G' : Hv} : ∀ {n : Nat} {v : VV} {d : PD}, closedV 0 v = true → toPD G n v = some d → toPD G' n v = some d
  | 0, v, d, _, h => by cases h
  | n + 1, v, d, c, h => by
    cases v with
    | tup xs =>
      rw [toPD_tup] at h ⊢
      have lst : ∀ {xs : List VV} {ds : List PD}, closedL 0 xs = true → mapO (toPD G n) xs = some ds → mapO (toPD G' n) xs = some ds := fun {xs} => by
        induction xs with
        | nil => exact fun _ h => h
        | cons a r ih =>
          intro ds c h
          rw [closedL_cons, Bool.and_eq_true] at c
          rw [mapO_cons] at h ⊢
          cases ha : toPD G n a with
          | none => rw [ha] at h; cases h
          | some b =>
            rw [ha] at h
            rw [toPD_closed c.1 ha]
            simp only at h ⊢
            cases hr : mapO (toPD G n) r with
            | none => rw [hr] at h; cases h
            | some bs => rw [hr] at h; rw [ih c.2 hr]; exact h
      cases q : mapO (toPD G n) xs with
      | none => rw [q] at h; cases h
      | some ds => rw [q] at h; rw [lst (by simpa using c) q]; exact h
    | ref i => simp at c
    | non => exact h
    | bl b => exact h
    | int b => exact h
    | str b => exact h
    | _ => cases h
mutual
theorem closedV_mono (m : Nat) : ∀ {v : VV}, closedV 0 v = true → closedV m v = true
  | .non, _ => by simp
  | .bl _, _ => by simp
  | .int _, _ => by simp
  | .str _, _ => by simp
  | .cls _, _ => by simp
  | .ref i, h => by simp at h
  | .tup xs, h => by
    rw [closedV_tup] at h ⊢
    exact closedL_mono m h
  | .exc c fs, h => by
    rw [closedV] at h ⊢
    exact closedF_mono m h
  | .clo c xs, h => by
    rw [closedV] at h ⊢
    exact closedL_mono m h
theorem closedL_mono (m : Nat) : ∀ {v : List VV}, closedL 0 v = true → closedL m v = true
  | [], _ => by simp
  | x :: xs, h => by
    rw [closedL_cons, Bool.and_eq_true] at h ⊢
    exact ⟨closedV_mono m h.1, closedL_mono m h.2⟩
theorem closedF_mono (m : Nat) : ∀ {v : List (Nat × VV)}, closedF 0 v = true → closedF m v = true
  | [], _ => by rw [closedF]
  | (c, x) :: xs, h => by
    rw [closedF, Bool.and_eq_true] at h ⊢
    exact ⟨closedV_mono m h.1, closedF_mono m h.2⟩
end
/-- a def that only looks: run where it stands, or by itself -/
theorem pure_any {k n : Nat} {b : DS} {vs : List VV} {v : VV} {G : Hv} (h : ∀ G', (closedL 0 vs = false → G' = G) → ∃ E, b (start n vs) G' = .rt v (G' ++ E)) (hv : closedV 0 v = true) (hl : vs.length = k := by rfl) : dDef k n b vs G = .ok v G := by
  by_cases c : closedL 0 vs = true
  · rw [dDef_val hl c]
    obtain ⟨E, e⟩ := h [] (fun q => by rw [c] at q; cases q)
    rw [e]
    show reloc G (gcR [] (.ok v ([] ++ E))) = _
    rw [gc_pure (G := []) hv]
    simp [reloc, shV_closed _ hv]
  · have c' : closedL 0 vs = false := by simpa using c
    rw [dDef_ref hl c']
    obtain ⟨E, e⟩ := h G (fun _ => rfl)
    rw [e]
    exact gc_pure (closedV_mono _ hv)
/-! ### whole numbers -/
def isI : VV → Bool
  | .int _ => true
  | _ => false
theorem isInt_eq {G : Hv} {n : Nat} {v : VV} (h : Tm G n v) : f_is_integer [v] G = .ok (.bl (isI v)) G := by
  refine pure_any (fun G' hG => ⟨[], ?_⟩) (by simp)
  cases h.c with
  | ref i xs e =>
    obtain rfl : G' = G := hG (by simp)
    simp [b_is_integer, start, isTy, e, isI]
  | _ => simp [b_is_integer, start, isTy, isI]
/-- a piece of a line -/
def okP : VV → Bool
  | .int i => decide (i ≠ 0)
  | _ => false
def absV : VV → VV
  | .int i => .int (if i < 0 then -i else i)
  | v => v
theorem eqNil {G : Hv} {n : Nat} {xs : List VV} (h : Tm G (n + 1) (.tup xs)) (hn : n + 1 ≤ 12) : oEq G (.tup xs) (.tup []) = some (decide (xs = [])) := by
  have up : ∀ k, n + 1 ≤ k → Tm G k (.tup xs) := fun k hk => by
    induction k with
    | zero => omega
    | succ k ih =>
      by_cases e : n + 1 = k + 1
      · rw [← e]; exact h
      · exact (ih (by omega)).up
  obtain ⟨d, e⟩ := up 12 hn
  rw [toPD_tup] at e
  cases q : mapO (toPD G 11) xs with
  | none => rw [q] at e; cases e
  | some ds =>
    have hl := mapO_len q
    unfold oEq
    rw [DEPTH_eq, toPD_tup, toPD_tup, q]
    simp only [Option.map_some, mapO_nil, eqv_tup]
    cases xs with
    | nil => cases q; simp
    | cons a r =>
      cases ds with
      | nil => simp at hl
      | cons d ds => simp
theorem asBls_map {f : VV → Bool} : ∀ xs : List VV, asBls (xs.map fun x => .bl (f x)) = some (xs.map f)
  | [] => rfl
  | x :: xs => by simp [asBls, asBls_map xs]
theorem asBls_mapG {α : Type} {f : α → Bool} : ∀ xs : List α, asBls (xs.map fun x => .bl (f x)) = some (xs.map f)
  | [] => rfl
  | x :: xs => by simp [asBls, asBls_mapG xs]
theorem asInts_abs : ∀ is : List Int, asInts ((is.map VV.int).map absV) = some (is.map fun i => if i < 0 then -i else i)
  | [] => rfl
  | x :: xs => by
    have := asInts_abs xs
    simp [asInts, absV] at this ⊢
    rw [this]
/-- all are whole numbers, none is 0 -/
theorem okP_ints : ∀ {xs : List VV}, xs.all okP = true → ∃ is : List Int, xs = is.map VV.int ∧ ∀ i ∈ is, i ≠ 0
  | [], _ => ⟨[], rfl, by simp⟩
  | x :: xs, h => by
    rw [List.all_cons, Bool.and_eq_true] at h
    obtain ⟨is, rfl, h2⟩ := okP_ints h.2
    cases x with
    | int i => exact ⟨i :: is, rfl, fun j hj => by
        rcases List.mem_cons.mp hj with rfl | hj
        · have := h.1; simpa [okP] using this
        · exact h2 j hj⟩
    | _ => have := h.1; simp [okP] at this
def absSum (is : List Int) : Int := (is.map fun i => if i < 0 then -i else i).sum
def negAt (is : List Int) (k : Nat) : Bool := match is[k]? with
  | some i => decide (i < 0)
  | none => false
/-- two gaps side by side -/
def twoGaps (is : List Int) : Bool := (List.range (is.length - 1)).any fun k => negAt is k && negAt is (k + 1)
def lineOk : VV → Bool
  | .tup xs => !xs.isEmpty && (xs.all okP && match asInts xs with
    | some is => decide (absSum is ≤ 60) && !twoGaps is
    | none => false)
  | _ => false
theorem asInts_map : ∀ is : List Int, asInts (is.map VV.int) = some is
  | [] => rfl
  | i :: is => by simp [asInts, asInts_map is]
theorem upTo_range : ∀ (n : Nat) (lo : Int), upTo lo n = (List.range n).map fun k => VV.int (lo + (k : Nat))
  | 0, _ => rfl
  | n + 1, lo => by
    rw [upTo, upTo_range n (lo + 1), List.range_succ_eq_map, List.map_cons, List.map_map]
    have e1 : VV.int lo = VV.int (lo + (0 : Nat)) := by simp
    rw [← e1]
    refine congrArg _ ?_
    apply List.map_congr_left
    intro k _
    show VV.int _ = VV.int _
    congr 1
    simp only [Nat.succ_eq_add_one]
    omega
theorem ix_int {G : Hv} {is : List Int} {k : Nat} {i : Int} (h : is[k]? = some i) : oIx G (.tup (is.map VV.int)) (.int (k : Nat)) = some (.int i) := by
  have hl := (List.getElem?_eq_some_iff.mp h).1
  unfold oIx
  simp only [asSeq, atI, ixN, List.length_map]
  rw [if_pos (by omega), if_pos (by omega)]
  simp [h]
theorem is_line_eq {G : Hv} {n : Nat} {v : VV} (h : Tm G (n + 1) v) (hn : n + 1 ≤ 12) (hs : ∀ xs, v = .tup xs → xs.length < 1000) : f_is_line [v] G = .ok (.bl (lineOk v)) G := by
  refine pure_any (fun G' hG => ?_) (by simp)
  have h' : Tm G' (n + 1) v := by
    by_cases c : closedV 0 v = true
    · obtain ⟨d, e⟩ := h
      exact ⟨d, toPD_closed c e⟩
    · obtain rfl : G' = G := hG (by simpa using c)
      exact h
  cases h'.c with
  | tup xs =>
    have hlen := hs xs rfl
    have he := eqNil h' hn
    by_cases hx : xs = []
    · subst hx
      exact ⟨[], by simp [b_is_line, start, isTy, he, lineOk]⟩
    · have hx' : decide (xs = []) = false := by simp [hx]
      have m1 := lcL_map (chk := []) (g := gName 1) (e := dAnd (dCall f_is_integer (aCons (dVar 1) (aNil))) (dCmp cNe (dVar 1) (dC (.int 0)))) (vs := [1]) (S0 := [some (.tup xs), none, none]) (f := fun x => .bl (okP x)) xs G' rfl (fun _ => rfl) (by show _ < 16777216; omega) (by
        intro x o hx
        have hxt := (h'.tup x hx).more [o]
        refine ⟨[some (.tup xs), some x, none], by simp, ?_⟩
        simp [isInt_eq hxt]
        cases x with
        | int i => simp [isI, okP]
        | _ => simp [isI, okP])
      have ge1 : (G' ++ [VO.lst (xs.map fun x => VV.bl (okP x))])[G'.length]? = some (.lst (xs.map fun x => VV.bl (okP x))) := by simp
      cases hall : xs.all okP with
      | false =>
        have ha : ((xs.map okP).all id) = false := by rw [List.all_map]; exact hall
        refine ⟨[.lst (xs.map fun x => VV.bl (okP x))], ?_⟩
        simp only [b_is_line, start]
        simp [isTy, he, hx, seqOf, wipe, m1, bAll, asListR, asBls_map]
        have hex : ∃ x, x ∈ xs ∧ okP x = false := by
          simpa using hall
        simp [hex, lineOk, hall]
      | true =>
        obtain ⟨is, hxi, hne⟩ := okP_ints hall
        have hai : asInts xs = some is := by rw [hxi]; exact asInts_map is
        have haa : asInts (xs.map absV) = some (is.map fun i => if i < 0 then -i else i) := by rw [hxi]; exact asInts_abs is
        have hil : xs.length = is.length := by rw [hxi]; simp
        have m2 := lcL_map (chk := []) (g := gName 1) (e := dB bAbs (aCons (dVar 1) (aNil))) (vs := [1]) (S0 := [some (.tup xs), none, none]) (f := absV) xs (G' ++ [VO.lst (xs.map fun x => VV.bl (okP x))]) rfl (fun _ => rfl) (by show _ < 16777216; omega) (by
          intro x o hx
          rw [hxi] at hx
          obtain ⟨i, _, rfl⟩ := List.mem_map.mp hx
          exact ⟨[some (.tup xs), some (.int i), none], by simp, by simp [bAbs, absV]⟩)
        have hlo : lineOk (.tup xs) = (decide (absSum is ≤ 60) && !twoGaps is) := by
          have he : xs.isEmpty = false := by cases xs <;> simp at hx ⊢
          simp [lineOk, hai, hall, he]
        have ha : ((xs.map okP).all id) = true := by rw [List.all_map]; exact hall
        have hsm : (is.map fun i => if i < 0 then -i else i).sum = absSum is := rfl
        simp at m2
        have hall' : ¬ ∃ x, x ∈ xs ∧ okP x = false := by
          rintro ⟨x, hx, h⟩
          have := List.all_eq_true.mp hall x hx
          rw [h] at this
          cases this
        by_cases h60 : (60 : Int) < absSum is
        · refine ⟨[.lst (xs.map fun x => VV.bl (okP x)), .lst (xs.map absV)], ?_⟩
          have hlo' : lineOk (.tup xs) = false := by
            rw [hlo]
            have : ¬ absSum is ≤ 60 := by omega
            simp [this]
          rw [hlo']
          simp only [b_is_line, start]
          simp [isTy, he, hx, seqOf, wipe, m1, bAll, asListR, asBls_map, hall', m2, bSum, haa, hsm, h60, c_MOST_PLACES]
        · have h60' : absSum is ≤ 60 := by omega
          have ng : ∀ (k : Nat), k < is.length → ∃ i, oIx G' (.tup xs) (.int (k : Nat)) = some (.int i) ∧ negAt is k = decide (i < 0) := fun k hk => by
            have h1 : is[k]? = some is[k] := List.getElem?_eq_getElem hk
            exact ⟨is[k], by rw [hxi]; exact ix_int h1, by unfold negAt; rw [h1]⟩
          have ixG : ∀ (A : Hv) (y : VV), oIx A (.tup xs) y = oIx G' (.tup xs) y := fun A y => by unfold oIx; rfl
          have m3 := lcL_map (chk := []) (g := gName 2) (e := dAnd (dCmp cLt (dIx (dVar 0) (dBin oSub (dVar 2) (dC (.int 1)))) (dC (.int 0))) (dCmp cLt (dIx (dVar 0) (dVar 2)) (dC (.int 0)))) (vs := [2]) (S0 := [some (.tup xs), none, none])
            (f := fun x => match x with | .int k => .bl (negAt is (k - 1).toNat && negAt is k.toNat) | v => v) (upTo 1 (is.length - 1)) (G' ++ [VO.lst (xs.map fun x => VV.bl (okP x)), .lst (xs.map absV)]) rfl (fun _ => rfl) (by rw [upTo_len]; show _ < 16777216; omega) (by
            intro x o hx
            rw [upTo_range] at hx
            obtain ⟨k, hk, rfl⟩ := List.mem_map.mp hx
            have hk2 : k < is.length - 1 := by simpa using hk
            obtain ⟨i1, e1, n1⟩ := ng k (by omega)
            obtain ⟨i2, e2, n2⟩ := ng (k + 1) (by omega)
            have c1 : (1 : Int) + (k : Nat) - 1 = (k : Nat) := by omega
            have c2 : (1 : Int) + (k : Nat) = ((k + 1 : Nat) : Int) := by omega
            refine ⟨[some (.tup xs), none, some (.int (1 + (k : Nat)))], by simp, ?_⟩
            simp only [c1]
            rw [c2]
            have c3 : ((k + 1 : Nat) : Int) - 1 = (k : Nat) := by omega
            simp [-Int.natCast_add, c3, ixG, e1, e2, n1, n2]
            by_cases h1 : i1 < 0 <;> simp [-Int.natCast_add, h1, e2, n2])
          have hm : (upTo 1 (is.length - 1)).map (fun x => match x with | .int k => VV.bl (negAt is (k - 1).toNat && negAt is k.toNat) | v => v) = (List.range (is.length - 1)).map fun k => .bl (negAt is k && negAt is (k + 1)) := by
            rw [upTo_range, List.map_map]
            apply List.map_congr_left
            intro k _
            have c1 : (1 + (k : Int) - 1).toNat = k := by omega
            have c2 : (1 + (k : Int)).toNat = k + 1 := by omega
            simp only [Function.comp, c1, c2]
          rw [hm] at m3
          simp only [List.append_assoc, List.cons_append, List.nil_append, List.length_append, List.length_cons, List.length_nil] at m3
          have hb := asBls_mapG (f := fun k => negAt is k && negAt is (k + 1)) (List.range (is.length - 1))
          generalize hL : ((List.range (is.length - 1)).map fun k => VV.bl (negAt is k && negAt is (k + 1))) = L at m3 hb
          have hany : (((List.range (is.length - 1)).map fun k => negAt is k && negAt is (k + 1)).any id) = twoGaps is := by rw [List.any_map]; rfl
          generalize hL2 : ((List.range (is.length - 1)).map fun k => negAt is k && negAt is (k + 1)) = L2 at hb hany
          refine ⟨[.lst (xs.map fun x => VV.bl (okP x)), .lst (xs.map absV), .lst L], ?_⟩
          have hr2 : rangeOf2 [.int 1, .int xs.length] = some (upTo 1 (is.length - 1), []) := by
            have c : ((xs.length : Int) - 1).toNat = is.length - 1 := by omega
            have c2 : mid xs.length = true := mid_of (by omega)
            have c3 : mid 1 = true := mid_of (by decide)
            simp [rangeOf2, c, c2, c3]
          have s3 : dRet (dNot (dB bAny (aCons (dLc [2] (iRange2 (aCons (dC (.int 1)) (aCons (dB bLen (aCons (dVar 0) (aNil))) (aNil)))) (gName 2) (tYes) (dAnd (dCmp cLt (dIx (dVar 0) (dBin oSub (dVar 2) (dC (.int 1)))) (dC (.int 0))) (dCmp cLt (dIx (dVar 0) (dVar 2)) (dC (.int 0))))) (aNil)))) [some (.tup xs), none, none] (G' ++ [.lst (xs.map fun x => VV.bl (okP x)), .lst (xs.map absV)]) = .rt (.bl (!twoGaps is)) (G' ++ [.lst (xs.map fun x => VV.bl (okP x)), .lst (xs.map absV), .lst L]) := by
            simp [hr2, wipe, m3, bAny, asListR, hb, hany]
          have s1 : sIf (tOr (tNot (tV (dIsi .tuple (dVar 0)))) (tOr (tV (dCmp cEq (dVar 0) (dTup aNil))) (tNot (tV (dB bAll (aCons (dLc [1] (iSeq (dVar 0)) (gName 1) (tYes) (dAnd (dCall f_is_integer (aCons (dVar 1) (aNil))) (dCmp cNe (dVar 1) (dC (.int 0))))) (aNil))))))) (dRet (dC (.bl false))) (dNext) [some (.tup xs), none, none] G' = .nx [some (.tup xs), none, none] (G' ++ [.lst (xs.map fun x => VV.bl (okP x))]) := by
            simp [isTy, he, hx, seqOf, wipe, m1, bAll, asListR, asBls_map, hall']
          have s2 : sIf (tV (dCmp cGt (dB bSum (aCons (dLc [1] (iSeq (dVar 0)) (gName 1) (tYes) (dB bAbs (aCons (dVar 1) (aNil)))) (aNil))) (dC c_MOST_PLACES))) (dRet (dC (.bl false))) (dNext) [some (.tup xs), none, none] (G' ++ [.lst (xs.map fun x => VV.bl (okP x))]) = .nx [some (.tup xs), none, none] (G' ++ [.lst (xs.map fun x => VV.bl (okP x)), .lst (xs.map absV)]) := by
            simp [seqOf, wipe, m2, bSum, asListR, haa, hsm, h60, c_MOST_PLACES]
          have h60d : decide (absSum is ≤ 60) = true := by simp [h60']
          rw [hlo, h60d, Bool.true_and]
          show ((sIf _ _ _ [some (.tup xs), none, none] G').thn _) = _
          rw [s1, thn_nx, dSeq_ap, s2, thn_nx]
          exact s3
  | ref i xs e => exact ⟨[], by simp [b_is_line, start, isTy, e, lineOk]⟩
  | _ => exact ⟨[], by simp [b_is_line, start, isTy, lineOk]⟩
theorem law_is_line_eq {G : Hv} {n : Nat} {v : VV} (h : Tm G (n + 1) v) (hn : n + 1 ≤ 12) (hs : ∀ xs, v = .tup xs → xs.length < 1000) : f__law_is_line [v] G = .ok (.bl (lineOk v)) G := by
  refine pure_any (fun G' hG => ?_) (by simp)
  have h' : Tm G' (n + 1) v := by
    by_cases c : closedV 0 v = true
    · obtain ⟨d, e⟩ := h
      exact ⟨d, toPD_closed c e⟩
    · obtain rfl : G' = G := hG (by simpa using c)
      exact h
  cases h'.c with
  | tup xs =>
    have hlen := hs xs rfl
    have he := eqNil h' hn
    by_cases hx : xs = []
    · subst hx
      exact ⟨[], by simp [b__law_is_line, start, isTy, he, lineOk]⟩
    · obtain ⟨S', ⟨u, hS⟩, m1⟩ := forL_all (chk := []) (i := 1) (G := G') (p := okP) (r := .bl false) (b := sIf (tOr (tNot (tV (dIsi .int (dVar 1)))) (tOr (tV (dIsi .bool (dVar 1))) (tV (dCmp cEq (dVar 1) (dC (.int 0)))))) (dRet (dC (.bl false))) (dNext)) (fun S => ∃ u, S = [some (.tup xs), u, none]) rfl (by rintro S x ⟨u, rfl⟩; exact ⟨some x, rfl⟩) xs [some (.tup xs), none, none] ⟨none, rfl⟩ (by
        rintro S x ⟨u, rfl⟩ hx
        have hxt := h'.tup x hx
        cases hxt.c with
        | int i =>
          by_cases h0 : i = 0 <;> simp [isTy, okP, h0]
        | ref i ys e => simp [isTy, e, okP]
        | _ => simp [isTy, okP])
      subst hS
      cases hall : xs.all okP with
      | false =>
        rw [hall] at m1
        refine ⟨[], ?_⟩
        simp only [b__law_is_line, start]
        simp [isTy, he, hx, seqOf, m1, lineOk, hall]
      | true =>
        rw [hall] at m1
        obtain ⟨is, hxi, hne⟩ := okP_ints hall
        have hai : asInts xs = some is := by rw [hxi]; exact asInts_map is
        have haa : asInts (xs.map absV) = some (is.map fun i => if i < 0 then -i else i) := by rw [hxi]; exact asInts_abs is
        have hil : xs.length = is.length := by rw [hxi]; simp
        have hlo : lineOk (.tup xs) = (decide (absSum is ≤ 60) && !twoGaps is) := by
          have he : xs.isEmpty = false := by cases xs <;> simp at hx ⊢
          simp [lineOk, hai, hall, he]
        have m2 := lcL_map (chk := []) (g := gName 1) (e := dB bAbs (aCons (dVar 1) (aNil))) (vs := [1]) (S0 := [some (.tup xs), none, none]) (f := absV) xs G' rfl (fun _ => rfl) (by show _ < 16777216; omega) (by
          intro x o hx
          rw [hxi] at hx
          obtain ⟨i, _, rfl⟩ := List.mem_map.mp hx
          exact ⟨[some (.tup xs), some (.int i), none], by simp, by simp [bAbs, absV]⟩)
        have hsm : (is.map fun i => if i < 0 then -i else i).sum = absSum is := rfl
        rw [if_pos rfl] at m1
        by_cases h60 : (60 : Int) < absSum is
        · refine ⟨[.lst (xs.map absV)], ?_⟩
          have hlo' : lineOk (.tup xs) = false := by
            rw [hlo]
            have : ¬ absSum is ≤ 60 := by omega
            simp [this]
          rw [hlo']
          simp only [b__law_is_line, start]
          simp [isTy, he, hx, seqOf, m1, wipe, m2, bSum, asListR, haa, hsm, h60]
        · have h60' : absSum is ≤ 60 := by omega
          have ng : ∀ (k : Nat), k < is.length → ∃ i, oIx G' (.tup xs) (.int (k : Nat)) = some (.int i) ∧ negAt is k = decide (i < 0) := fun k hk => by
            have h1 : is[k]? = some is[k] := List.getElem?_eq_getElem hk
            exact ⟨is[k], by rw [hxi]; exact ix_int h1, by unfold negAt; rw [h1]⟩
          have ixG : ∀ (A : Hv) (y : VV), oIx A (.tup xs) y = oIx G' (.tup xs) y := fun A y => by unfold oIx; rfl
          have m3 := lcL_map (chk := []) (g := gName 2) (e := dAnd (dCmp cLt (dIx (dVar 0) (dVar 2)) (dC (.int 0))) (dCmp cLt (dIx (dVar 0) (dBin oAdd (dVar 2) (dC (.int 1)))) (dC (.int 0)))) (vs := [2]) (S0 := [some (.tup xs), u, none])
            (f := fun x => match x with | .int k => .bl (negAt is k.toNat && negAt is (k.toNat + 1)) | v => v) (upTo 0 (is.length - 1)) (G' ++ [VO.lst (xs.map absV)]) rfl (fun _ => rfl) (by rw [upTo_len]; show _ < 16777216; omega) (by
            intro x o hx
            rw [upTo_range] at hx
            obtain ⟨k, hk, rfl⟩ := List.mem_map.mp hx
            have hk2 : k < is.length - 1 := by simpa using hk
            obtain ⟨i1, e1, n1⟩ := ng k (by omega)
            obtain ⟨i2, e2, n2⟩ := ng (k + 1) (by omega)
            refine ⟨[some (.tup xs), u, some (.int (0 + (k : Nat)))], by simp, ?_⟩
            have c2 : (k : Int) + 1 = ((k + 1 : Nat) : Int) := by omega
            simp [-Int.natCast_add, c2, ixG, e1, e2, n1, n2]
            by_cases h1 : i1 < 0 <;> simp [-Int.natCast_add, h1, e2, n2])
          have hm : (upTo 0 (is.length - 1)).map (fun x => match x with | .int k => VV.bl (negAt is k.toNat && negAt is (k.toNat + 1)) | v => v) = (List.range (is.length - 1)).map fun k => .bl (negAt is k && negAt is (k + 1)) := by
            rw [upTo_range, List.map_map]
            apply List.map_congr_left
            intro k _
            have c2 : (0 + (k : Int)).toNat = k := by omega
            simp only [Function.comp, c2]
          rw [hm] at m3
          simp only [List.append_assoc, List.cons_append, List.nil_append, List.length_append, List.length_cons, List.length_nil] at m3
          have hb := asBls_mapG (f := fun k => negAt is k && negAt is (k + 1)) (List.range (is.length - 1))
          generalize hL : ((List.range (is.length - 1)).map fun k => VV.bl (negAt is k && negAt is (k + 1))) = L at m3 hb
          have hany : (((List.range (is.length - 1)).map fun k => negAt is k && negAt is (k + 1)).any id) = twoGaps is := by rw [List.any_map]; rfl
          generalize hL2 : ((List.range (is.length - 1)).map fun k => negAt is k && negAt is (k + 1)) = L2 at hb hany
          refine ⟨[.lst (xs.map absV), .lst L], ?_⟩
          have hr : rangeOf1 [.int ((xs.length : Int) - 1)] = some (upTo 0 (is.length - 1), []) := by
            have c : ((xs.length : Int) - 1).toNat = is.length - 1 := by omega
            have c2 : mid ((xs.length : Int) - 1) = true := mid_of (by omega)
            simp [rangeOf1, c, c2]
          have h60d : decide (absSum is ≤ 60) = true := by simp [h60']
          rw [hlo, h60d, Bool.true_and]
          simp only [b__law_is_line, start]
          simp [isTy, he, hx, seqOf, m1, wipe, m2, bSum, asListR, haa, hsm, h60, hr, m3, bAny, hb, hany]
  | ref i xs e => exact ⟨[], by simp [b__law_is_line, start, isTy, e, lineOk]⟩
  | _ => exact ⟨[], by simp [b__law_is_line, start, isTy, lineOk]⟩
end DL
end S_D70
section S_E70
set_option linter.all false
set_option maxRecDepth 1000000
set_option maxHeartbeats 4000000
/-! E69: plans, rows, what is taken: both sides of k69. -/
namespace DL
theorem eqvL_bl : ∀ a b : List Bool, eqvL (a.map PD.bl) (b.map PD.bl) = decide (a = b)
  | [], [] => by simp
  | [], _ :: _ => by simp
  | _ :: _, [] => by simp
  | x :: a, y :: b => by
    simp [eqvL_bl a b]
    cases x <;> cases y <;> simp
theorem mapO_bl (G : Hv) (n : Nat) : ∀ a : List Bool, mapO (toPD G (n + 1)) (a.map VV.bl) = some (a.map PD.bl)
  | [] => rfl
  | x :: a => by rw [List.map_cons, mapO_cons, mapO_bl G n a]; rfl
theorem toPD_blref {G : Hv} {i n : Nat} {a : List Bool} (h : G[i]? = some (.lst (a.map VV.bl))) : toPD G (n + 2) (.ref i) = some (.lst (a.map PD.bl)) := by
  rw [toPD_ref, h]
  simp only [mapO_bl, Option.map_some]
theorem inL_bls {G : Hv} {d i j : Nat} {s a b : List Bool} (hd : G[d]? = some (.lst (s.map VV.bl))) (hi : G[i]? = some (.lst (a.map VV.bl))) (hj : G[j]? = some (.lst (b.map VV.bl))) : inL G (.ref d) [.ref i, .ref j] = some (decide (a = s) || decide (b = s)) := by
  unfold inL
  rw [DEPTH_eq]
  simp only [mapO_cons, mapO_nil, toPD_blref (n := 10) hd, toPD_blref (n := 10) hi, toPD_blref (n := 10) hj, List.any_cons, List.any_nil, eqv_lst, eqvL_bl, Bool.or_false]
/-- False in these -/
theorem inL_false {G : Hv} (a : List Bool) : inL G (.bl false) (a.map VV.bl) = some (a.any fun x => !x) := by
  unfold inL
  rw [DEPTH_eq]
  simp only [mapO_bl G 11 a, toPD_bl, List.any_map, Function.comp_def, eqv_bl]
  congr 2
  funext x
  cases x <;> rfl
/-- the plan of a line, by the signs of its pieces -/
def fitP (s : List Bool) (p : List Nat) : Bool :=
  if p = [98, 101, 104, 105, 110, 100] then decide ([true] = s) || decide ([true, false] = s)
  else if p = [102, 114, 111, 110, 116] then decide ([true] = s) || decide ([false, true] = s)
  else if p = [106, 111, 105, 110, 101, 100] then !(s.any fun x => !x)
  else decide (p = [97, 110, 121]) || ((match s with | x :: _ => x | [] => false) && !((s.take (s.length - 1)).any fun x => !x))
def signsOf (is : List Int) : List Bool := is.map fun i => decide (0 < i)
theorem signs_lc {G : Hv} {is : List Int} {p : VV} (hl : is.length < 1000) (S0 : Env) (hS : S0 = [some (.tup (is.map VV.int)), some p, none, none]) : lcL [] (gName 3) tYes (dCmp cGt (dVar 3) (dC (.int 0))) [3] S0 G.length (is.map VV.int) (G ++ [.lst []]) = .ok (.ref G.length) (G ++ [.lst ((signsOf is).map VV.bl)]) := by
  subst hS
  have m := lcL_map (chk := []) (g := gName 3) (e := dCmp cGt (dVar 3) (dC (.int 0))) (vs := [3]) (S0 := [some (.tup (is.map VV.int)), some p, none, none]) (f := fun x => match x with | .int i => .bl (decide (0 < i)) | v => v) (is.map VV.int) G rfl (fun _ => rfl) (by rw [List.length_map]; show _ < 16777216; omega) (by
    intro x o hx
    obtain ⟨i, _, rfl⟩ := List.mem_map.mp hx
    exact ⟨[some (.tup (is.map VV.int)), some p, none, some (.int i)], by simp, by simp⟩)
  rw [m]
  simp [signsOf, List.map_map, Function.comp_def]
theorem is_of_eq {G : Hv} {is : List Int} {p : List Nat} (hl : is.length < 1000) (hne : is ≠ []) : f_is_of [.tup (is.map VV.int), .str p] G = .ok (.bl (fitP (signsOf is) p)) G := by
  refine pure_any (fun G' _ => ?_) (by simp)
  have m := signs_lc (G := G') (p := .str p) hl _ rfl
  by_cases h1 : p = [98, 101, 104, 105, 110, 100]
  · subst h1
    refine ⟨[.lst ((signsOf is).map VV.bl), .lst [.bl true], .lst [.bl true, .bl false]], ?_⟩
    have q := inL_bls (G := G' ++ [.lst ((signsOf is).map VV.bl), .lst [.bl true], .lst [.bl true, .bl false]]) (d := G'.length) (i := G'.length + 1) (j := G'.length + 2) (s := signsOf is) (a := [true]) (b := [true, false]) (by simp) (by simp [List.getElem?_append_right]) (by simp [List.getElem?_append_right])
    simp only [b_is_of, start]
    simp [seqOf, wipe, m, q, fitP]
  · by_cases h2 : p = [102, 114, 111, 110, 116]
    · subst h2
      refine ⟨[.lst ((signsOf is).map VV.bl), .lst [.bl true], .lst [.bl false, .bl true]], ?_⟩
      have q := inL_bls (G := G' ++ [.lst ((signsOf is).map VV.bl), .lst [.bl true], .lst [.bl false, .bl true]]) (d := G'.length) (i := G'.length + 1) (j := G'.length + 2) (s := signsOf is) (a := [true]) (b := [false, true]) (by simp) (by simp [List.getElem?_append_right]) (by simp [List.getElem?_append_right])
      simp only [b_is_of, start]
      simp [seqOf, wipe, m, q, fitP]
    · by_cases h3 : p = [106, 111, 105, 110, 101, 100]
      · subst h3
        refine ⟨[.lst ((signsOf is).map VV.bl)], ?_⟩
        have q : cNin (G' ++ [.lst ((signsOf is).map VV.bl)]) (.bl false) (.ref G'.length) = some (!((signsOf is).any fun x => !x)) := by
          show (cIn _ _ _).map not = _
          rw [cIn_ref]
          simp only [List.getElem?_concat_length, inL_false]
          rfl
        simp only [b_is_of, start]
        simp [seqOf, wipe, m, q, fitP]
      · by_cases h4 : p = [97, 110, 121]
        · subst h4
          refine ⟨[.lst ((signsOf is).map VV.bl)], ?_⟩
          simp only [b_is_of, start]
          simp [seqOf, wipe, m, fitP]
        · cases hs : signsOf is with
          | nil => exact (hne (by simpa [signsOf] using hs)).elim
          | cons x r =>
            rw [hs] at m
            have i0 : oIx (G' ++ [.lst ((x :: r).map VV.bl)]) (.ref G'.length) (.int 0) = some (.bl x) := by
              unfold oIx
              simp [asSeq, asListR, atI, ixN]
            cases x with
            | false =>
              refine ⟨[.lst ((false :: r).map VV.bl)], ?_⟩
              simp only [b_is_of, start]
              simp only [List.map_cons] at m i0 ⊢
              simp [seqOf, wipe, m, fitP, h1, h2, h3, h4, i0]
            | true =>
              have hc : cut ((true :: r).map VV.bl) none (some (-1)) = ((true :: r).take r.length).map VV.bl := by
                have e : (-1 + ((r.length : Int) + 1)).toNat = r.length := by omega
                simp [cut, sIx, List.map_take, e]
              refine ⟨[.lst ((true :: r).map VV.bl), .lst (((true :: r).take r.length).map VV.bl)], ?_⟩
              have sl : oSlice (.ref G'.length) none (some (-1)) (G' ++ [.lst ((true :: r).map VV.bl)]) = some (.ref (G'.length + 1), G' ++ [.lst ((true :: r).map VV.bl), .lst (((true :: r).take r.length).map VV.bl)]) := by
                unfold oSlice
                simp only [asListR, List.getElem?_concat_length, hc, newL]
                simp
              have q : cNin (G' ++ [.lst ((true :: r).map VV.bl), .lst (((true :: r).take r.length).map VV.bl)]) (.bl false) (.ref (G'.length + 1)) = some (!(((true :: r).take r.length).any fun x => !x)) := by
                show (cIn _ _ _).map not = _
                rw [cIn_ref]
                have g : (G' ++ [VO.lst ((true :: r).map VV.bl), .lst (((true :: r).take r.length).map VV.bl)])[G'.length + 1]? = some (.lst (((true :: r).take r.length).map VV.bl)) := by simp [List.getElem?_append_right]
                simp only [g, inL_false]
                rfl
              generalize hL : ((true :: r).take r.length) = L at sl q ⊢
              simp only [b_is_of, start]
              simp only [List.map_cons] at m i0 sl q ⊢
              simp [seqOf, wipe, m, fitP, h1, h2, h3, h4, i0, sl, q, hL]
theorem law_fits_eq {G : Hv} {is : List Int} {p : List Nat} (hl : is.length < 1000) (hne : is ≠ []) : f__law_fits [.tup (is.map VV.int), .str p] G = .ok (.bl (fitP (signsOf is) p)) G := by
  refine pure_any (fun G' _ => ?_) (by simp)
  have m := signs_lc (G := G') (p := .str p) hl _ rfl
  by_cases h1 : p = [98, 101, 104, 105, 110, 100]
  · subst h1
    refine ⟨[.lst ((signsOf is).map VV.bl), .lst [.bl true], .lst [.bl true, .bl false], .lst [.ref (G'.length + 1), .ref (G'.length + 2)]], ?_⟩
    have q := inL_bls (G := G' ++ [.lst ((signsOf is).map VV.bl), .lst [.bl true], .lst [.bl true, .bl false], .lst [.ref (G'.length + 1), .ref (G'.length + 2)]]) (d := G'.length) (i := G'.length + 1) (j := G'.length + 2) (s := signsOf is) (a := [true]) (b := [true, false]) (by simp) (by simp [List.getElem?_append_right]) (by simp [List.getElem?_append_right])
    simp only [b__law_fits, start]
    simp [seqOf, wipe, m, q, fitP, List.getElem?_append_right]
  · by_cases h2 : p = [102, 114, 111, 110, 116]
    · subst h2
      refine ⟨[.lst ((signsOf is).map VV.bl), .lst [.bl true], .lst [.bl false, .bl true], .lst [.ref (G'.length + 1), .ref (G'.length + 2)]], ?_⟩
      have q := inL_bls (G := G' ++ [.lst ((signsOf is).map VV.bl), .lst [.bl true], .lst [.bl false, .bl true], .lst [.ref (G'.length + 1), .ref (G'.length + 2)]]) (d := G'.length) (i := G'.length + 1) (j := G'.length + 2) (s := signsOf is) (a := [true]) (b := [false, true]) (by simp) (by simp [List.getElem?_append_right]) (by simp [List.getElem?_append_right])
      simp only [b__law_fits, start]
      simp [seqOf, wipe, m, q, fitP, List.getElem?_append_right]
    · by_cases h3 : p = [106, 111, 105, 110, 101, 100]
      · subst h3
        refine ⟨[.lst ((signsOf is).map VV.bl)], ?_⟩
        have q : cNin (G' ++ [.lst ((signsOf is).map VV.bl)]) (.bl false) (.ref G'.length) = some (!((signsOf is).any fun x => !x)) := by
          show (cIn _ _ _).map not = _
          rw [cIn_ref]
          simp only [List.getElem?_concat_length, inL_false]
          rfl
        simp only [b__law_fits, start]
        simp [seqOf, wipe, m, q, fitP, List.getElem?_append_right]
      · by_cases h4 : p = [97, 110, 121]
        · subst h4
          refine ⟨[.lst ((signsOf is).map VV.bl)], ?_⟩
          simp only [b__law_fits, start]
          simp [seqOf, wipe, m, fitP]
        · cases hs : signsOf is with
          | nil => exact (hne (by simpa [signsOf] using hs)).elim
          | cons x r =>
            rw [hs] at m
            have i0 : oIx (G' ++ [.lst ((x :: r).map VV.bl)]) (.ref G'.length) (.int 0) = some (.bl x) := by
              unfold oIx
              simp [asSeq, asListR, atI, ixN]
            cases x with
            | false =>
              refine ⟨[.lst ((false :: r).map VV.bl)], ?_⟩
              simp only [b__law_fits, start]
              simp only [List.map_cons] at m i0 ⊢
              simp [seqOf, wipe, m, fitP, h1, h2, h3, h4, i0]
            | true =>
              have hc : cut ((true :: r).map VV.bl) none (some (-1)) = ((true :: r).take r.length).map VV.bl := by
                have e : (-1 + ((r.length : Int) + 1)).toNat = r.length := by omega
                simp [cut, sIx, List.map_take, e]
              refine ⟨[.lst ((true :: r).map VV.bl), .lst (((true :: r).take r.length).map VV.bl)], ?_⟩
              have sl : oSlice (.ref G'.length) none (some (-1)) (G' ++ [.lst ((true :: r).map VV.bl)]) = some (.ref (G'.length + 1), G' ++ [.lst ((true :: r).map VV.bl), .lst (((true :: r).take r.length).map VV.bl)]) := by
                unfold oSlice
                simp only [asListR, List.getElem?_concat_length, hc, newL]
                simp
              have q : cNin (G' ++ [.lst ((true :: r).map VV.bl), .lst (((true :: r).take r.length).map VV.bl)]) (.bl false) (.ref (G'.length + 1)) = some (!(((true :: r).take r.length).any fun x => !x)) := by
                show (cIn _ _ _).map not = _
                rw [cIn_ref]
                have g : (G' ++ [VO.lst ((true :: r).map VV.bl), .lst (((true :: r).take r.length).map VV.bl)])[G'.length + 1]? = some (.lst (((true :: r).take r.length).map VV.bl)) := by simp [List.getElem?_append_right]
                simp only [g, inL_false]
                rfl
              generalize hL : ((true :: r).take r.length) = L at sl q ⊢
              simp only [b__law_fits, start]
              simp only [List.map_cons] at m i0 sl q ⊢
              simp [seqOf, wipe, m, fitP, h1, h2, h3, h4, i0, sl, q, hL]
end DL
end S_E70
section S_F70
set_option linter.all false
set_option maxRecDepth 1000000
set_option maxHeartbeats 4000000
/-! F69: rows by place, both sides. -/
namespace DL
def ab (x : Int) : Int := if x < 0 then -x else x
theorem ab_nat (x : Int) : ab x = (x.natAbs : Int) := by unfold ab; split <;> omega
def strV : List Int → Int → List VV
  | [], _ => []
  | x :: xs, b => .tup [.int b, .int (b + ab x - 1)] :: strV xs (b + ab x)
def cellsP : List Int → Int → List VV
  | [], _ => []
  | x :: xs, b => List.replicate x.natAbs (if 0 < x then .tup [.int b, .int (b + ab x - 1)] else .non) ++ cellsP xs (b + ab x)
def cellsT : List Int → Int → List VV
  | [], _ => []
  | x :: xs, k => List.replicate x.natAbs (.int (if 0 < x then k else -1)) ++ cellsT xs (k + 1)
theorem strV_len : ∀ (is : List Int) (b : Int), (strV is b).length = is.length
  | [], _ => rfl
  | x :: xs, b => by rw [strV, List.length_cons, List.length_cons, strV_len xs]
/-- where the k-th piece begins -/
def begAt (is : List Int) (b : Int) (k : Nat) : Int := b + absSum (is.take k)
theorem absSum_cons (x : Int) (xs : List Int) : absSum (x :: xs) = ab x + absSum xs := by unfold absSum; rw [List.map_cons, List.sum_cons]; rfl
theorem strV_get : ∀ (is : List Int) (b : Int) (k : Nat) (x : Int), is[k]? = some x → (strV is b)[k]? = some (.tup [.int (begAt is b k), .int (begAt is b k + ab x - 1)])
  | [], _, k, x, h => by simp at h
  | y :: is, b, 0, x, h => by
    simp at h
    subst h
    simp [strV, begAt, absSum]
  | y :: is, b, k + 1, x, h => by
    rw [strV, List.getElem?_cons_succ, strV_get is (b + ab y) k x (by simpa using h)]
    have : begAt is (b + ab y) k = begAt (y :: is) b (k + 1) := by
      unfold begAt
      rw [List.take_succ_cons, absSum_cons]
      omega
    rw [this]
theorem strV_take (is : List Int) (b : Int) (k : Nat) (x : Int) (h : is[k]? = some x) : strV (is.take (k + 1)) b = strV (is.take k) b ++ [.tup [.int (begAt is b k), .int (begAt is b k + ab x - 1)]] := by
  induction is generalizing b k with
  | nil => simp at h
  | cons y is ih =>
    cases k with
    | zero =>
      simp at h
      subst h
      simp [strV, begAt, absSum]
    | succ k =>
      rw [List.take_succ_cons, strV, ih (b + ab y) k (by simpa using h), List.take_succ_cons, strV]
      have : begAt is (b + ab y) k = begAt (y :: is) b (k + 1) := by
        unfold begAt
        rw [List.take_succ_cons, absSum_cons]
        omega
      rw [this]
      rfl
theorem begAt_succ {is : List Int} {b : Int} {k : Nat} {x : Int} (h : is[k]? = some x) : begAt is b (k + 1) = begAt is b k + ab x := by
  unfold begAt absSum
  rw [List.take_succ, h]
  simp [ab]
  omega
theorem stretches_eq {is : List Int} (hl : is.length < 1000) (G : Hv) : f_stretches [.tup (is.map VV.int)] G = .ok (.ref G.length) (G ++ [.lst (strV is 0)]) := by
  have e : f_stretches [.tup (is.map VV.int)] [] = .ok (.ref 0) [.lst (strV is 0)] := by
    obtain ⟨S', G', e, u, rfl, rfl⟩ := forL_invC (chk := []) (g := gName 3) (b := dSeq (dExpr (dM .lst mAppend (dVar 1) (aCons (dTup (aCons (dVar 2) (aCons (dBin oSub (dBin oAdd (dVar 2) (dB bAbs (aCons (dVar 3) (aNil)))) (dC (.int 1))) (aNil)))) (aNil)))) (sAug aAdd 2 (dB bAbs (aCons (dVar 3) (aNil)))))
      (fun j S G => ∃ u, S = [some (.tup (is.map VV.int)), some (.ref 0), some (.int (begAt is 0 j)), u] ∧ G = [.lst (strV (is.take j) 0)]) (fun _ _ _ _ => rfl) (is.map VV.int) 0 [some (.tup (is.map VV.int)), some (.ref 0), some (.int 0), none] [.lst []] ⟨none, by simp [begAt, absSum], rfl⟩ (by
      rintro j S G x hx _ ⟨u, rfl, rfl⟩
      rw [Nat.sub_zero, List.getElem?_map] at hx
      cases hj : is[j]? with
      | none => rw [hj] at hx; cases hx
      | some i =>
        rw [hj] at hx
        cases hx
        have hjl := (List.getElem?_eq_some_iff.mp hj).1
        have hlen : (strV (is.take j) 0).length < 16777216 := by rw [strV_len, List.length_take]; omega
        refine ⟨[some (.tup (is.map VV.int)), some (.ref 0), some (.int (begAt is 0 j)), some (.int i)], [.lst (strV (is.take j) 0)], [some (.tup (is.map VV.int)), some (.ref 0), some (.int (begAt is 0 (j + 1))), some (.int i)], [.lst (strV (is.take (j + 1)) 0)], by simp, ?_, some (.int i), rfl, rfl⟩
        rw [begAt_succ hj, strV_take is 0 j i hj]
        simp [isRt, mAppend, hlen, bAbs, ab])
    unfold f_stretches
    rw [dDef_val (k := 1) (vs := [.tup (is.map VV.int)]) rfl (by simp [closedL_ints]), reloc_nil]
    simp [b_stretches, start, seqOf]
    simp at e
    rw [e]
    simp [gcR]
  rw [show f_stretches [.tup (is.map VV.int)] G = _ from loc_ref (by simp [closedL_ints]) e G]
  have cl : ∀ (is : List Int) (b : Int), closedL 0 (strV is b) = true := fun is => by
    induction is with
    | nil => intro b; simp [strV]
    | cons x xs ih => intro b; simp [strV, ih]
  simp [shO, shL_closed _ (cl is 0)]
theorem repL_one (v : VV) : ∀ n : Nat, repL [v] n = List.replicate n v
  | 0 => rfl
  | n + 1 => by rw [repL, repL_one v n]; rfl
theorem cellsP_take (is : List Int) (b : Int) (k : Nat) (x : Int) (h : is[k]? = some x) : cellsP (is.take (k + 1)) b = cellsP (is.take k) b ++ List.replicate x.natAbs (if 0 < x then .tup [.int (begAt is b k), .int (begAt is b k + ab x - 1)] else .non) := by
  induction is generalizing b k with
  | nil => simp at h
  | cons y is ih =>
    cases k with
    | zero =>
      simp at h
      subst h
      simp [cellsP, begAt, absSum]
    | succ k =>
      rw [List.take_succ_cons, cellsP, ih (b + ab y) k (by simpa using h), List.take_succ_cons, cellsP, List.append_assoc]
      have : begAt is (b + ab y) k = begAt (y :: is) b (k + 1) := by
        unfold begAt
        rw [List.take_succ_cons, absSum_cons]
        omega
      rw [this]
theorem cellsT_take (is : List Int) (c : Int) (k : Nat) (x : Int) (h : is[k]? = some x) : cellsT (is.take (k + 1)) c = cellsT (is.take k) c ++ List.replicate x.natAbs (.int (if 0 < x then c + k else -1)) := by
  induction is generalizing c k with
  | nil => simp at h
  | cons y is ih =>
    cases k with
    | zero =>
      simp at h
      subst h
      simp [cellsT]
    | succ k =>
      rw [List.take_succ_cons, cellsT, ih (c + 1) k (by simpa using h), List.take_succ_cons, cellsT, List.append_assoc]
      have : c + 1 + (k : Int) = c + ((k + 1 : Nat) : Int) := by omega
      rw [this]
theorem zipG : ∀ (xs ys : List VV) (i : Nat), (zipV xs ys)[i]? = match xs[i]?, ys[i]? with
    | some x, some y => some (.tup [x, y])
    | _, _ => none
  | [], ys, i => by simp [zipV]
  | x :: xs, [], i => by cases h : (x :: xs)[i]? <;> simp [zipV]
  | x :: xs, y :: ys, 0 => by simp [zipV]
  | x :: xs, y :: ys, i + 1 => by
    rw [zipV, List.getElem?_cons_succ, List.getElem?_cons_succ, List.getElem?_cons_succ, zipG xs ys i]
theorem cellsP_len (is : List Int) (b : Int) : ((cellsP is b).length : Int) = absSum is := by
  induction is generalizing b with
  | nil => simp [cellsP, absSum]
  | cons x xs ih => rw [cellsP, List.length_append, List.length_replicate, absSum_cons, ab_nat]; push_cast; rw [ih]
theorem cellsT_len (is : List Int) (b : Int) : ((cellsT is b).length : Int) = absSum is := by
  induction is generalizing b with
  | nil => simp [cellsT, absSum]
  | cons x xs ih => rw [cellsT, List.length_append, List.length_replicate, absSum_cons, ab_nat]; push_cast; rw [ih]
theorem absSum_take (is : List Int) (k : Nat) : absSum (is.take k) ≤ absSum is := by
  have e : absSum is = absSum (is.take k) + absSum (is.drop k) := by
    unfold absSum
    rw [← List.sum_append, ← List.map_append, List.take_append_drop]
  have p : ∀ is : List Int, 0 ≤ absSum is := fun is => by
    induction is with
    | nil => simp [absSum]
    | cons x xs ih => rw [absSum_cons, ab_nat]; omega
  have := p (is.drop k)
  omega
theorem oMul_one {G : Hv} {a : Nat} {x : VV} {k : Int} (h : G[a]? = some (.lst [x])) (h0 : 0 ≤ k) (h1 : k ≤ 1000) : oMul (.ref a) (.int k) G = some (.ref G.length, G ++ [.lst (List.replicate k.toNat x)]) := by
  unfold oMul
  simp only [h]
  rw [if_pos ⟨by omega, by omega, by show 1 * _ ≤ 16777216; omega⟩, repL_one]
  rfl
theorem closed_cellsP : ∀ (is : List Int) (b : Int), closedL 0 (cellsP is b) = true := fun is => by
  have app : ∀ a b : List VV, closedL 0 a = true → closedL 0 b = true → closedL 0 (a ++ b) = true := fun a => by
    induction a with
    | nil => exact fun b _ h => h
    | cons x a ih =>
      intro b h h'
      rw [closedL_cons, Bool.and_eq_true] at h
      rw [List.cons_append, closedL_cons, h.1, ih b h.2 h']
      rfl
  have rep : ∀ (n : Nat) (v : VV), closedV 0 v = true → closedL 0 (List.replicate n v) = true := fun n v hv => by
    induction n with
    | zero => simp
    | succ n ih => rw [List.replicate_succ, closedL_cons, hv, ih]; rfl
  induction is with
  | nil => intro b; simp [cellsP]
  | cons x xs ih => intro b; exact app _ _ (rep _ _ (by split <;> simp)) (ih _)
theorem rows_by_place_eq {is : List Int} (hl : is.length < 1000) (h60 : absSum is ≤ 1000) (G : Hv) : ∃ E, f_rows_by_place [.tup (is.map VV.int)] G = .ok (.ref G.length) (G ++ .lst (cellsP is 0) :: E) := by
  have e : ∃ E, f_rows_by_place [.tup (is.map VV.int)] [] = .ok (.ref 0) (.lst (cellsP is 0) :: E) := by
    obtain ⟨S', G', e, u, v, E, rfl, rfl⟩ := forL_invC (chk := [(1, .lst (strV is 0))]) (g := gTup [gName 2, gName 3]) (b := dExpr (dM .lst mExtend (dVar 1) (aCons (dBin oMul (dLst (aCons (dIf (tV (dCmp cGt (dVar 2) (dC (.int 0)))) (dVar 3) (dC .non)) (aNil))) (dB bAbs (aCons (dVar 2) (aNil)))) (aNil))))
      (fun j S G => ∃ u v E, S = [some (.tup (is.map VV.int)), some (.ref 0), u, v] ∧ G = .lst (cellsP (is.take j) 0) :: .lst (strV is 0) :: E) (fun _ _ _ ⟨_, _, _, _, h⟩ => by rw [h]; simp [stays]) (zipV (is.map VV.int) (strV is 0)) 0 [some (.tup (is.map VV.int)), some (.ref 0), none, none] [.lst [], .lst (strV is 0)] ⟨none, none, [], rfl, rfl⟩ (by
      rintro j S G x hx _ ⟨u, v, E, rfl, rfl⟩
      rw [Nat.sub_zero, zipG, List.getElem?_map] at hx
      cases hj : is[j]? with
      | none => rw [hj] at hx; cases hx
      | some i =>
        rw [hj, strV_get is 0 j i hj] at hx
        simp at hx
        subst hx
        have c1 := cellsP_len (is.take j) 0
        have c2 := absSum_take is j
        have c3 := absSum_take is (j + 1)
        have c4 := cellsP_len (is.take (j + 1)) 0
        have c5 := cellsP_take is 0 j i hj
        have c6 : i.natAbs ≤ 1000 := by
          rw [c5, List.length_append, List.length_replicate] at c4
          push_cast at c4
          omega
        have hab : (ab i).toNat = i.natAbs := by rw [ab_nat]; simp
        have hk : 0 ≤ ab i ∧ ab i ≤ 1000 := by rw [ab_nat]; omega
        have hG : ∀ y : VV, (VO.lst (cellsP (is.take j) 0) :: .lst (strV is 0) :: (E ++ [.lst [y]]))[E.length + 2]? = some (.lst [y]) := fun y => by simp
        have mul : ∀ y : VV, oMul (.ref (E.length + 2)) (.int (ab i)) (.lst (cellsP (is.take j) 0) :: .lst (strV is 0) :: (E ++ [.lst [y]])) = some (.ref (E.length + 3), .lst (cellsP (is.take j) 0) :: .lst (strV is 0) :: (E ++ [.lst [y], .lst (List.replicate i.natAbs y)])) := fun y => by
          rw [oMul_one (hG y) hk.1 hk.2, hab]
          simp
        have habs : bAbs [.int i] = fun G => some (.int (ab i), G) := rfl
        have lim : (cellsP (is.take j) 0).length + i.natAbs ≤ 16777216 := by omega
        refine ⟨[some (.tup (is.map VV.int)), some (.ref 0), some (.int i), some (.tup [.int (begAt is 0 j), .int (begAt is 0 j + ab i - 1)])], _, [some (.tup (is.map VV.int)), some (.ref 0), some (.int i), some (.tup [.int (begAt is 0 j), .int (begAt is 0 j + ab i - 1)])],
          .lst (cellsP (is.take (j + 1)) 0) :: .lst (strV is 0) :: (E ++ [.lst [if 0 < i then .tup [.int (begAt is 0 j), .int (begAt is 0 j + ab i - 1)] else .non], .lst (List.replicate i.natAbs (if 0 < i then .tup [.int (begAt is 0 j), .int (begAt is 0 j + ab i - 1)] else .non))]), by simp; rfl, ?_, _, _, _, rfl, rfl⟩
        rw [c5]
        by_cases hi : 0 < i
        · simp [isRt, hi, habs, mul, mExtend, lim]
        · simp [isRt, hi, habs, mul, mExtend, lim])
    have zl : (zipV (is.map VV.int) (strV is 0)).length = is.length := by
      have : ∀ (xs ys : List VV), xs.length = ys.length → (zipV xs ys).length = xs.length := fun xs => by
        induction xs with
        | nil => intro ys _; simp [zipV]
        | cons x xs ih =>
          intro ys h
          cases ys with
          | nil => simp at h
          | cons y ys => rw [zipV, List.length_cons, List.length_cons, ih ys (by simpa using h)]
      rw [this _ _ (by rw [List.length_map, strV_len]), List.length_map]
    rw [zl, Nat.zero_add, List.take_length] at e
    refine ⟨.lst (strV is 0) :: E, ?_⟩
    unfold f_rows_by_place
    rw [dDef_val (k := 1) (vs := [.tup (is.map VV.int)]) rfl (by simp [closedL_ints]), reloc_nil]
    have st := stretches_eq hl [.lst []]
    simp at st
    simp [b_rows_by_place, start, st, zipOf, seqOf]
    rw [e]
    simp [gcR]
  obtain ⟨E, e⟩ := e
  refine ⟨E.map (shO G.length), ?_⟩
  rw [show f_rows_by_place [.tup (is.map VV.int)] G = _ from loc_ref (by simp [closedL_ints]) e G]
  simp [shO, shL_closed _ (closed_cellsP is 0)]
theorem closed_cellsT : ∀ (is : List Int) (b : Int), closedL 0 (cellsT is b) = true := fun is => by
  have app : ∀ a b : List VV, closedL 0 a = true → closedL 0 b = true → closedL 0 (a ++ b) = true := fun a => by
    induction a with
    | nil => exact fun b _ h => h
    | cons x a ih =>
      intro b h h'
      rw [closedL_cons, Bool.and_eq_true] at h
      rw [List.cons_append, closedL_cons, h.1, ih b h.2 h']
      rfl
  have rep : ∀ (n : Nat) (v : VV), closedV 0 v = true → closedL 0 (List.replicate n v) = true := fun n v hv => by
    induction n with
    | zero => simp
    | succ n ih => rw [List.replicate_succ, closedL_cons, hv, ih]; rfl
  induction is with
  | nil => intro b; simp [cellsT]
  | cons x xs ih => intro b; exact app _ _ (rep _ _ (by simp)) (ih _)
theorem oAdd_lst {G : Hv} {a b : Nat} {xs ys : List VV} (h : G[a]? = some (.lst xs)) (h' : G[b]? = some (.lst ys)) (hl : xs.length + ys.length ≤ 16777216) : oAdd (.ref a) (.ref b) G = some (.ref G.length, G ++ [.lst (xs ++ ys)]) := by
  unfold oAdd
  simp only [h, h']
  rw [if_pos hl]
  rfl
theorem law_rows_eq {is : List Int} (hl : is.length < 1000) (h60 : absSum is ≤ 1000) (G : Hv) : ∃ k E, f__law_rows [.tup (is.map VV.int)] G = .ok (.ref (G.length + k)) (G ++ E) ∧ (G ++ E)[G.length + k]? = some (.lst (cellsT is 0)) := by
  have e : ∃ k E, f__law_rows [.tup (is.map VV.int)] [] = .ok (.ref k) E ∧ E[k]? = some (.lst (cellsT is 0)) := by
    obtain ⟨S', G', e, u, v, k, rfl, hk⟩ := forL_invC (chk := []) (g := gName 2) (b := dSeq (sAsg (dIf (tV (dCmp cGt (dIx (dVar 0) (dVar 2)) (dC (.int 0)))) (dVar 2) (dUn oNeg (dC (.int 1)))) (gName 3)) (
        sAsg (dBin oAdd (dVar 1) (dBin oMul (dLst (aCons (dVar 3) (aNil))) (dB bAbs (aCons (dIx (dVar 0) (dVar 2)) (aNil))))) (gName 1)))
      (fun j S G => ∃ u v k, S = [some (.tup (is.map VV.int)), some (.ref k), u, v] ∧ G[k]? = some (.lst (cellsT (is.take j) 0))) (fun _ _ _ _ => rfl) (upTo 0 is.length) 0 [some (.tup (is.map VV.int)), some (.ref 0), none, none] [.lst []] ⟨none, none, 0, rfl, rfl⟩ (by
      rintro j S G x hx _ ⟨u, v, k, rfl, hk⟩
      rw [Nat.sub_zero, upTo_range, List.getElem?_map] at hx
      cases hr : (List.range is.length)[j]? with
      | none => rw [hr] at hx; cases hx
      | some j' =>
        have hjl : j < is.length := by simpa using (List.getElem?_eq_some_iff.mp hr).1
        have : j' = j := by
          have := (List.getElem?_eq_some_iff.mp hr).2
          simp at this
          exact this.symm
        subst this
        rw [hr] at hx
        simp at hx
        subst hx
        have hj : is[j']? = some is[j'] := List.getElem?_eq_getElem hjl
        generalize is[j'] = i at hj
        have ix : ∀ G : Hv, oIx G (.tup (is.map VV.int)) (.int (j' : Nat)) = some (.int i) := fun G => ix_int hj
        have c1 := cellsT_len (is.take j') 0
        have c2 := absSum_take is j'
        have c4 := cellsT_len (is.take (j' + 1)) 0
        have c3 := absSum_take is (j' + 1)
        have c5 := cellsT_take is 0 j' i hj
        have c6 : i.natAbs ≤ 1000 := by
          rw [c5, List.length_append, List.length_replicate] at c4
          push_cast at c4
          omega
        have hab : (ab i).toNat = i.natAbs := by rw [ab_nat]; simp
        have hk' : 0 ≤ ab i ∧ ab i ≤ 1000 := by rw [ab_nat]; omega
        have habs : bAbs [.int i] = fun G => some (.int (ab i), G) := rfl
        have lim : (cellsT (is.take j') 0).length + i.natAbs ≤ 16777216 := by omega
        have mul : ∀ y : VV, oMul (.ref G.length) (.int (ab i)) (G ++ [.lst [y]]) = some (.ref (G.length + 1), G ++ [.lst [y], .lst (List.replicate i.natAbs y)]) := fun y => by
          rw [oMul_one (G := G ++ [VO.lst [y]]) (a := G.length) (x := y) (by simp) hk'.1 hk'.2, hab]
          simp
        have hkl : k < G.length := (List.getElem?_eq_some_iff.mp hk).1
        have add : ∀ y : VV, oAdd (.ref k) (.ref (G.length + 1)) (G ++ [.lst [y], .lst (List.replicate i.natAbs y)]) = some (.ref (G.length + 2), G ++ [.lst [y], .lst (List.replicate i.natAbs y), .lst (cellsT (is.take j') 0 ++ List.replicate i.natAbs y)]) := fun y => by
          rw [oAdd_lst (xs := cellsT (is.take j') 0) (ys := List.replicate i.natAbs y) (by rw [List.getElem?_append_left hkl]; exact hk) (by simp [List.getElem?_append_right]) (by rw [List.length_replicate]; exact lim)]
          simp
        refine ⟨[some (.tup (is.map VV.int)), some (.ref k), some (.int (j' : Nat)), v], G, [some (.tup (is.map VV.int)), some (.ref (G.length + 2)), some (.int (j' : Nat)), some (.int (if 0 < i then (j' : Nat) else -1))],
          G ++ [.lst [.int (if 0 < i then (j' : Nat) else -1)], .lst (List.replicate i.natAbs (.int (if 0 < i then (j' : Nat) else -1))), .lst (cellsT (is.take j') 0 ++ List.replicate i.natAbs (.int (if 0 < i then (j' : Nat) else -1)))], by simp, ?_, _, _, _, rfl, ?_⟩
        · by_cases hi : 0 < i
          · simp [ix, hi, habs, mul, add]
          · simp [ix, hi, habs, mul, add]
        · rw [c5]
          simp [List.getElem?_append_right])
    rw [upTo_len, Nat.zero_add, List.take_length] at hk
    refine ⟨k, G', ?_, hk⟩
    unfold f__law_rows
    rw [dDef_val (k := 1) (vs := [.tup (is.map VV.int)]) rfl (by simp [closedL_ints]), reloc_nil]
    have hm : mid is.length = true := mid_of (by omega)
    simp [b__law_rows, start, rangeOf1, hm]
    rw [e]
    simp [gcR]
  obtain ⟨k, E, e, hk⟩ := e
  refine ⟨k, E.map (shO G.length), loc_ref (by simp [closedL_ints]) e G, ?_⟩
  rw [List.getElem?_append_right (Nat.le_add_right _ _), Nat.add_sub_cancel_left, List.getElem?_map, hk]
  simp [shO, shL_closed _ (closed_cellsT is 0)]
end DL
end S_F70
section S_G70
set_option linter.all false
set_option maxRecDepth 1000000
set_option maxHeartbeats 4000000
/-! G69: what a place takes from, and what is of a kind, both sides. -/
namespace DL
/-- a cell: the number of its piece, its first and its last place -/
abbrev Cell := Option (Int × Int × Int)
def cells : List Int → Int → Int → List Cell
  | [], _, _ => []
  | x :: xs, k, b => List.replicate x.natAbs (if 0 < x then some (k, b, b + ab x - 1) else none) ++ cells xs (k + 1) (b + ab x)
def cP : Cell → VV
  | none => .non
  | some (_, b, e) => .tup [.int b, .int e]
def cT : Cell → VV
  | none => .int (-1)
  | some (k, _, _) => .int k
theorem cellsP_eq : ∀ (is : List Int) (k b : Int), cellsP is b = (cells is k b).map cP
  | [], _, _ => rfl
  | x :: xs, k, b => by
    rw [cellsP, cells, List.map_append, ← cellsP_eq xs, List.map_replicate]
    split <;> rfl
theorem cellsT_eq : ∀ (is : List Int) (k b : Int), cellsT is k = (cells is k b).map cT
  | [], _, _ => rfl
  | x :: xs, k, b => by
    rw [cellsT, cells, List.map_append, ← cellsT_eq xs, List.map_replicate]
    split <;> rfl
theorem cells_len (is : List Int) (k b : Int) : ((cells is k b).length : Int) = absSum is := by
  rw [← cellsP_len is b, cellsP_eq is k b, List.length_map]
theorem cells_get {x : Int} {xs : List Int} {k b : Int} {i : Nat} {c : Cell} (h : (cells (x :: xs) k b)[i]? = some c) :
    (i < x.natAbs ∧ c = if 0 < x then some (k, b, b + ab x - 1) else none) ∨ (x.natAbs ≤ i ∧ (cells xs (k + 1) (b + ab x))[i - x.natAbs]? = some c) := by
  rw [cells] at h
  by_cases hi : i < x.natAbs
  · rw [List.getElem?_append_left (by simpa using hi), List.getElem?_replicate, if_pos hi] at h
    exact .inl ⟨hi, (Option.some.inj h).symm⟩
  · rw [List.getElem?_append_right (by simpa using hi), List.length_replicate] at h
    exact .inr ⟨by omega, h⟩
theorem cells_mem : ∀ {is : List Int} {k b : Int} {i : Nat} {k' b' e' : Int}, (cells is k b)[i]? = some (some (k', b', e')) → k ≤ k' ∧ b ≤ b' ∧ b' ≤ b + i ∧ b + i ≤ e' ∧ e' < b + absSum is
  | [], k, b, i, k', b', e', h => by simp [cells] at h
  | x :: xs, k, b, i, k', b', e', h => by
    have hs : absSum (x :: xs) = ab x + absSum xs := absSum_cons x xs
    have h0 : 0 ≤ absSum xs := by
      have := cells_len xs 0 0
      omega
    have ha := ab_nat x
    rcases cells_get h with ⟨hi, h2⟩ | ⟨hi, h2⟩
    · split at h2
      · cases h2
        omega
      · cases h2
    · have := cells_mem h2
      omega
theorem cells_fill : ∀ {is : List Int} {k b : Int} {i j : Nat} {k' b' e' : Int}, (cells is k b)[i]? = some (some (k', b', e')) → b' ≤ b + j → b + j ≤ e' → (cells is k b)[j]? = some (some (k', b', e'))
  | [], k, b, i, j, k', b', e', h, _, _ => by simp [cells] at h
  | x :: xs, k, b, i, j, k', b', e', h, h1, h2 => by
    have ha := ab_nat x
    rcases cells_get h with ⟨hi, h3⟩ | ⟨hi, h3⟩
    · split at h3
      · rename_i hx
        cases h3
        rw [cells, List.getElem?_append_left (by simp; omega), List.getElem?_replicate, if_pos (by omega), if_pos hx]
      · cases h3
    · have hm := cells_mem h3
      rw [cells, List.getElem?_append_right (by simp; omega), List.length_replicate]
      exact cells_fill h3 (by omega) (by omega)
theorem cells_uniq : ∀ {is : List Int} {k b : Int} {i j : Nat} {k' b' e' b'' e'' : Int}, (cells is k b)[i]? = some (some (k', b', e')) → (cells is k b)[j]? = some (some (k', b'', e'')) → b'' = b' ∧ e'' = e'
  | [], k, b, i, j, k', b', e', b'', e'', h, _ => by simp [cells] at h
  | x :: xs, k, b, i, j, k', b', e', b'', e'', h, h1 => by
    rcases cells_get h with ⟨hi, h3⟩ | ⟨hi, h3⟩ <;> rcases cells_get h1 with ⟨hj, h4⟩ | ⟨hj, h4⟩
    · split at h3
      · rename_i hx
        rw [if_pos hx] at h4
        cases h3; cases h4
        exact ⟨rfl, rfl⟩
      · cases h3
    · split at h3
      · cases h3
        have := cells_mem h4
        omega
      · cases h3
    · split at h4
      · cases h4
        have := cells_mem h3
        omega
      · cases h4
    · exact cells_uniq h3 h4
/-- the cells of a line -/
structure Rows (C : List Cell) : Prop where
  mem : ∀ {i : Nat} {k b e : Int}, C[i]? = some (some (k, b, e)) → 0 ≤ k ∧ 0 ≤ b ∧ b ≤ i ∧ i ≤ e ∧ e < C.length
  fill : ∀ {i j : Nat} {k b e : Int}, C[i]? = some (some (k, b, e)) → b ≤ j → j ≤ e → C[j]? = some (some (k, b, e))
  uniq : ∀ {i j : Nat} {k b e b' e' : Int}, C[i]? = some (some (k, b, e)) → C[j]? = some (some (k, b', e')) → b' = b ∧ e' = e
theorem rows_cells (is : List Int) : Rows (cells is 0 0) where
  mem h := by
    have := cells_mem h
    have := cells_len is 0 0
    omega
  fill h h1 h2 := cells_fill h (by omega) (by omega)
  uniq h h1 := cells_uniq h h1
def cAt (C : List Cell) (z : Int) : Cell := (C[z.toNat]?).getD none
theorem cAt_get {C : List Cell} {z : Int} (h0 : 0 ≤ z) (h1 : z < C.length) : C[z.toNat]? = some (cAt C z) := by
  unfold cAt
  rw [List.getElem?_eq_getElem (by omega)]
  rfl
theorem ixN_at {n : Nat} {z : Int} (h0 : 0 ≤ z) (h1 : z < n) : ixN n z = some z.toNat := by
  unfold ixN
  rw [if_pos h0, if_pos h1]
theorem ix_cell {G : Hv} {i : Nat} {C : List Cell} {f : Cell → VV} {z : Int} (h : G[i]? = some (.lst (C.map f))) (h0 : 0 ≤ z) (h1 : z < C.length) : oIx G (.ref i) (.int z) = some (f (cAt C z)) := by
  unfold oIx
  simp only [asSeq, asListR, h, atI]
  rw [ixN_at h0 (by simpa using h1)]
  simp [cAt_get h0 h1]
def noC : Cell → Bool
  | none => true
  | some _ => false
theorem isN_cP (c : Cell) : isN (cP c) = noC c := by cases c <;> rfl
theorem eq_cP {C : List Cell} (hR : Rows C) {x z : Int} (x0 : 0 ≤ x) (x1 : x < C.length) (z0 : 0 ≤ z) (z1 : z < C.length) (G : Hv) : oEq G (cP (cAt C x)) (cP (cAt C z)) = some (decide (cAt C x = cAt C z)) := by
  have hx := cAt_get x0 x1
  have hz := cAt_get z0 z1
  cases cx : cAt C x with
  | none =>
    cases cz : cAt C z with
    | none => simp [cP, oEq]
    | some q => obtain ⟨k, b, e⟩ := q; simp [cP, oEq]
  | some p =>
    obtain ⟨k, b, e⟩ := p
    cases cz : cAt C z with
    | none => simp [cP, oEq]
    | some q =>
      obtain ⟨k', b', e'⟩ := q
      have : oEq G (cP (some (k, b, e))) (cP (some (k', b', e'))) = some (decide (b = b') && decide (e = e')) := by simp [cP, oEq]
      rw [this]
      rw [cx] at hx
      rw [cz] at hz
      have m := hR.mem hx
      have m' := hR.mem hz
      congr 1
      rw [Bool.eq_iff_iff]
      simp
      rintro rfl rfl
      have f1 := hR.fill (j := b.toNat) hx (by omega) (by omega)
      have f2 := hR.fill (j := b.toNat) hz (by omega) (by omega)
      rw [f1] at f2
      cases f2
      rfl
theorem eq_cT {C : List Cell} (hR : Rows C) {x z : Int} (x0 : 0 ≤ x) (x1 : x < C.length) (z0 : 0 ≤ z) (z1 : z < C.length) (G : Hv) : oEq G (cT (cAt C x)) (cT (cAt C z)) = some (decide (cAt C x = cAt C z)) := by
  have hx := cAt_get x0 x1
  have hz := cAt_get z0 z1
  cases cx : cAt C x with
  | none =>
    cases cz : cAt C z with
    | none => simp [cT]
    | some q =>
      obtain ⟨k, b, e⟩ := q
      rw [cz] at hz
      have := hR.mem hz
      simp [cT]
      omega
  | some p =>
    obtain ⟨k, b, e⟩ := p
    rw [cx] at hx
    cases cz : cAt C z with
    | none =>
      have := hR.mem hx
      simp [cT]
      omega
    | some q =>
      obtain ⟨k', b', e'⟩ := q
      rw [cz] at hz
      simp [cT]
      rintro rfl
      have := hR.uniq hx hz
      exact ⟨this.1.symm, this.2.symm⟩
theorem lt_cT {C : List Cell} (hR : Rows C) {x : Int} (x0 : 0 ≤ x) (x1 : x < C.length) (G : Hv) : cLt G (cT (cAt C x)) (.int 0) = some (noC (cAt C x)) := by
  have hx := cAt_get x0 x1
  cases cx : cAt C x with
  | none => simp [cT, noC]
  | some p =>
    obtain ⟨k, b, e⟩ := p
    rw [cx] at hx
    have := hR.mem hx
    simp [cT, noC]
    omega
theorem ge_cT {C : List Cell} (hR : Rows C) {x : Int} (x0 : 0 ≤ x) (x1 : x < C.length) (G : Hv) : cGe G (cT (cAt C x)) (.int 0) = some (!noC (cAt C x)) := by
  have hx := cAt_get x0 x1
  cases cx : cAt C x with
  | none => simp [cT, noC]
  | some p =>
    obtain ⟨k, b, e⟩ := p
    rw [cx] at hx
    have := hR.mem hx
    simp [cT, noC]
    omega
/-- whether a place looks at another one -/
def looksC (s y : List Nat) (n e : Int) (C : List Cell) (x z : Int) : Bool :=
  if y = tFirst then (match cAt C x with | none => false | some (_, b, _) => decide (z = b))
  else if y = tLast then (match cAt C x with | none => false | some (_, _, e) => decide (z = e))
  else if s = tRow ∧ (noC (cAt C x) = true ∨ decide (cAt C z = cAt C x) = false) then false
  else if s = tTrue ∧ noC (cAt C z) = true then false
  else if y = tAtBack ∨ y = tAtAhead then decide (z - x = if y = tAtAhead then n else -n)
  else if z = x ∨ (y = tBack ∧ x < z) ∨ (y = tAhead ∧ z < x) then false
  else decide (ab (z - x) % e = 0) && (decide (n = 0) || decide (ab (z - x) ≤ n))
def takesC (l : VV) (C : List Cell) (x z : Int) : Bool := match l with
  | .tup [.str w, .str s, .str y, .int n, .int e, .bl o, .bl sp] =>
    if w = tClear then decide (x = z) && !noC (cAt C x)
    else if sp = true ∧ noC (cAt C x) = true then decide (x = z)
    else (decide (x = z) && o) || looksC s y n e C x z
  | _ => false
def tLater : List Nat := [108, 97, 116, 101, 114]
def tEarlier : List Nat := [101, 97, 114, 108, 105, 101, 114]
def tOther : List Nat := [111, 116, 104, 101, 114]
def tFilling : List Nat := [102, 105, 108, 108, 105, 110, 103]
def kindC (C : List Cell) (x y : Int) (k : List Nat) : Bool :=
  if noC (cAt C x) = true then false
  else if k = tLater then decide (cAt C x = cAt C y) && decide (x < y)
  else if k = tEarlier then decide (cAt C x = cAt C y) && decide (y < x)
  else if noC (cAt C y) = true then !decide (k = tOther)
  else !decide (cAt C x = cAt C y) && !decide (k = tFilling)
theorem habs (i : Int) (G : Hv) : bAbs [.int i] G = some (.int (ab i), G) := rfl
end DL
end S_G70
section S_H70
set_option linter.all false
set_option maxRecDepth 1000000
set_option maxHeartbeats 4000000
/-! H69: what a place takes from, both sides. -/
namespace DL
theorem part_fld {G : Hv} {q : Nat} {w s y : List Nat} {n e : Int} {o sp : Bool} (h : G[q]? = some (partV (lay w s y n e o sp))) :
    oFld 1953653072 1685221239 G (.ref q) = some (.str w) ∧ oFld 1953653072 435678045043 G (.ref q) = some (.str s) ∧ oFld 1953653072 7954807 G (.ref q) = some (.str y) ∧ oFld 1953653072 125779768604014 G (.ref q) = some (.int n) ∧
    oFld 1953653072 521610294885 G (.ref q) = some (.int e) ∧ oFld 1953653072 7239535 G (.ref q) = some (.bl o) ∧ oFld 1953653072 435710685299 G (.ref q) = some (.bl sp) := by
  unfold partV at h
  have f : ∀ (f : Nat) (v : VV), look f [(1685221239, VV.str w), (435678045043, .str s), (7954807, .str y), (125779768604014, .int n), (521610294885, .int e), (7239535, .bl o), (435710685299, .bl sp)] = some v → oFld cPart f G (.ref q) = some v := fun f v hf => by
    unfold oFld
    simp only [h]
    simpa using hf
  exact ⟨f _ _ rfl, f _ _ rfl, f _ _ rfl, f _ _ rfl, f _ _ rfl, f _ _ rfl, f _ _ rfl⟩
theorem oEq_bl (i j : Bool) (G : Hv) : oEq G (.bl i) (.bl j) = some (i == j) := by simp [oEq]
theorem ix0 (G : Hv) (a b : VV) : oIx G (.tup [a, b]) (.int 0) = some a := rfl
theorem ix1 (G : Hv) (a b : VV) : oIx G (.tup [a, b]) (.int 1) = some b := rfl
theorem is_looked_eq {G : Hv} {q pl : Nat} {C : List Cell} {w s y : List Nat} {n e : Int} {o sp : Bool} {x z : Int} (hR : Rows C) (hq : G[q]? = some (partV (lay w s y n e o sp))) (hp : G[pl]? = some (.lst (C.map cP))) (x0 : 0 ≤ x) (x1 : x < C.length) (z0 : 0 ≤ z) (z1 : z < C.length) (he : 0 < e) :
    f_is_looked_at [.ref q, .ref pl, .int x, .int z] G = .ok (.bl (looksC s y n e C x z)) G := by
  refine pure_any (fun G' hG => ?_) (by simp)
  obtain rfl : G' = G := hG (by simp)
  refine ⟨[], ?_⟩
  obtain ⟨f1, f2, f3, f4, f5, f6, f7⟩ := part_fld hq
  have i1 := ix_cell hp x0 x1
  have i2 := ix_cell hp z0 z1
  have qq := eq_cP hR z0 z1 x0 x1 G'
  have m1 := isN_cP (cAt C x)
  have m2 := isN_cP (cAt C z)
  by_cases hy1 : y = [102, 105, 114, 115, 116]
  · subst hy1
    have hL : looksC s [102, 105, 114, 115, 116] n e C x z = (match cAt C x with | none => false | some (_, b, _) => decide (z = b)) := by simp [looksC] <;> rfl
    rw [hL]
    simp [b_is_looked_at, start, i1, f3]
    cases cx : cAt C x with
    | none => simp [cP]
    | some p => obtain ⟨k, b, e'⟩ := p; simp [cP, f3, ix0]
  by_cases hy2 : y = [108, 97, 115, 116]
  · subst hy2
    have hL : looksC s [108, 97, 115, 116] n e C x z = (match cAt C x with | none => false | some (_, _, e) => decide (z = e)) := by simp [looksC] <;> rfl
    rw [hL]
    simp [b_is_looked_at, start, i1, f3]
    cases cx : cAt C x with
    | none => simp [cP]
    | some p => obtain ⟨k, b, e'⟩ := p; simp [cP, f3, ix1]
  have hy1' : ¬ [102, 105, 114, 115, 116] = y := fun h => hy1 h.symm
  have hy2' : ¬ [108, 97, 115, 116] = y := fun h => hy2 h.symm
  unfold looksC
  rw [if_neg hy1, if_neg hy2]
  generalize decide (cAt C z = cAt C x) = qe at qq ⊢
  generalize noC (cAt C x) = n1 at m1 ⊢
  generalize noC (cAt C z) = n2 at m2 ⊢
  have T1 : ∀ u, tAnd (tV (dCmp cEq (dFld 1953653072 435678045043 (dVar 0)) (dC (.str [114, 111, 119])))) (tOr (tV (dIsN (dVar 4))) (tV (dCmp cNe (dIx (dVar 1) (dVar 3)) (dVar 4))))
      [some (.ref q), some (.ref pl), some (.int x), some (.int z), some (cP (cAt C x)), u] G' = .ok (decide (s = tRow ∧ (n1 = true ∨ qe = false))) G' := fun u => by
    simp [f2]
    by_cases hs : s = [114, 111, 119]
    · cases n1 <;> cases qe <;> simp [hs, m1, i2, qq]
    · simp [hs]
  have T2 : ∀ u, tAnd (tV (dCmp cEq (dFld 1953653072 435678045043 (dVar 0)) (dC (.str [116, 114, 117, 101])))) (tV (dIsN (dIx (dVar 1) (dVar 3))))
      [some (.ref q), some (.ref pl), some (.int x), some (.int z), some (cP (cAt C x)), u] G' = .ok (decide (s = tTrue ∧ n2 = true)) G' := fun u => by
    simp [f2]
    by_cases hs : s = [116, 114, 117, 101]
    · cases n2 <;> simp [hs, i2, m2]
    · simp [hs]
  have T3 : ∀ u, tOr (tV (dCmp cEq (dVar 3) (dVar 2))) (tOr (tAnd (tV (dCmp cEq (dFld 1953653072 7954807 (dVar 0)) (dC (.str [98, 97, 99, 107])))) (tV (dCmp cGt (dVar 3) (dVar 2)))) (tAnd (tV (dCmp cEq (dFld 1953653072 7954807 (dVar 0)) (dC (.str [97, 104, 101, 97, 100])))) (tV (dCmp cLt (dVar 3) (dVar 2)))))
      [some (.ref q), some (.ref pl), some (.int x), some (.int z), some (cP (cAt C x)), u] G' = .ok (decide (z = x ∨ (y = tBack ∧ x < z) ∨ (y = tAhead ∧ z < x))) G' := fun u => by
    simp [f3]
  generalize hc : (if s = tRow ∧ (n1 = true ∨ qe = false) then false else _) = res
  simp [-tAnd_ap, -tOr_ap, b_is_looked_at, start, i1, f3, hy1', hy2', T1]
  by_cases g1 : s = tRow ∧ (n1 = true ∨ qe = false)
  · rw [if_pos g1] at hc
    subst hc
    have g1' : s = [114, 111, 119] ∧ (n1 = true ∨ qe = false) := g1
    simp [g1']
  rw [if_neg g1] at hc
  have g1' : ¬ (s = [114, 111, 119] ∧ (n1 = true ∨ qe = false)) := g1
  simp [-tAnd_ap, -tOr_ap, g1', T2]
  by_cases g2 : s = tTrue ∧ n2 = true
  · rw [if_pos g2] at hc
    subst hc
    have g2' : s = [116, 114, 117, 101] ∧ (n2 = true) := g2
    simp [g2']
  rw [if_neg g2] at hc
  have g2' : ¬ (s = [116, 114, 117, 101] ∧ (n2 = true)) := g2
  simp [-tAnd_ap, -tOr_ap, g2', f3]
  by_cases g3 : y = tAtBack
  · have g3' : y = [97, 116, 32, 98, 97, 99, 107] := g3
    subst g3'
    have e : res = decide (z - x = -n) := by rw [← hc]; simp
    subst e
    simp [f3, f4]
  by_cases g4 : y = tAtAhead
  · have g3' : y = [97, 116, 32, 97, 104, 101, 97, 100] := g4
    subst g3'
    have e : res = decide (z - x = n) := by rw [← hc]; simp
    subst e
    simp [f3, f4]
  have g3' : ¬ [97, 116, 32, 98, 97, 99, 107] = y := fun h => g3 h.symm
  have g4' : ¬ [97, 116, 32, 97, 104, 101, 97, 100] = y := fun h => g4 h.symm
  rw [if_neg (by rintro (h | h); exact g3 h; exact g4 h)] at hc
  simp [-tAnd_ap, -tOr_ap, g3', g4', T3]
  by_cases g5 : z = x ∨ (y = tBack ∧ x < z) ∨ (y = tAhead ∧ z < x)
  · rw [if_pos g5] at hc
    subst hc
    have g5' : z = x ∨ (y = [98, 97, 99, 107] ∧ x < z) ∨ (y = [97, 104, 101, 97, 100] ∧ z < x) := g5
    simp [g5']
  rw [if_neg g5] at hc
  have g5' : ¬ (z = x ∨ (y = [98, 97, 99, 107] ∧ x < z) ∨ (y = [97, 104, 101, 97, 100] ∧ z < x)) := g5
  simp [g5', habs, f4, f5, he]
  subst hc
  by_cases g6 : ab (z - x) % e = 0
  · by_cases g7 : n = 0 <;> simp [g6, g7, f4]
  · simp [g6]
def isLay2 : VV → Bool
  | .tup [.str w, .str s, .str y, .int n, .int e, .bl o, .bl sp] => decide (0 < e) && ((!decide (y = tFirst) && !decide (y = tLast)) || decide (s = tRow))
  | _ => false
theorem lay_all2 : allLays.all isLay2 = true := by decide +kernel
theorem lay_of2 {l : VV} (h : l ∈ allLays) : ∃ w s y n e o sp, l = lay w s y n e o sp ∧ 0 < e ∧ (y = tFirst ∨ y = tLast → s = tRow) := by
  have e := List.all_eq_true.mp lay_all2 l h
  obtain ⟨w, s, y, n, k, o, sp, rfl⟩ := lay_of h
  have e' : (decide (0 < k) && ((!decide (y = tFirst) && !decide (y = tLast)) || decide (s = tRow))) = true := e
  simp only [Bool.and_eq_true, Bool.or_eq_true, decide_eq_true_eq, Bool.not_eq_true', decide_eq_false_iff_not] at e'
  refine ⟨w, s, y, n, k, o, sp, rfl, e'.1, fun hy => ?_⟩
  rcases e'.2 with h | h
  · rcases hy with hy | hy
    · exact (h.1 hy).elim
    · exact (h.2 hy).elim
  · exact h
theorem is_taken_eq {G : Hv} {q pl : Nat} {C : List Cell} {l : VV} {x z : Int} (hl : l ∈ allLays) (hR : Rows C) (hq : G[q]? = some (partV l)) (hp : G[pl]? = some (.lst (C.map cP))) (x0 : 0 ≤ x) (x1 : x < C.length) (z0 : 0 ≤ z) (z1 : z < C.length) :
    f_is_taken [.ref q, .ref pl, .int x, .int z] G = .ok (.bl (takesC l C x z)) G := by
  obtain ⟨w, s, y, n, e, o, sp, rfl, he, hy⟩ := lay_of2 hl
  refine pure_any (fun G' hG => ?_) (by simp)
  obtain rfl : G' = G := hG (by simp)
  refine ⟨[], ?_⟩
  obtain ⟨f1, f2, f3, f4, f5, f6, f7⟩ := part_fld hq
  have i1 := ix_cell hp x0 x1
  have lk := is_looked_eq hR hq hp x0 x1 z0 z1 he
  have m1 := isN_cP (cAt C x)
  unfold takesC
  simp only
  generalize noC (cAt C x) = n1 at m1 ⊢
  generalize looksC s y n e C x z = lc at lk ⊢
  generalize hxz : decide (x = z) = xz
  generalize hq : (if w = tClear then _ else _) = res
  by_cases h1 : w = [99, 108, 101, 97, 114]
  · have h1' : w = tClear := h1
    rw [if_pos h1'] at hq
    subst hq
    cases xz <;> cases n1 <;> simp [b_is_taken, start, i1, f1, m1, h1, hxz]
  · have h1' : ¬ w = tClear := h1
    rw [if_neg h1'] at hq
    subst hq
    have hxz' : x = z ↔ xz = true := by rw [← hxz]; simp
    cases sp <;> cases n1 <;> cases o <;> cases xz <;> simp [b_is_taken, start, i1, f1, m1, h1, f7, hxz, lk, f6, hxz']
theorem ix4 (G : Hv) (a0 a1 a2 a3 a4 a5 a6 : VV) : oIx G (.tup [a0, a1, a2, a3, a4, a5, a6]) (.int 4) = some a4 := rfl
theorem ix5 (G : Hv) (a0 a1 a2 a3 a4 a5 a6 : VV) : oIx G (.tup [a0, a1, a2, a3, a4, a5, a6]) (.int 5) = some a5 := rfl
theorem ix6 (G : Hv) (a0 a1 a2 a3 a4 a5 a6 : VV) : oIx G (.tup [a0, a1, a2, a3, a4, a5, a6]) (.int 6) = some a6 := rfl
theorem ix70 (G : Hv) (a0 a1 a2 a3 a4 a5 a6 : VV) : oIx G (.tup [a0, a1, a2, a3, a4, a5, a6]) (.int 0) = some a0 := rfl
theorem cut14 (a0 a1 a2 a3 a4 a5 a6 : VV) : cut [a0, a1, a2, a3, a4, a5, a6] (some 1) (some 4) = [a1, a2, a3] := rfl
theorem idx_cT {C : List Cell} (hR : Rows C) {x k b e : Int} (x0 : 0 ≤ x) (x1 : x < C.length) (cx : cAt C x = some (k, b, e)) : idxOf (fun z => eqFlat z (.int k)) (C.map cT) 0 = some b.toNat := by
  have hx := cAt_get x0 x1
  rw [cx] at hx
  have m := hR.mem hx
  have hb := hR.fill (j := b.toNat) hx (by omega) (by omega)
  have gen : ∀ (D : List Cell) (n j : Nat), D[j]? = some (some (k, b, e)) → (∀ i c, D[i]? = some c → i < j → ∀ k' b' e', c = some (k', b', e') → k' ≠ k) → 0 ≤ k → idxOf (fun z => eqFlat z (.int k)) (D.map cT) n = some (n + j) := fun D => by
    induction D with
    | nil => intro n j h; simp at h
    | cons c D ih =>
      intro n j h hn hk
      cases j with
      | zero =>
        simp at h
        subst h
        simp [idxOf, cT, eqFlat]
      | succ j =>
        have h0 := hn 0 c (by simp) (by omega)
        have step := ih (n + 1) j (by simpa using h) (fun i c' hc hi => hn (i + 1) c' (by simpa using hc) (by omega)) hk
        have hne : eqFlat (cT c) (.int k) = some false := by
          cases c with
          | none => simp [cT, eqFlat]; omega
          | some p =>
            obtain ⟨k', b', e'⟩ := p
            have := h0 k' b' e' rfl
            simp [cT, eqFlat, this]
        rw [List.map_cons, idxOf, hne]
        simp only
        rw [step]
        congr 1
        omega
  have := gen C 0 b.toNat hb (fun i c hc hi k' b' e' hce hk => by
    subst hce
    subst hk
    have u := hR.uniq hx hc
    have := hR.mem hc
    omega) m.1
  simpa using this
theorem law_looks_eq {G : Hv} {tr : Nat} {C : List Cell} {w s y : List Nat} {n e : Int} {o sp : Bool} {x z : Int} (hR : Rows C) (hp : G[tr]? = some (.lst (C.map cT))) (x0 : 0 ≤ x) (x1 : x < C.length) (z0 : 0 ≤ z) (z1 : z < C.length) (he : 0 < e) (hy : y = tFirst ∨ y = tLast → s = tRow) :
    f__law_looks [lay w s y n e o sp, .ref tr, .int x, .int z] G = .ok (.bl (looksC s y n e C x z)) G := by
  refine pure_any (fun G' hG => ?_) (by simp)
  obtain rfl : G' = G := hG (by simp)
  have i1 := ix_cell hp x0 x1
  have i2 := ix_cell hp z0 z1
  have qq := eq_cT hR z0 z1 x0 x1 G'
  have l1 := lt_cT hR x0 x1 G'
  have l2 := lt_cT hR z0 z1 G'
  have T1 : tAnd (tV (dCmp cEq (dVar 4) (dC (.str [114, 111, 119])))) (tOr (tV (dCmp cLt (dIx (dVar 1) (dVar 2)) (dC (.int 0)))) (tV (dCmp cNe (dIx (dVar 1) (dVar 3)) (dIx (dVar 1) (dVar 2)))))
      [some (lay w s y n e o sp), some (.ref tr), some (.int x), some (.int z), some (.str s), some (.str y), some (.int n), some (.int (z - x))] G' = .ok (decide (s = tRow ∧ (noC (cAt C x) = true ∨ decide (cAt C z = cAt C x) = false))) G' := by
    generalize decide (cAt C z = cAt C x) = qe at qq ⊢
    generalize noC (cAt C x) = n1 at l1 ⊢
    simp
    by_cases hs : s = [114, 111, 119]
    · cases n1 <;> cases qe <;> simp [hs, l1, i1, i2, qq]
    · simp [hs]
  have T2 : tAnd (tV (dCmp cEq (dVar 4) (dC (.str [116, 114, 117, 101])))) (tV (dCmp cLt (dIx (dVar 1) (dVar 3)) (dC (.int 0))))
      [some (lay w s y n e o sp), some (.ref tr), some (.int x), some (.int z), some (.str s), some (.str y), some (.int n), some (.int (z - x))] G' = .ok (decide (s = tTrue ∧ noC (cAt C z) = true)) G' := by
    generalize noC (cAt C z) = n2 at l2 ⊢
    simp
    by_cases hs : s = [116, 114, 117, 101]
    · cases n2 <;> simp [hs, i2, l2]
    · simp [hs]
  have T3 : ∀ G', tOr (tV (dCmp cEq (dVar 7) (dC (.int 0)))) (tOr (tAnd (tV (dCmp cEq (dVar 5) (dC (.str [98, 97, 99, 107])))) (tV (dCmp cGt (dVar 7) (dC (.int 0))))) (tAnd (tV (dCmp cEq (dVar 5) (dC (.str [97, 104, 101, 97, 100])))) (tV (dCmp cLt (dVar 7) (dC (.int 0))))))
      [some (lay w s y n e o sp), some (.ref tr), some (.int x), some (.int z), some (.str s), some (.str y), some (.int n), some (.int (z - x))] G' = .ok (decide (z = x ∨ (y = tBack ∧ x < z) ∨ (y = tAhead ∧ z < x))) G' := fun G' => by
    have a1 : (z - x = 0) ↔ z = x := by omega
    have a2 : (0 < z - x) ↔ x < z := by omega
    have a3 : (z - x < 0) ↔ z < x := by omega
    simp [a1, a2, a3]
  have hG0 : ∀ o : VO, (G' ++ [o])[tr]? = some (.lst (C.map cT)) := fun o => by rw [List.getElem?_append_left (List.getElem?_eq_some_iff.mp hp).1]; exact hp
  have hcx := cAt_get x0 x1
  have hcz := cAt_get z0 z1
  have T1' : ∀ u, tAnd (tV (dCmp cEq (dVar 4) (dC (.str [114, 111, 119])))) (tOr (tV (dCmp cLt (dIx (dVar 1) (dVar 2)) (dC (.int 0)))) (tV (dCmp cNe (dIx (dVar 1) (dVar 3)) (dIx (dVar 1) (dVar 2)))))
      [some (lay w s y n e o sp), some (.ref tr), some (.int x), some (.int z), some (.str s), some (.str y), some (.int n), some (.int (z - x))] G' = .ok u G' → s = [114, 111, 119] → u = (noC (cAt C x) || !decide (cAt C z = cAt C x)) := fun u h hs => by
    rw [T1] at h
    cases h
    have hs' : s = tRow := hs
    simp [hs']
  by_cases hyy : y = tFirst ∨ y = tLast
  · have hs := hy hyy
    have hs' : s = [114, 111, 119] := hs
    subst hs'
    have hT2 : decide ([114, 111, 119] = tTrue ∧ noC (cAt C z) = true) = false := by simp
    rw [hT2] at T2
    cases cx : cAt C x with
    | none =>
      have : decide ([114, 111, 119] = tRow ∧ (noC (cAt C x) = true ∨ decide (cAt C z = cAt C x) = false)) = true := by simp [cx, noC]
      rw [this] at T1
      have hL : looksC [114, 111, 119] y n e C x z = false := by
        rcases hyy with h | h <;> simp [looksC, h, cx]
      rw [hL]
      refine ⟨[], ?_⟩
      simp [-tAnd_ap, b__law_looks, start, cut14, T1]
    | some p =>
      obtain ⟨k, b, e'⟩ := p
      rw [cx] at hcx
      have m := hR.mem hcx
      have hT1 : decide ([114, 111, 119] = tRow ∧ (noC (cAt C x) = true ∨ decide (cAt C z = cAt C x) = false)) = !decide (cAt C z = cAt C x) := by simp [cx, noC]
      rw [hT1] at T1
      by_cases hzx : cAt C z = cAt C x
      · have mz : b ≤ z ∧ z ≤ e' := by
          rw [hzx, cx] at hcz
          have := hR.mem hcz
          omega
        have : (!decide (cAt C z = cAt C x)) = false := by simp [hzx]
        rw [this] at T1
        rcases hyy with h | h
        · have h' : y = [102, 105, 114, 115, 116] := h
          subst h'
          have hL : looksC [114, 111, 119] [102, 105, 114, 115, 116] n e C x z = decide (z = b) := by simp [looksC, cx]
          rw [hL]
          refine ⟨[], ?_⟩
          have ix := idx_cT hR x0 x1 cx
          have flat : (C.map cT).all (fun z => (eqFlat z (.int k)).isSome) = true := by
            rw [List.all_map, List.all_eq_true]
            intro c _
            cases c <;> simp [cT, eqFlat]
          have mi : mIndex (.ref tr) [.int k] G' = some (.int b, G') := by
            unfold mIndex
            simp only [asList, hp, flat, if_true, ix]
            have : ((b.toNat : Nat) : Int) = b := by omega
            simp [this]
          have hd : decide (b = z) = decide (z = b) := by
            rw [Bool.eq_iff_iff]; simp; omega
          simp [-tAnd_ap, b__law_looks, start, cut14, T1, T2, isRt, hp, i1, cx, cT, mi, hd]
        · have h' : y = [108, 97, 115, 116] := h
          subst h'
          have hL : looksC [114, 111, 119] [108, 97, 115, 116] n e C x z = decide (z = e') := by simp [looksC, cx]
          rw [hL]
          refine ⟨[], ?_⟩
          have bl : bLen [.ref tr] G' = some (.int C.length, G') := by
            simp [asListR, hp]
          simp [-tAnd_ap, -bLen_ref, b__law_looks, start, cut14, T1, T2, bl]
          by_cases g1 : z + 1 = C.length
          · have : decide (z = e') = true := by rw [decide_eq_true_eq]; omega
            rw [this]
            simp [g1]
          · have j2 := ix_cell (z := z + 1) hp (by omega) (by omega)
            have qq2 := eq_cT hR (x := z + 1) (z := x) (by omega) (by omega) x0 x1 G'
            have g2 : decide (cAt C (z + 1) = cAt C x) = !decide (z = e') := by
              have hc1 := cAt_get (C := C) (z := z + 1) (by omega) (by omega)
              rw [Bool.eq_iff_iff]
              simp
              constructor
              · intro h hz
                rw [h, cx] at hc1
                have := hR.mem hc1
                omega
              · intro h
                have := hR.fill (j := (z + 1).toNat) hcx (by omega) (by omega)
                rw [this] at hc1
                rw [cx]
                exact (Option.some.inj hc1).symm
            rw [g2] at qq2
            simp [g1, j2, i1, qq2]
      · have : (!decide (cAt C z = cAt C x)) = true := by simp [hzx]
        rw [this] at T1
        have hL : looksC [114, 111, 119] y n e C x z = false := by
          rcases hyy with h | h
          · simp [looksC, h, cx]
            intro hz
            have := hR.fill (j := z.toNat) hcx (by omega) (by omega)
            rw [this] at hcz
            exact hzx (by rw [cx]; exact (Option.some.inj hcz).symm)
          · simp [looksC, h, cx]
            intro hz
            have := hR.fill (j := z.toNat) hcx (by omega) (by omega)
            rw [this] at hcz
            exact hzx (by rw [cx]; exact (Option.some.inj hcz).symm)
        rw [hL]
        refine ⟨[], ?_⟩
        simp [-tAnd_ap, b__law_looks, start, cut14, T1]
  have hy1 : ¬ y = tFirst := fun h => hyy (.inl h)
  have hy2 : ¬ y = tLast := fun h => hyy (.inr h)
  have hy1' : ¬ y = [102, 105, 114, 115, 116] := hy1
  have hy2' : ¬ y = [108, 97, 115, 116] := hy2
  unfold looksC
  rw [if_neg hy1, if_neg hy2]
  clear T1'
  generalize noC (cAt C x) = n1 at T1 l1 ⊢
  generalize noC (cAt C z) = n2 at T2 l2 ⊢
  generalize decide (cAt C z = cAt C x) = qe at T1 qq ⊢
  generalize hc : (if s = tRow ∧ (n1 = true ∨ qe = false) then false else _) = res
  by_cases g1 : s = tRow ∧ (n1 = true ∨ qe = false)
  · rw [if_pos g1] at hc
    subst hc
    rw [decide_eq_true g1] at T1
    exact ⟨[], by simp [-tAnd_ap, b__law_looks, start, cut14, T1]⟩
  rw [if_neg g1] at hc
  rw [decide_eq_false g1] at T1
  by_cases g2 : s = tTrue ∧ n2 = true
  · rw [if_pos g2] at hc
    subst hc
    rw [decide_eq_true g2] at T2
    exact ⟨[], by simp [-tAnd_ap, b__law_looks, start, cut14, T1, T2]⟩
  rw [if_neg g2] at hc
  rw [decide_eq_false g2] at T2
  refine ⟨[.lst [.str [97, 116, 32, 98, 97, 99, 107], .str [97, 116, 32, 97, 104, 101, 97, 100]]], ?_⟩
  by_cases g3 : y = tAtBack
  · have g3' : y = [97, 116, 32, 98, 97, 99, 107] := g3
    subst g3'
    have e : res = decide (z - x = -n) := by rw [← hc]; simp
    subst e
    simp [-tAnd_ap, b__law_looks, start, cut14, T1, T2]
  by_cases g4 : y = tAtAhead
  · have g3' : y = [97, 116, 32, 97, 104, 101, 97, 100] := g4
    subst g3'
    have e : res = decide (z - x = n) := by rw [← hc]; simp
    subst e
    simp [-tAnd_ap, b__law_looks, start, cut14, T1, T2]
  have g3' : ¬ [97, 116, 32, 98, 97, 99, 107] = y := fun h => g3 h.symm
  have g4' : ¬ [97, 116, 32, 97, 104, 101, 97, 100] = y := fun h => g4 h.symm
  rw [if_neg (by rintro (h | h); exact g3 h; exact g4 h)] at hc
  by_cases g5 : z = x ∨ (y = tBack ∧ x < z) ∨ (y = tAhead ∧ z < x)
  · rw [if_pos g5] at hc
    subst hc
    have T3' := fun G => (T3 G).trans (by rw [decide_eq_true g5])
    simp [-tAnd_ap, -tOr_ap, b__law_looks, start, cut14, T1, T2, hy1', hy2', g3', g4', T3']
  rw [if_neg g5] at hc
  have T3' := fun G => (T3 G).trans (by rw [decide_eq_false g5])
  have bI : ∀ i G, bInt [.int i] G = some (.int i, G) := fun _ _ => rfl
  simp [-tAnd_ap, -tOr_ap, b__law_looks, start, cut14, T1, T2, hy1', hy2', g3', g4', T3', habs, bI, ix4, he]
  subst hc
  by_cases g6 : ab (z - x) % e = 0
  · by_cases g7 : n = 0 <;> simp [g6, g7]
  · simp [g6]
theorem law_takes_eq {G : Hv} {tr : Nat} {C : List Cell} {l : VV} {x z : Int} (hl : l ∈ allLays) (hR : Rows C) (hp : G[tr]? = some (.lst (C.map cT))) (x0 : 0 ≤ x) (x1 : x < C.length) (z0 : 0 ≤ z) (z1 : z < C.length) :
    f__law_takes [l, .ref tr, .int x, .int z] G = .ok (.bl (takesC l C x z)) G := by
  obtain ⟨w, s, y, n, e, o, sp, rfl, he, hy⟩ := lay_of2 hl
  refine pure_any (fun G' hG => ?_) (by simp)
  obtain rfl : G' = G := hG (by simp)
  refine ⟨[], ?_⟩
  have i1 := ix_cell hp x0 x1
  have lk := law_looks_eq (w := w) (n := n) (o := o) (sp := sp) hR hp x0 x1 z0 z1 he hy
  have l1 := lt_cT hR x0 x1 G'
  have l2 := ge_cT hR x0 x1 G'
  unfold takesC
  simp only
  generalize noC (cAt C x) = n1 at l1 l2 ⊢
  generalize looksC s y n e C x z = lc at lk ⊢
  generalize hq : (if w = tClear then _ else _) = res
  generalize hxz : decide (x = z) = xz at hq ⊢
  have hxz' : x = z ↔ xz = true := by rw [← hxz]; simp
  by_cases h1 : w = [99, 108, 101, 97, 114]
  · have h1' : w = tClear := h1
    rw [if_pos h1'] at hq
    subst hq
    cases xz <;> cases n1 <;> simp [b__law_takes, start, ix70, ix5, ix6, h1, i1, l1, l2, hxz, hxz']
  · have h1' : ¬ w = tClear := h1
    rw [if_neg h1'] at hq
    subst hq
    cases sp <;> cases n1 <;> cases o <;> cases xz <;> simp [b__law_takes, start, ix70, ix5, ix6, h1, i1, l1, l2, lk, hxz, hxz']
end DL
end S_H70
section S_I70
set_option linter.all false
set_option maxRecDepth 1000000
set_option maxHeartbeats 4000000
/-! I70: pieces. -/
namespace DL
def placeOk (n : Nat) : VV → Bool
  | .int i => decide (0 ≤ i) && decide (i < n)
  | _ => false
theorem is_within_eq {G : Hv} {n : Nat} {m : Nat} {v : VV} (h : Tm G n v) : f_is_within [v, .int 0, .int ((m : Int) - 1)] G = .ok (.bl (placeOk m v)) G := by
  refine pure_any (fun G' hG => ⟨[], ?_⟩) (by simp)
  have h' : Tm G' n v := by
    by_cases c : closedV 0 v = true
    · obtain ⟨d, e⟩ := h
      exact ⟨d, toPD_closed c e⟩
    · obtain rfl : G' = G := hG (by simpa using c)
      exact h
  have hi := isInt_eq h'
  cases v with
  | int i =>
    have a1 : (i ≤ (m : Int) - 1) ↔ i < m := by omega
    simp [b_is_within, start, hi, isI, placeOk, a1]
    by_cases h0 : 0 ≤ i <;> simp [h0, a1]
  | _ => simp [b_is_within, start, hi, isI, placeOk]
theorem places_ints {n : Nat} : ∀ {cs : List VV}, cs.all (placeOk n) = true → ∃ js : List Int, cs = js.map VV.int ∧ ∀ j ∈ js, 0 ≤ j ∧ j < n
  | [], _ => ⟨[], rfl, by simp⟩
  | x :: xs, h => by
    rw [List.all_cons, Bool.and_eq_true] at h
    obtain ⟨is, rfl, h2⟩ := places_ints h.2
    cases x with
    | int i => exact ⟨i :: is, rfl, fun j hj => by
        rcases List.mem_cons.mp hj with rfl | hj
        · have := h.1; simpa [placeOk] using this
        · exact h2 j hj⟩
    | _ => have := h.1; simp [placeOk] at this
theorem line_ints {ln : VV} (h : lineOk ln = true) : ∃ is : List Int, ln = .tup (is.map VV.int) ∧ is ≠ [] ∧ absSum is ≤ 60 := by
  cases ln with
  | tup xs =>
    unfold lineOk at h
    simp only [Bool.and_eq_true] at h
    obtain ⟨is, rfl, _⟩ := okP_ints h.2.1
    have h2 := h.2.2
    rw [asInts_map] at h2
    simp only [Bool.and_eq_true, decide_eq_true_eq] at h2
    refine ⟨is, rfl, ?_, h2.1⟩
    rintro rfl
    simp at h
  | _ => simp [lineOk] at h
theorem line_of_eq {G : Hv} {n : Nat} {v : VV} {p : List Nat} (h : Tm G (n + 1) v) (hn : n + 1 ≤ 12) (hs : ∀ xs, v = .tup xs → xs.length < 1000) :
    f_is_line_of [v, .str p] G = .ok (.bl (lineOk v && match v with | .tup xs => (match asInts xs with | some is => fitP (signsOf is) p | none => false) | _ => false)) G := by
  refine pure_any (fun G' hG => ⟨[], ?_⟩) (by simp)
  have h' : Tm G' (n + 1) v := by
    by_cases c : closedV 0 v = true
    · obtain ⟨d, e⟩ := h
      exact ⟨d, toPD_closed c e⟩
    · obtain rfl : G' = G := hG (by simpa using c)
      exact h
  have hi := is_line_eq h' hn hs
  cases hl : lineOk v with
  | false =>
    rw [hl] at hi
    simp [b_is_line_of, start, hi]
  | true =>
    rw [hl] at hi
    obtain ⟨is, rfl, hne, _⟩ := line_ints hl
    have hlen := hs _ rfl
    rw [List.length_map] at hlen
    have hf := is_of_eq (G := G') (p := p) hlen hne
    simp [b_is_line_of, start, hi, hf, asInts_map]
theorem ix_last {js : List Int} (h : 0 < js.length) (G : Hv) : oIx G (.tup (js.map VV.int)) (.int (-1)) = some (.int ((js[js.length - 1]?).getD 0)) := by
  have hl : js.length - 1 < js.length := by omega
  have e : (-1 + (js.length : Int)).toNat = js.length - 1 := by omega
  unfold oIx
  simp only [asSeq, atI, ixN, List.length_map]
  rw [if_neg (by decide), if_pos (by omega)]
  simp [e, List.getElem?_eq_getElem hl]
theorem ix_get {js : List Int} {i : Nat} (h : i < js.length) (G : Hv) : oIx G (.tup (js.map VV.int)) (.int (i : Nat)) = some (.int ((js[i]?).getD 0)) := by
  have e := List.getElem?_eq_getElem h
  rw [ix_int e, e]
  rfl
theorem ix_seq {G : Hv} {p : Nat} {xs : List VV} {i : Nat} {x : VV} (hp : G[p]? = some (.lst xs)) (h : xs[i]? = some x) : oIx G (.ref p) (.int (i : Nat)) = some x := by
  have hl := (List.getElem?_eq_some_iff.mp h).1
  unfold oIx
  simp only [asSeq, asListR, hp, atI, ixN]
  rw [if_pos (by omega), if_pos (by omega)]
  simp [h]
theorem are_places_eq {G : Hv} {n m : Nat} {cs : List VV} (h : Tm G (n + 1) (.tup cs)) : f__law_are_places [.tup cs, .int m] G = .ok (.bl (cs.all (placeOk m))) G := by
  refine pure_any (fun G' hG => ⟨[], ?_⟩) (by simp)
  have h' : Tm G' (n + 1) (.tup cs) := by
    by_cases c : closedV 0 (.tup cs) = true
    · obtain ⟨d, e⟩ := h
      exact ⟨d, toPD_closed c e⟩
    · obtain rfl : G' = G := hG (by simpa using c)
      exact h
  obtain ⟨S', ⟨u, hS⟩, m1⟩ := forL_all (chk := []) (i := 2) (G := G') (p := placeOk m) (r := .bl false) (b := sIf (tOr (tNot (tV (dIsi .int (dVar 2)))) (tOr (tV (dIsi .bool (dVar 2))) (tOr (tV (dCmp cLt (dVar 2) (dC (.int 0)))) (tV (dCmp cGe (dVar 2) (dVar 1)))))) (dRet (dC (.bl false))) (dNext))
    (fun S => ∃ u, S = [some (.tup cs), some (.int m), u]) rfl (by rintro S x ⟨u, rfl⟩; exact ⟨some x, rfl⟩) cs [some (.tup cs), some (.int m), none] ⟨none, rfl⟩ (by
      rintro S x ⟨u, rfl⟩ hx
      have hxt := h'.tup x hx
      cases hxt.c with
      | int i =>
        by_cases h0 : i < 0
        · have : ¬ 0 ≤ i := by omega
          simp [isTy, placeOk, h0, this]
        · have h0' : 0 ≤ i := by omega
          by_cases h1 : (m : Int) ≤ i
          · have : ¬ i < m := by omega
            simp [isTy, placeOk, h0, h0', h1, this]
          · have : i < m := by omega
            simp [isTy, placeOk, h0, h0', h1, this]
      | ref i ys e => simp [isTy, e, placeOk]
      | _ => simp [isTy, placeOk])
  subst hS
  simp [b__law_are_places, start, seqOf]
  rw [m1]
  by_cases ha : cs.all (placeOk m) = true
  · rw [if_pos ha]; simp [ha]
  · rw [if_neg ha]
    have : cs.all (placeOk m) = false := by simpa using ha
    rw [this]; simp
theorem Wd.setE {G G1 : Hv} {p i : Nat} {o : VO} (w : Wd p G G1) (hi : G.length ≤ i) : Wd p G (G1.set i o) := by
  obtain ⟨a, b, d, E, g, e⟩ := w
  refine ⟨a, b, d, E.set (i - G.length) o, g, ?_⟩
  rw [e, List.set_append_right _ _ (by simpa using hi)]
  simp
theorem mapO_int (G : Hv) (n : Nat) : ∀ a : List Int, mapO (toPD G (n + 1)) (a.map VV.int) = some (a.map PD.int)
  | [] => rfl
  | x :: a => by rw [List.map_cons, mapO_cons, mapO_int G n a]; rfl
def InC (n : Nat) (ks : List Int) : Prop := ∀ k ∈ ks, 0 ≤ k ∧ k < n
theorem ix_intsL {G : Hv} {e : Nat} {ms : List Int} {d : Int} (h : G[e]? = some (.lst (ms.map VV.int))) (h0 : 0 ≤ d) (h1 : d < ms.length) : ∃ x, x ∈ ms ∧ oIx G (.ref e) (.int d) = some (.int x) := by
  obtain ⟨x, hx, e⟩ := ix_lit (xs := ms.map VV.int) h h0 (by simpa using h1)
  obtain ⟨y, hy, rfl⟩ := List.mem_map.mp hx
  exact ⟨y, hy, e⟩
theorem tm_int (G : Hv) (n : Nat) (i : Int) : Tm G (n + 1) (.int i) := ⟨_, rfl⟩
theorem tm_ints (G : Hv) (n : Nat) (is : List Int) : Tm G (n + 2) (.tup (is.map VV.int)) := Tm.mkTup fun x hx => by
  obtain ⟨i, _, rfl⟩ := List.mem_map.mp hx
  exact tm_int G n i
theorem tm_lst {G : Hv} {n i : Nat} {xs : List VV} (h : G[i]? = some (.lst xs)) (hx : ∀ x ∈ xs, Tm G n x) : Tm G (n + 1) (.ref i) := by
  obtain ⟨ds, hd⟩ := mapO_of hx
  exact ⟨.lst ds, by rw [toPD_ref, h]; simp [hd]⟩
theorem closedL_app (n : Nat) : ∀ a b : List VV, closedL n (a ++ b) = (closedL n a && closedL n b)
  | [], b => by simp
  | x :: a, b => by rw [List.cons_append, closedL_cons, closedL_cons, closedL_app n a b, Bool.and_assoc]
theorem absSum_pos {is : List Int} (hne : is ≠ []) (h : ∀ x ∈ is, x ≠ 0) : 0 < absSum is := by
  cases is with
  | nil => exact (hne rfl).elim
  | cons x xs =>
    rw [absSum_cons, ab_nat]
    have := h x (by simp)
    have h2 := cells_len xs 0 0
    omega
theorem absSum_le {is : List Int} (h : ∀ x ∈ is, -10 ≤ x ∧ x ≤ 10) : absSum is ≤ 10 * is.length := by
  induction is with
  | nil => simp [absSum]
  | cons x xs ih =>
    have := ih fun y hy => h y (List.mem_cons_of_mem _ hy)
    have h2 := h x (by simp)
    rw [absSum_cons, ab_nat, List.length_cons]
    omega
abbrev planS : List (List Nat) := [[98, 101, 104, 105, 110, 100], [102, 114, 111, 110, 116], [106, 111, 105, 110, 101, 100], [112, 97, 99, 107, 101, 100], [97, 110, 121]]
theorem nin_of {G : Hv} {s : List Nat} {ss : List (List Nat)} (h : s ∈ ss) : cNin G (.str s) (.tup (ss.map VV.str)) = some false := by
  show (cIn _ _ _).map not = _
  rw [cIn_tup, inL_str]
  have : (ss.any fun t => decide (t = s)) = true := List.any_eq_true.mpr ⟨s, h, by simp⟩
  rw [this]
  rfl
theorem mulOk_big {i j : Int} (hi : i.natAbs.log2 ≤ 2000000) (hj : j.natAbs.log2 ≤ 2000000) : MulOk i j := by
  unfold MulOk
  omega
theorem log_small {i : Int} (hi : i.natAbs < 2 ^ 64) : i.natAbs.log2 ≤ 2000000 := by
  have := log2_lt hi (by decide)
  omega
/-- the cell that is drawn from -/
theorem spring_older {G : Hv} {D : Nat} {ns : List Int} {at0 c0 : Int} (hD : G[D]? = some (.lst (ns.map VV.int))) (hc : c0.natAbs < 2 ^ 40) (u4 : Option VV) :
    ∃ (c : Int) (u : Option VV), forL [(D, .lst (ns.map VV.int))] (gName 3) (sAsg (dBin oMod (dB bInt (aCons (dBin oAdd (dBin oMul (dVar 2) (dC (.int 38699))) (dVar 3)) (aNil))) (dC (.int 2147483549))) (gName 2)) (ns.map VV.int) [some (.ref 0), some (.int at0), some (.int c0), none, u4] G = .nx [some (.ref 0), some (.int at0), some (.int c), u, u4] G ∧ c.natAbs < 2 ^ 40 := by
  obtain ⟨S', G', e, c, u, hS, hG, hc⟩ := forL_invC (chk := [(D, .lst (ns.map VV.int))]) (g := gName 3) (b := sAsg (dBin oMod (dB bInt (aCons (dBin oAdd (dBin oMul (dVar 2) (dC (.int 38699))) (dVar 3)) (aNil))) (dC (.int 2147483549))) (gName 2))
    (fun i S G' => ∃ (c : Int) (u : Option VV), S = [some (.ref 0), some (.int at0), some (.int c), u, u4] ∧ G' = G ∧ c.natAbs < 2 ^ 40) (fun _ _ _ ⟨_, _, _, h, _⟩ => by rw [h]; simp [stays, hD]) (ns.map VV.int) 0 [some (.ref 0), some (.int at0), some (.int c0), none, u4] G ⟨c0, none, rfl, rfl, hc⟩ (by
    rintro j S G' x hx _ ⟨c, u, rfl, rfl, hc⟩
    obtain ⟨n, _, rfl⟩ := List.mem_map.mp (List.mem_of_getElem? hx)
    have bI : ∀ i G, bInt [.int i] G = some (.int i, G) := fun _ _ => rfl
    have mo : MulOk c 38699 := mulOkN (by omega) (by decide)
    refine ⟨[some (.ref 0), some (.int at0), some (.int c), some (.int n), u4], G', [some (.ref 0), some (.int at0), some (.int ((c * 38699 + n) % 2147483549)), some (.int n), u4], G', by simp, by simp [mo, bI], _, _, rfl, rfl, ?_⟩
    have := Int.emod_nonneg (c * 38699 + n) (b := 2147483549) (by decide)
    have := Int.emod_lt_of_pos (c * 38699 + n) (b := 2147483549) (by decide)
    omega)
  subst hS hG
  exact ⟨c, u, e, hc⟩
theorem spring_spec {G : Hv} {ns : List Int} {a : Nat} (h : G[0]? = some (.flst (ns.map VV.int))) (hl : ns.length ≤ 63) (hb : ∀ z ∈ ns, z.natAbs.log2 ≤ 1048576) (ha : a ≤ 12) :
    ∃ E q, f__law_spring [.ref 0, .int a] G = .ok (.ref q) (G ++ E) ∧ G.length ≤ q ∧ HasS (G ++ E) q := by
  have bI : ∀ i G, bInt [.int i] G = some (.int i, G) := fun _ _ => rfl
  have bl : bLen [.ref 0] G = some (.int ns.length, G) := by simp [asListR, h]
  have mo1 : MulOk 104711 a := mulOkN (by decide) (by omega)
  have mo2 : MulOk 31 ns.length := mulOkN (by decide) (by omega)
  have mo3 : MulOk 68917 a := mulOkN (by decide) (by omega)
  have pw : ∀ G, oPow (.int 10) (.int 18) G = some (.int 1000000000000000000, G) := fun _ => rfl
  -- the cell
  have cell : ∃ (c : Int) (u : Option VV) (E : Hv), c.natAbs.log2 ≤ 1048576 ∧ (sIf (tV (dCmp cLt (dVar 1) (dB bLen (aCons (dVar 0) (aNil))))) (sAsg (dIx (dVar 0) (dVar 1)) (gName 2)) (sFor (iSeq (dSl (dVar 0) (oNone) (oSome (dC (.int 5))))) (gName 3) (sAsg (dBin oMod (dB bInt (aCons (dBin oAdd (dBin oMul (dVar 2) (dC (.int 38699))) (dVar 3)) (aNil))) (dC (.int 2147483549))) (gName 2))))
      [some (.ref 0), some (.int a), some (.int (104711 * a + 31 * ns.length)), none, none] G = .nx [some (.ref 0), some (.int a), some (.int c), u, none] (G ++ E) := by
    by_cases hlt : a < ns.length
    · have e1 := List.getElem?_eq_getElem hlt
      have ix : oIx G (.ref 0) (.int (a : Nat)) = some (.int ns[a]) := by
        unfold oIx
        simp only [asSeq, asListR, h, atI, ixN, List.length_map]
        rw [if_pos (by omega), if_pos (by omega)]
        simp [hlt]
      exact ⟨ns[a], none, [], hb _ (List.getElem_mem hlt), by simp [-bLen_ref, bl, hlt, ix]⟩
    · have sl : oSlice (.ref 0) none (some 5) G = some (.ref G.length, G ++ [.lst ((cut ns none (some 5)).map VV.int)]) := by
        unfold oSlice
        simp [asListR, h, newL, cut_map]
      obtain ⟨c, u, e, hc⟩ := spring_older (G := G ++ [.lst ((cut ns none (some 5)).map VV.int)]) (D := G.length) (ns := cut ns none (some 5)) (at0 := a) (c0 := 104711 * a + 31 * ns.length) (by simp) (by omega) none
      refine ⟨c, u, [.lst ((cut ns none (some 5)).map VV.int)], ?_, ?_⟩
      · have := log2_lt (k := 40) hc (by decide)
        omega
      · simp [-bLen_ref, bl, hlt, sl, seqOf]
        exact e
  obtain ⟨c, u, E, hc, e⟩ := cell
  have first : sAsg (dBin oAdd (dBin oMul (dC (.int 104711)) (dVar 1)) (dBin oMul (dC (.int 31)) (dB bLen (aCons (dVar 0) (aNil))))) (gName 2) [some (.ref 0), some (.int a), none, none, none] G = .nx [some (.ref 0), some (.int a), some (.int (104711 * a + 31 * ns.length)), none, none] G := by
    simp [-bLen_ref, bl, mo1, mo2]
  have mc1 : MulOk c 92821 := mulOk_big (by omega) (log_small (by decide))
  have mc2 : MulOk c c := mulOk_big (by omega) (by omega)
  have hE : ∀ d : Int, 0 ≤ d → ∃ a1 b1, Good a1 b1 d ∧ dRet (dLst (aCons (dBin oMod (dB bInt (aCons (dBin oAdd (dBin oMul (dVar 2) (dC (.int 92821))) (dVar 1)) (aNil))) (dC (.int 2147483587))) (aCons (dBin oMod (dB bInt (aCons (dBin oAdd (dBin oAdd (dBin oMul (dVar 2) (dVar 2)) (dBin oMul (dC (.int 68917)) (dVar 1))) (dC (.int 5))) (aNil))) (dC (.int 2147483563))) (aCons (dVar 4) (aNil)))))
      [some (.ref 0), some (.int a), some (.int c), u, some (.int d)] (G ++ E) = .rt (.ref (G ++ E).length) (G ++ E ++ [spr a1 b1 d]) := fun d hd => by
    refine ⟨(c * 92821 + a) % 2147483587, (c * c + 68917 * a + 5) % 2147483563, ⟨Int.emod_nonneg _ (by decide), ?_, Int.emod_nonneg _ (by decide), ?_, hd⟩, ?_⟩
    · have := Int.emod_lt_of_pos (c * 92821 + a) (b := 2147483587) (by decide)
      omega
    · have := Int.emod_lt_of_pos (c * c + 68917 * a + 5) (b := 2147483563) (by decide)
      omega
    · simp [mc1, mc2, mo3, bI, spr]
  have dig : ∃ d : Int, 0 ≤ d ∧ sAsg (dIf (tV (dCmp cGe (dB bAbs (aCons (dVar 2) (aNil))) (dBin oPow (dC (.int 10)) (dC (.int 18))))) (dB bAbs (aCons (dVar 2) (aNil))) (dC (.int 0))) (gName 4) [some (.ref 0), some (.int a), some (.int c), u, none] (G ++ E) = .nx [some (.ref 0), some (.int a), some (.int c), u, some (.int d)] (G ++ E) := by
    by_cases hd : 1000000000000000000 ≤ ab c
    · exact ⟨ab c, by rw [ab_nat]; omega, by simp [habs, pw, hd]⟩
    · exact ⟨0, by omega, by simp [habs, pw, hd]⟩
  obtain ⟨d, hd, e2⟩ := dig
  obtain ⟨a1, b1, hg, e3⟩ := hE d hd
  refine ⟨E ++ [spr a1 b1 d], (G ++ E).length, ?_, by simp, ⟨a1, b1, d, hg, by simp [List.getElem?_append_right]⟩⟩
  unfold f__law_spring
  rw [dDef_ref (k := 2) rfl (by simp)]
  have run : b__law_spring [some (.ref 0), some (.int a), none, none, none] G = .rt (.ref (G ++ E).length) (G ++ E ++ [spr a1 b1 d]) := by
    show (sAsg _ _ _ _).thn _ = _
    rw [first, thn_nx, dSeq_ap, e, thn_nx, dSeq_ap, e2, thn_nx, e3]
  show gcR G (outR (b__law_spring [some (.ref 0), some (.int a), none, none, none] G)) = _
  rw [run]
  unfold gcR
  have : closedV G.length (.ref (G ++ E).length) = false := by simp
  simp only [outR_rt, this, Bool.false_and]
  simp
theorem keep {G1 G2 : Hv} {p i : Nat} {o : VO} (w : Wd p G1 G2) (hi : i ≠ p) (h : G1[i]? = some o) : G2[i]? = some o := by
  rw [w.get hi (List.getElem?_eq_some_iff.mp h).1]; exact h
theorem keepA {G : Hv} {i : Nat} {o : VO} (E : Hv) (h : G[i]? = some o) : (G ++ E)[i]? = some o := by
  rw [List.getElem?_append_left (List.getElem?_eq_some_iff.mp h).1]; exact h
theorem hasA {G : Hv} {p : Nat} (h : HasS G p) (E : Hv) : HasS (G ++ E) p := by
  obtain ⟨a, b, d, g, e⟩ := h
  exact ⟨a, b, d, g, keepA E e⟩
theorem wdA {G1 G2 : Hv} {p : Nat} {E : Hv} (h : HasS G1 p) (n : Nx p (G1 ++ E) G2) : Wd p G1 G2 := (h.wd.more E).nx h.lt n
/-- a draw, behind what was laid -/
theorem take_k {G1 : Hv} {p : Nat} {m : Int} (h : HasS G1 p) (E : Hv) (hm : 0 < m) (hm2 : m < 1073741824) :
    ∃ d G2, 0 ≤ d ∧ d < m ∧ Nx p (G1 ++ E) G2 ∧ Wd p G1 G2 ∧ HasS G2 p ∧ f__law_take [.ref p, .int m] (G1 ++ E) = .ok (.int d) G2 := by
  obtain ⟨d, G2, h1, h2, h3, h4⟩ := take_spec (hasA h E) hm hm2
  have w := wdA h h3
  exact ⟨d, G2, h1, h2, h3, w, w.has h.lt, h4⟩
theorem str_mem {ss : List String} {v : VV} {ts : List (List Nat)} (h : v ∈ ss.map fun s => VV.str (s.toList.map Char.toNat)) (e : ss.map (fun s => s.toList.map Char.toNat) = ts) : ∃ t ∈ ts, v = .str t := by
  obtain ⟨s, hs, rfl⟩ := List.mem_map.mp h
  exact ⟨_, e ▸ List.mem_map_of_mem hs, rfl⟩
theorem plan_k {G1 : Hv} {p : Nat} (h : HasS G1 p) : ∃ s G2, s ∈ planS ∧ Wd p G1 G2 ∧ HasS G2 p ∧ f__law_plan [.ref p] G1 = .ok (.str s) G2 := by
  obtain ⟨v, G2, e, n, hv⟩ := plan_spec h
  obtain ⟨t, ht, rfl⟩ := str_mem (ts := planS) hv (by decide)
  exact ⟨t, G2, ht, n.wd, n.wd.has h.lt, e⟩
theorem line_k {G1 : Hv} {p : Nat} {laid : List Nat} (h : HasS G1 p) (hl : laid ∈ planS) : ∃ is G2, Line is 7 ∧ Wd p G1 G2 ∧ HasS G2 p ∧ f__law_line [.ref p, .str laid] G1 = .ok (.tup (is.map VV.int)) G2 := by
  obtain ⟨v, G2, e, n, is, rfl, hl⟩ := line_spec (laid := laid) h (by
    have e : ["behind", "front", "joined", "packed", "any"].map (fun s => VV.str (s.toList.map Char.toNat)) = planS.map VV.str := by decide
    rw [e]
    exact List.mem_map_of_mem hl)
  exact ⟨is, G2, hl, n.wd, n.wd.has h.lt, e⟩
theorem asStrs_map : ∀ ss : List (List Nat), asStrs (ss.map VV.str) = some ss
  | [] => rfl
  | s :: ss => by simp [asStrs, asStrs_map ss]
theorem join_run {G : Hv} {D : Nat} {ls : List VV} (hD : G[D]? = some (.lst (ls.map fun l => .str (txt l)))) (h4 : ls.length ≤ 4) (hl : ∀ l ∈ ls, l ∈ allLays) : mJoin (.str [10]) [.ref D] G = some (.str (wholeText ls), G) := by
  unfold mJoin
  have e : (ls.map fun l => VV.str (txt l)) = (ls.map txt).map VV.str := by simp
  rw [e] at hD
  simp only [asSeq, asListR, hD, asStrs_map]
  have hsum : ((ls.map txt).map List.length).sum ≤ ls.length * 100 := by
    clear e hD h4
    induction ls with
    | nil => simp
    | cons l ls ih =>
      have h1 := txt_len (hl l (by simp))
      have h2 := ih fun x hx => hl x (List.mem_cons_of_mem _ hx)
      simp at h2 ⊢
      omega
  rw [if_pos]
  · rfl
  · show _ ≤ 16777216
    simp at hsum ⊢
    omega
theorem line_abs {is : List Int} (h : Line is 7) : 0 < absSum is ∧ absSum is ≤ 70 := by
  have h1 := absSum_pos h.ne fun x hx => (h.ok x hx).1
  have h2 := absSum_le fun x hx => (h.ok x hx).2
  have := h.le
  omega
theorem repr_bl (b : Bool) : ∃ s, ∀ G, bReprB [.bl b] G = some (.str s, G) := by
  cases b
  · exact ⟨_, fun _ => rfl⟩
  · exact ⟨_, fun _ => rfl⟩
end DL
end S_I70
section S_J70
set_option linter.all false
set_option maxRecDepth 1000000
set_option maxHeartbeats 4000000
/-! J70: lists of lists; from which places is taken, both sides. -/
namespace DL
def intsV (L : List Int) : List VV := L.map VV.int
/-- a list of lists of whole numbers, as it lies, from m on -/
def ListsAt (m : Nat) (G : Hv) (r : Nat) (Ls : List (List Int)) : Prop := m ≤ r ∧ ∃ rs : List VV, G[r]? = some (.lst rs) ∧ rs.length = Ls.length ∧ ∀ (j : Nat) (L : List Int), Ls[j]? = some L → ∃ q, rs[j]? = some (.ref q) ∧ m ≤ q ∧ G[q]? = some (.lst (L.map VV.int))
theorem ListsAt.keep {m : Nat} {G G' : Hv} {r : Nat} {Ls : List (List Int)} (h : ListsAt m G r Ls) (k : ∀ i o, m ≤ i → G[i]? = some o → G'[i]? = some o) : ListsAt m G' r Ls := by
  obtain ⟨h0, rs, h1, h2, h3⟩ := h
  refine ⟨h0, rs, k _ _ h0 h1, h2, fun j L hL => ?_⟩
  obtain ⟨q, h4, h5, h6⟩ := h3 j L hL
  exact ⟨q, h4, h5, k _ _ h5 h6⟩
theorem ListsAt.more {m : Nat} {G : Hv} {r : Nat} {Ls : List (List Int)} (h : ListsAt m G r Ls) (E : Hv) : ListsAt m (G ++ E) r Ls := h.keep fun _ _ _ e => keepA E e
theorem ListsAt.low {m m' : Nat} {G : Hv} {r : Nat} {Ls : List (List Int)} (h : ListsAt m G r Ls) (hm : m' ≤ m) : ListsAt m' G r Ls := by
  obtain ⟨h0, rs, h1, h2, h3⟩ := h
  refine ⟨Nat.le_trans hm h0, rs, h1, h2, fun j L hL => ?_⟩
  obtain ⟨q, h4, h5, h6⟩ := h3 j L hL
  exact ⟨q, h4, Nat.le_trans hm h5, h6⟩
/-- numbers from a list that is walked, where nothing is laid -/
theorem lcL_filter {chk : List (Nat × VO)} {i : Nat} {t : DT} {vs : List Nat} {S0 : Env} {p : Nat → Bool} (n : Nat) (G : Hv) (hn : n < 1000) (hst : ∀ o, stays (G ++ [o]) chk = true)
    (hv : ∀ x : VV, dVar i (S0.set i (some x)) = fun G => R.ok x G) (ht : ∀ (j : Nat) (o : VO), j < n → t (S0.set i (some (.int (j : Nat)))) (G ++ [o]) = .ok (p j) (G ++ [o])) :
    lcL chk (gName i) t (dVar i) vs S0 G.length (upTo 0 n) (G ++ [.lst []]) = .ok (.ref G.length) (G ++ [.lst (((List.range n).filter p).map fun (j : Nat) => VV.int j)]) := by
  obtain ⟨acc, G', e, hG, ha⟩ := lcL_inv (chk := chk) (g := gName i) (t := t) (e := dVar i) (vs := vs) (S0 := S0) (D := G.length)
    (fun j acc G' => G' = G ++ [.lst acc] ∧ acc = ((List.range j).filter p).map fun (j : Nat) => VV.int j) (fun _ _ _ h => by rw [h.1]; exact hst _) (upTo 0 n) 0 [] (G ++ [.lst []]) ⟨rfl, rfl⟩ (by
    rintro j acc G' x hx _ ⟨rfl, rfl⟩
    rw [Nat.sub_zero, upTo_range, List.getElem?_map] at hx
    cases hr : (List.range n)[j]? with
    | none => rw [hr] at hx; cases hx
    | some j' =>
      have hjl : j < n := by simpa using (List.getElem?_eq_some_iff.mp hr).1
      have : j' = j := by
        have := (List.getElem?_eq_some_iff.mp hr).2
        simp at this
        exact this.symm
      subst this
      rw [hr] at hx
      simp at hx
      subst hx
      have tt := ht j' (.lst (((List.range j').filter p).map fun (j : Nat) => VV.int j)) hjl
      refine ⟨_, _, rfl, ?_⟩
      rw [List.range_succ, List.filter_append, List.map_append]
      cases hp : p j' with
      | false =>
        rw [hp] at tt
        exact .inl ⟨_, tt, by simp [hp]⟩
      | true =>
        rw [hp] at tt
        refine .inr ⟨_, .int (j' : Nat), _, tt, by rw [hv], by simp, ?_, by simp [hp]⟩
        have := List.length_filter_le p (List.range j')
        rw [List.length_range] at this
        rw [List.length_map]
        show _ < 16777216
        omega)
  rw [upTo_len, Nat.zero_add] at ha
  rw [e, hG, ha]
/-- a list of new lists -/
theorem lcL_lists {chk : List (Nat × VO)} {g : DG} {e : DE} {vs : List Nat} {S0 : Env} (xs : List VV) (Ls : List (List Int)) (B : Hv) (hl : xs.length = Ls.length) (hlim : xs.length < 1000) (hst : ∀ o E, stays (B ++ o :: E) chk = true)
    (k : ∀ (j : Nat) (x : VV) (L : List Int) (o : VO) (E : Hv), xs[j]? = some x → Ls[j]? = some L → ∃ S1 q E', g x S0 (B ++ o :: E) = .nx S1 (B ++ o :: E) ∧ e S1 (B ++ o :: E) = .ok (.ref q) (B ++ o :: (E ++ E')) ∧ (B ++ o :: (E ++ E'))[q]? = some (.lst (L.map VV.int)) ∧ B.length < q) :
    ∃ E, lcL chk g tYes e vs S0 B.length xs (B ++ [.lst []]) = .ok (.ref B.length) (B ++ E) ∧ ListsAt B.length (B ++ E) B.length Ls := by
  obtain ⟨acc, G', e1, E, hG, hacc, hall⟩ := lcL_inv (chk := chk) (g := g) (t := tYes) (e := e) (vs := vs) (S0 := S0) (D := B.length)
    (fun i acc G' => ∃ E, G' = B ++ .lst acc :: E ∧ acc.length = i ∧ ∀ (j : Nat) (L : List Int), j < i → Ls[j]? = some L → ∃ q, acc[j]? = some (.ref q) ∧ (B ++ .lst acc :: E)[q]? = some (.lst (L.map VV.int)) ∧ B.length < q)
    (fun _ _ _ ⟨_, h, _⟩ => by rw [h]; exact hst _ _) xs 0 [] (B ++ [.lst []]) ⟨[], rfl, rfl, fun j L hj => absurd hj (Nat.not_lt_zero _)⟩ (by
    rintro j acc G' x hx _ ⟨E, rfl, hacc, hall⟩
    rw [Nat.sub_zero] at hx
    have hjx := (List.getElem?_eq_some_iff.mp hx).1
    have hL := List.getElem?_eq_getElem (show j < Ls.length by omega)
    obtain ⟨S1, q, E', e1, e2, e3, e4⟩ := k j x _ (.lst acc) E hx hL
    refine ⟨S1, _, e1, .inr ⟨_, .ref q, _, rfl, e2, by simp, by show _ < 16777216; omega, E ++ E', ?_, by simp [hacc], fun j' L' hj' hL' => ?_⟩⟩
    · rw [List.set_append_right _ _ (Nat.le_refl _), Nat.sub_self]
      rfl
    · have keep : ∀ {q : Nat} {o : VO}, q ≠ B.length → (B ++ .lst acc :: (E ++ E'))[q]? = some o → (B ++ .lst (acc ++ [.ref q.succ]) :: (E ++ E'))[q]? = some o ∧ ∀ z : VO, (B ++ z :: (E ++ E'))[q]? = some o := fun {q o} hq h => by
        have gen : ∀ z : VO, (B ++ z :: (E ++ E'))[q]? = some o := fun z => by
          have e5 : B ++ z :: (E ++ E') = (B ++ .lst acc :: (E ++ E')).set B.length z := by
            rw [List.set_append_right _ _ (Nat.le_refl _), Nat.sub_self]; rfl
          rw [e5, List.getElem?_set_ne (Ne.symm hq)]
          exact h
        exact ⟨gen _, gen⟩
      by_cases hjj : j' = j
      · subst hjj
        rw [hL] at hL'
        cases hL'
        refine ⟨q, by rw [← hacc]; simp, (keep (by omega) e3).2 _, e4⟩
      · obtain ⟨q', h1, h2, h3⟩ := hall j' L' (by omega) hL'
        refine ⟨q', by rw [List.getElem?_append_left (by omega)]; exact h1, ?_, h3⟩
        have h2' : (B ++ .lst acc :: (E ++ E'))[q']? = some (.lst (L'.map VV.int)) := by
          have : B ++ .lst acc :: (E ++ E') = (B ++ .lst acc :: E) ++ E' := by simp
          rw [this]
          exact keepA E' h2
        exact (keep (by omega) h2').2 _)
  rw [Nat.zero_add] at hacc hall
  refine ⟨.lst acc :: E, by rw [e1, hG], Nat.le_refl _, acc, by simp, by omega, fun j L hL => ?_⟩
  obtain ⟨q, h1, h2, h3⟩ := hall j L (by have := (List.getElem?_eq_some_iff.mp hL).1; omega) hL
  exact ⟨q, h1, Nat.le_of_lt h3, h2⟩
/-- from which places each place takes -/
def takenL (l : VV) (C : List Cell) : List (List Int) := (List.range C.length).map fun x => ((List.range C.length).filter fun z => takesC l C (x : Nat) (z : Nat)).map fun (j : Nat) => (j : Int)
theorem takenL_len (l : VV) (C : List Cell) : (takenL l C).length = C.length := by simp [takenL]
theorem takenL_get {l : VV} {C : List Cell} {x : Nat} (h : x < C.length) : (takenL l C)[x]? = some (((List.range C.length).filter fun z => takesC l C (x : Nat) (z : Nat)).map fun (j : Nat) => (j : Int)) := by
  unfold takenL
  rw [List.getElem?_map, List.getElem?_range h]
  rfl
theorem ble_ok {n : Nat} (h : n < 1000) : Nat.ble (n : Int).natAbs 16777216 = true := Nat.ble_eq_true_of_le (by omega)
theorem taken_by_eq {G : Hv} {q : Nat} {l : VV} {is : List Int} (hl : l ∈ allLays) (hq : G[q]? = some (partV l)) (hlen : is.length < 1000) (h60 : absSum is ≤ 60) :
    ∃ r E, f_taken_by [.ref q, .tup (is.map VV.int)] G = .ok (.ref r) (G ++ E) ∧ ListsAt G.length (G ++ E) r (takenL l (cells is 0 0)) := by
  obtain ⟨E1, er⟩ := rows_by_place_eq hlen (by omega) G
  rw [cellsP_eq is 0 0] at er
  have hR := rows_cells is
  have hCl := cells_len is 0 0
  generalize cells is 0 0 = C at er hR hCl
  have hC : C.length < 1000 := by omega
  generalize hB : (G ++ VO.lst (C.map cP) :: E1) ++ [.lst (upTo 0 C.length)] = B
  have hp : B[G.length]? = some (.lst (C.map cP)) := by rw [← hB]; exact keepA _ (by simp)
  have hqB : B[q]? = some (partV l) := by rw [← hB]; exact keepA _ (keepA _ hq)
  have hm : B[(G ++ VO.lst (C.map cP) :: E1).length]? = some (.lst (upTo 0 C.length)) := by rw [← hB]; simp
  have bl : bLen [.ref G.length] (G ++ VO.lst (C.map cP) :: E1) = some (.int C.length, G ++ VO.lst (C.map cP) :: E1) := by simp [asListR]
  have hmi : (G ++ VO.lst (C.map cP) :: E1).length = G.length + (E1.length + 1) := by simp
  rw [hmi] at hm
  have hBl : G.length ≤ B.length := by rw [← hB, List.length_append, List.length_append]; omega
  obtain ⟨E, e, hLs⟩ := lcL_lists (chk := [(G.length + (E1.length + 1), .lst (upTo 0 C.length))]) (g := gName 5) (e := dLc [4] (iSeq (dVar 3)) (gName 4) (tV (dCall f_is_taken (aCons (dVar 0) (aCons (dVar 2) (aCons (dVar 5) (aCons (dVar 4) (aNil))))))) (dVar 4)) (vs := [5])
    (S0 := [some (.ref q), some (.tup (is.map VV.int)), some (.ref G.length), some (.ref (G.length + (E1.length + 1))), none, none]) (upTo 0 C.length) (takenL l C) B (by rw [upTo_len, takenL_len]) (by rw [upTo_len]; exact hC) (fun o E => by simp [stays, keepA (o :: E) hm]) (by
    intro j x L o E hx hL
    rw [upTo_range, List.getElem?_map] at hx
    cases hr : (List.range C.length)[j]? with
    | none => rw [hr] at hx; cases hx
    | some j' =>
      have hjl : j < C.length := by simpa using (List.getElem?_eq_some_iff.mp hr).1
      have : j' = j := by
        have := (List.getElem?_eq_some_iff.mp hr).2
        simp at this
        exact this.symm
      subst this
      rw [hr] at hx
      simp at hx
      subst hx
      rw [takenL_get hjl] at hL
      cases hL
      have hmE := keepA (o :: E) hm
      have f := lcL_filter (chk := [(G.length + (E1.length + 1), .lst (upTo 0 C.length))]) (i := 4) (t := tV (dCall f_is_taken (aCons (dVar 0) (aCons (dVar 2) (aCons (dVar 5) (aCons (dVar 4) (aNil))))))) (vs := [4])
        (S0 := [some (.ref q), some (.tup (is.map VV.int)), some (.ref G.length), some (.ref (G.length + (E1.length + 1))), none, some (.int (j' : Nat))]) (p := fun z => takesC l C (j' : Nat) (z : Nat)) C.length (B ++ o :: E) hC (fun o' => by simp only [stays, keepA [o'] hmE, decide_true, Bool.and_true]) (fun x => rfl) (fun z o' hz => by
          have tk := is_taken_eq (x := (j' : Nat)) (z := (z : Nat)) hl hR (keepA [o'] (keepA (o :: E) hqB)) (keepA [o'] (keepA (o :: E) hp)) (by omega) (by omega) (by omega) (by omega)
          simp at tk
          simp [tk])
      refine ⟨[some (.ref q), some (.tup (is.map VV.int)), some (.ref G.length), some (.ref (G.length + (E1.length + 1))), none, some (.int (j' : Nat))], (B ++ o :: E).length, [.lst (((List.range C.length).filter fun z => takesC l C (j' : Nat) (z : Nat)).map fun (j : Nat) => VV.int j)], by simp, ?_, ?_, by simp⟩
      · have sq : seqOf (B ++ o :: E) (.ref (G.length + (E1.length + 1))) = some (upTo 0 C.length, [(G.length + (E1.length + 1), .lst (upTo 0 C.length))]) := by simp only [seqOf, hmE]
        simp [sq, wipe]
        simp at f
        rw [f]
      · have : B ++ o :: (E ++ [.lst (((List.range C.length).filter fun z => takesC l C (j' : Nat) (z : Nat)).map fun (j : Nat) => VV.int j)]) = (B ++ o :: E) ++ [.lst (((List.range C.length).filter fun z => takesC l C (j' : Nat) (z : Nat)).map fun (j : Nat) => VV.int j)] := by simp
        rw [this, List.getElem?_concat_length]
        simp [List.map_map, Function.comp_def])
  have hBE : B ++ E = G ++ (VO.lst (C.map cP) :: (E1 ++ .lst (upTo 0 C.length) :: E)) := by rw [← hB]; simp
  refine ⟨B.length, VO.lst (C.map cP) :: (E1 ++ .lst (upTo 0 C.length) :: E), ?_, by rw [← hBE]; exact hLs.low hBl⟩
  unfold f_taken_by
  rw [dDef_ref (k := 2) rfl (by simp)]
  have sq : seqOf B (.ref (G.length + (E1.length + 1))) = some (upTo 0 C.length, [(G.length + (E1.length + 1), .lst (upTo 0 C.length))]) := by simp only [seqOf, hm]
  have hB2 : G ++ (VO.lst (C.map cP) :: (E1 ++ [.lst (upTo 0 C.length)])) = B := by rw [← hB]; simp
  have hble : C.length ≤ 16777216 := by omega
  have run : b_taken_by [some (.ref q), some (.tup (is.map VV.int)), none, none, none, none] G = .rt (.ref B.length) (B ++ E) := by
    have b1 : ∀ G, bLen [.ref G.length] G = _ := fun G => rfl
    simp [-bLen_ref, b_taken_by, er, bl, hble, hB2, sq, wipe]
    rw [e]
    simp
  show gcR G (outR (b_taken_by [some (.ref q), some (.tup (is.map VV.int)), none, none, none, none] G)) = _
  rw [run, ← hBE]
  unfold gcR
  have : closedV G.length (.ref B.length) = false := by simp; exact hBl
  simp only [outR_rt, this, Bool.false_and]
  simp
end DL
end S_J70
section S_K70a
set_option linter.all false
set_option maxRecDepth 1000000
set_option maxHeartbeats 4000000
/-! K70a: the law's step; what is held, both sides. -/
namespace DL
theorem law_step_eq {G : Hv} {tr : Nat} {l : VV} {C : List Cell} (hl : l ∈ allLays) (hR : Rows C) (hC : C.length < 1000) (ht : G[tr]? = some (.lst (C.map cT))) :
    ∃ r E, f__law_step [l, .ref tr] G = .ok (.ref r) (G ++ E) ∧ ListsAt G.length (G ++ E) r (takenL l C) := by
  generalize hB : G ++ [VO.lst (upTo 0 C.length)] = B
  have hp : B[tr]? = some (.lst (C.map cT)) := by rw [← hB]; exact keepA _ ht
  have hm : B[G.length]? = some (.lst (upTo 0 C.length)) := by rw [← hB]; simp
  have bl : bLen [.ref tr] G = some (.int C.length, G) := by simp [asListR, ht]
  have hBl : G.length ≤ B.length := by rw [← hB, List.length_append]; omega
  obtain ⟨E, e, hLs⟩ := lcL_lists (chk := [(G.length, .lst (upTo 0 C.length))]) (g := gName 4) (e := dLc [3] (iSeq (dVar 2)) (gName 3) (tV (dCall f__law_takes (aCons (dVar 0) (aCons (dVar 1) (aCons (dVar 4) (aCons (dVar 3) (aNil))))))) (dVar 3)) (vs := [4])
    (S0 := [some l, some (.ref tr), some (.ref G.length), none, none]) (upTo 0 C.length) (takenL l C) B (by rw [upTo_len, takenL_len]) (by rw [upTo_len]; exact hC) (fun o E => by simp [stays, keepA (o :: E) hm]) (by
    intro j x L o E hx hL
    rw [upTo_range, List.getElem?_map] at hx
    cases hr : (List.range C.length)[j]? with
    | none => rw [hr] at hx; cases hx
    | some j' =>
      have hjl : j < C.length := by simpa using (List.getElem?_eq_some_iff.mp hr).1
      have : j' = j := by
        have := (List.getElem?_eq_some_iff.mp hr).2
        simp at this
        exact this.symm
      subst this
      rw [hr] at hx
      simp at hx
      subst hx
      rw [takenL_get hjl] at hL
      cases hL
      have hmE := keepA (o :: E) hm
      have f := lcL_filter (chk := [(G.length, .lst (upTo 0 C.length))]) (i := 3) (t := tV (dCall f__law_takes (aCons (dVar 0) (aCons (dVar 1) (aCons (dVar 4) (aCons (dVar 3) (aNil))))))) (vs := [3])
        (S0 := [some l, some (.ref tr), some (.ref G.length), none, some (.int (j' : Nat))]) (p := fun z => takesC l C (j' : Nat) (z : Nat)) C.length (B ++ o :: E) hC (fun o' => by simp only [stays, keepA [o'] hmE, decide_true, Bool.and_true]) (fun x => rfl) (fun z o' hz => by
          have tk := law_takes_eq (x := (j' : Nat)) (z := (z : Nat)) hl hR (keepA [o'] (keepA (o :: E) hp)) (by omega) (by omega) (by omega) (by omega)
          simp at tk
          simp [tk])
      refine ⟨[some l, some (.ref tr), some (.ref G.length), none, some (.int (j' : Nat))], (B ++ o :: E).length, [.lst (((List.range C.length).filter fun z => takesC l C (j' : Nat) (z : Nat)).map fun (j : Nat) => VV.int j)], by simp, ?_, ?_, by simp⟩
      · have sq : seqOf (B ++ o :: E) (.ref G.length) = some (upTo 0 C.length, [(G.length, .lst (upTo 0 C.length))]) := by simp only [seqOf, hmE]
        simp [sq, wipe]
        simp at f
        rw [f]
      · have : B ++ o :: (E ++ [.lst (((List.range C.length).filter fun z => takesC l C (j' : Nat) (z : Nat)).map fun (j : Nat) => VV.int j)]) = (B ++ o :: E) ++ [.lst (((List.range C.length).filter fun z => takesC l C (j' : Nat) (z : Nat)).map fun (j : Nat) => VV.int j)] := by simp
        rw [this, List.getElem?_concat_length]
        simp [List.map_map, Function.comp_def])
  have hBE : B ++ E = G ++ (VO.lst (upTo 0 C.length) :: E) := by rw [← hB]; simp
  refine ⟨B.length, VO.lst (upTo 0 C.length) :: E, ?_, by rw [← hBE]; exact hLs.low hBl⟩
  unfold f__law_step
  rw [dDef_ref (k := 2) rfl (by simp [closed_lay hl])]
  have sq : seqOf B (.ref G.length) = some (upTo 0 C.length, [(G.length, .lst (upTo 0 C.length))]) := by simp only [seqOf, hm]
  have hble : C.length ≤ 16777216 := by omega
  have run : b__law_step [some l, some (.ref tr), none, none, none] G = .rt (.ref B.length) (B ++ E) := by
    simp [-bLen_ref, b__law_step, bl, hble, hB, sq, wipe]
    rw [e]
    simp
  show gcR G (outR (b__law_step [some l, some (.ref tr), none, none, none] G)) = _
  rw [run, ← hBE]
  unfold gcR
  have : closedV G.length (.ref B.length) = false := by simp; exact hBl
  simp only [outR_rt, this, Bool.false_and]
  simp
/-- what is held behind some layers: lists of places -/
def stepF (T : List (List Int)) (F : List (List Int)) : List (List Int) := T.map fun zs => sortU (zs.flatMap fun z => (F[z.toNat]?).getD [])
def startF (n : Nat) : List (List Int) := (List.range n).map fun (x : Nat) => [(x : Int)]
def heldF (ls : List VV) (C : List Cell) : List (List Int) := ls.foldl (fun F l => stepF (takenL l C) F) (startF C.length)
/-- the same as sums of powers -/
def orM (M : List Int) : List Int → Nat → Nat
  | [], w => w
  | z :: zs, w => orM M zs (w ||| ((M[z.toNat]?).getD 0).toNat)
def stepM (T : List (List Int)) (M : List Int) : List Int := T.map fun zs => ((orM M zs 0 : Nat) : Int)
def startM (n : Nat) : List Int := (List.range n).map fun (x : Nat) => ((2 ^ x : Nat) : Int)
def heldM (ls : List VV) (C : List Cell) : List Int := ls.foldl (fun M l => stepM (takenL l C) M) (startM C.length)
theorem mem_insIN (k z : Int) : ∀ l : List Int, z ∈ insI k l ↔ z = k ∨ z ∈ l
  | [] => by simp [insI]
  | x :: r => by
    unfold insI
    split
    · simp
    · split
      · rename_i h
        subst h
        simp
      · rw [List.mem_cons, mem_insIN k z r, List.mem_cons]
        constructor
        · rintro (h | h | h) <;> simp [h]
        · rintro (h | h | h) <;> simp [h]
theorem mem_sortUN (z : Int) : ∀ l : List Int, z ∈ sortU l ↔ z ∈ l
  | [] => by simp [sortU]
  | x :: r => by rw [sortU, mem_insIN, mem_sortUN z r, List.mem_cons]
theorem len_insI (k : Int) : ∀ l : List Int, (insI k l).length ≤ l.length + 1
  | [] => by simp [insI]
  | x :: r => by
    unfold insI
    split
    · simp
    · split
      · simp
      · have := len_insI k r
        simp
        omega
theorem asc_insIN (k : Int) : ∀ l : List Int, l.Pairwise (· < ·) → (insI k l).Pairwise (· < ·)
  | [], _ => by simp [insI]
  | x :: r, h => by
    have h1 := List.pairwise_cons.mp h
    unfold insI
    split
    · rename_i hk
      refine List.pairwise_cons.mpr ⟨fun z hz => ?_, h⟩
      rcases List.mem_cons.mp hz with rfl | hz
      · exact hk
      · have := h1.1 z hz
        omega
    · split
      · exact h
      · refine List.pairwise_cons.mpr ⟨fun z hz => ?_, asc_insIN k r h1.2⟩
        rcases (mem_insIN k z r).mp hz with rfl | hz
        · omega
        · exact h1.1 z hz
theorem asc_sortUN : ∀ l : List Int, (sortU l).Pairwise (· < ·)
  | [] => by simp [sortU]
  | x :: r => by rw [sortU]; exact asc_insIN x _ (asc_sortUN r)
/-- an ascending list within bounds is not long -/
theorem asc_len : ∀ {l : List Int} {a b : Int}, l.Pairwise (· < ·) → (∀ z ∈ l, a ≤ z ∧ z < b) → a ≤ b → (l.length : Int) ≤ b - a
  | [], a, b, _, _, h => by simp; omega
  | x :: r, a, b, h, hb, hab => by
    have h1 := List.pairwise_cons.mp h
    have hx := hb x (by simp)
    have := asc_len (a := x + 1) (b := b) h1.2 (fun z hz => ⟨by have := h1.1 z hz; omega, (hb z (List.mem_cons_of_mem _ hz)).2⟩) (by omega)
    simp
    omega
/-- lists of places: so many, each ascending -/
structure GoodF (n : Nat) (F : List (List Int)) : Prop where
  len : F.length = n
  ok : ∀ L ∈ F, InC n L ∧ L.Pairwise (· < ·)
theorem GoodF.short {n : Nat} {F : List (List Int)} (h : GoodF n F) {L : List Int} (hL : L ∈ F) : L.length ≤ n := by
  have := asc_len (a := 0) (b := n) (h.ok L hL).2 (h.ok L hL).1 (by omega)
  omega
theorem takenL_in (l : VV) (C : List Cell) : ∀ zs ∈ takenL l C, InC C.length zs ∧ zs.length ≤ C.length := fun zs hz => by
  obtain ⟨x, hx, rfl⟩ := List.mem_map.mp hz
  refine ⟨fun z hz => ?_, ?_⟩
  · obtain ⟨j, hj, rfl⟩ := List.mem_map.mp hz
    have := List.mem_range.mp (List.mem_filter.mp hj).1
    omega
  · rw [List.length_map]
    have := List.length_filter_le (fun z : Nat => takesC l C (x : Nat) (z : Nat)) (List.range C.length)
    rwa [List.length_range] at this
theorem goodF_start (n : Nat) : GoodF n (startF n) := ⟨by simp [startF], fun L hL => by
  obtain ⟨x, hx, rfl⟩ := List.mem_map.mp hL
  have := List.mem_range.mp hx
  exact ⟨fun k hk => by rw [List.mem_singleton.mp hk]; omega, by simp⟩⟩
theorem goodF_step {n : Nat} {T F : List (List Int)} (hT : T.length = n) (h : GoodF n F) : GoodF n (stepF T F) := ⟨by simp [stepF, hT], fun L hL => by
  obtain ⟨zs, hz, rfl⟩ := List.mem_map.mp hL
  refine ⟨fun k hk => ?_, asc_sortUN _⟩
  rw [mem_sortUN] at hk
  obtain ⟨z, _, hk⟩ := List.mem_flatMap.mp hk
  cases e : F[z.toNat]? with
  | none => rw [e] at hk; simp at hk
  | some L' =>
    rw [e] at hk
    exact (h.ok L' (List.mem_of_getElem? e)).1 k hk⟩
theorem goodF_held (ls : List VV) (C : List Cell) : GoodF C.length (heldF ls C) := by
  unfold heldF
  have : ∀ (ls : List VV) (F : List (List Int)), GoodF C.length F → GoodF C.length (ls.foldl (fun F l => stepF (takenL l C) F) F) := fun ls => by
    induction ls with
    | nil => exact fun F h => h
    | cons l ls ih => exact fun F h => ih _ (goodF_step (takenL_len l C) h)
  exact this ls _ (goodF_start _)
/-- lists and sums say the same -/
structure Tell (n : Nat) (F : List (List Int)) (M : List Int) : Prop where
  lf : F.length = n
  lm : M.length = n
  ok : ∀ x, x < n → 0 ≤ (M[x]?).getD 0 ∧ ((M[x]?).getD 0).toNat < 2 ^ n ∧ ∀ y : Nat, ((y : Int) ∈ (F[x]?).getD [] ↔ Nat.testBit ((M[x]?).getD 0).toNat y = true)
theorem tell_start (n : Nat) : Tell n (startF n) (startM n) := ⟨by simp [startF], by simp [startM], fun x hx => by
  have e1 : (startF n)[x]? = some [(x : Int)] := by simp [startF, hx]
  have e2 : (startM n)[x]? = some ((2 ^ x : Nat) : Int) := by simp [startM, hx]
  rw [e1, e2]
  simp only [Option.getD_some]
  refine ⟨Int.natCast_nonneg _, ?_, fun y => ?_⟩
  · rw [Int.toNat_natCast]
    exact Nat.pow_lt_pow_right (by decide) hx
  · rw [Int.toNat_natCast, Nat.testBit_two_pow]
    simp
    omega⟩
theorem orM_tell {n : Nat} {F : List (List Int)} {M : List Int} (h : Tell n F M) : ∀ (zs : List Int) (w : Nat), InC n zs → w < 2 ^ n → orM M zs w < 2 ^ n ∧ ∀ y : Nat, (Nat.testBit (orM M zs w) y = true ↔ Nat.testBit w y = true ∨ (y : Int) ∈ zs.flatMap fun z => (F[z.toNat]?).getD [])
  | [], w, _, hw => ⟨hw, fun y => by simp [orM]⟩
  | z :: zs, w, hz, hw => by
    have hz0 := hz z (by simp)
    have hk := h.ok z.toNat (by omega)
    have ih := orM_tell h zs (w ||| ((M[z.toNat]?).getD 0).toNat) (fun k hk => hz k (List.mem_cons_of_mem _ hk)) (Nat.or_lt_two_pow hw hk.2.1)
    refine ⟨ih.1, fun y => ?_⟩
    unfold orM
    rw [ih.2 y, Nat.testBit_or, Bool.or_eq_true, List.flatMap_cons, List.mem_append, hk.2.2 y, or_assoc]
theorem tell_step {n : Nat} {T F : List (List Int)} {M : List Int} (hT : T.length = n) (hin : ∀ zs ∈ T, InC n zs) (h : Tell n F M) : Tell n (stepF T F) (stepM T M) := ⟨by simp [stepF, hT], by simp [stepM, hT], fun x hx => by
  have hxT : T[x]? = some (T[x]'(by omega)) := List.getElem?_eq_getElem (by omega)
  have hm := List.getElem_mem (show x < T.length by omega)
  generalize T[x]'(by omega) = zs at hxT hm
  have e1 : (stepF T F)[x]? = some (sortU (zs.flatMap fun z => (F[z.toNat]?).getD [])) := by simp [stepF, hxT]
  have e2 : (stepM T M)[x]? = some ((orM M zs 0 : Nat) : Int) := by simp [stepM, hxT]
  rw [e1, e2]
  simp only [Option.getD_some, Int.toNat_natCast]
  have o := orM_tell h zs 0 (hin zs hm) (Nat.two_pow_pos n)
  refine ⟨Int.natCast_nonneg _, o.1, fun y => ?_⟩
  rw [mem_sortUN, o.2 y]
  simp⟩
theorem tell_held (ls : List VV) (C : List Cell) : Tell C.length (heldF ls C) (heldM ls C) := by
  unfold heldF heldM
  have : ∀ (ls : List VV) (F : List (List Int)) (M : List Int), Tell C.length F M → Tell C.length (ls.foldl (fun F l => stepF (takenL l C) F) F) (ls.foldl (fun M l => stepM (takenL l C) M) M) := fun ls => by
    induction ls with
    | nil => exact fun F M h => h
    | cons l ls ih => exact fun F M h => ih _ _ (tell_step (takenL_len l C) (fun zs hz => (takenL_in l C zs hz).1) h)
  exact this ls _ _ (tell_start _)
end DL
end S_K70a
section S_L70
set_option linter.all false
set_option maxRecDepth 1000000
set_option maxHeartbeats 4000000
/-! L70: held_on. -/
namespace DL
/-- a list of lists of lists, as it lies -/
def StepsAt (m : Nat) (G : Hv) (r : Nat) (Ts : List (List (List Int))) : Prop := m ≤ r ∧ ∃ rs : List VV, G[r]? = some (.lst rs) ∧ rs.length = Ts.length ∧ ∀ (j : Nat) (T : List (List Int)), Ts[j]? = some T → ∃ q, rs[j]? = some (.ref q) ∧ ListsAt m G q T
theorem StepsAt.keep {m : Nat} {G G' : Hv} {r : Nat} {Ts : List (List (List Int))} (h : StepsAt m G r Ts) (k : ∀ i o, m ≤ i → G[i]? = some o → G'[i]? = some o) : StepsAt m G' r Ts := by
  obtain ⟨h0, rs, h1, h2, h3⟩ := h
  refine ⟨h0, rs, k _ _ h0 h1, h2, fun j T hT => ?_⟩
  obtain ⟨q, h4, h5⟩ := h3 j T hT
  exact ⟨q, h4, h5.keep k⟩
theorem lcL_objs {chk : List (Nat × VO)} {g : DG} {e : DE} {vs : List Nat} {S0 : Env} (xs : List VV) (Ts : List (List (List Int))) (B : Hv) (hl : xs.length = Ts.length) (hlim : xs.length < 1000) (hst : ∀ o E, stays (B ++ o :: E) chk = true)
    (k : ∀ (j : Nat) (x : VV) (T : List (List Int)) (o : VO) (E : Hv), xs[j]? = some x → Ts[j]? = some T → ∃ S1 q E', g x S0 (B ++ o :: E) = .nx S1 (B ++ o :: E) ∧ e S1 (B ++ o :: E) = .ok (.ref q) (B ++ o :: (E ++ E')) ∧ ListsAt (B.length + 1) (B ++ o :: (E ++ E')) q T) :
    ∃ E, lcL chk g tYes e vs S0 B.length xs (B ++ [.lst []]) = .ok (.ref B.length) (B ++ E) ∧ StepsAt B.length (B ++ E) B.length Ts := by
  obtain ⟨acc, G', e1, E, hG, hacc, hall⟩ := lcL_inv (chk := chk) (g := g) (t := tYes) (e := e) (vs := vs) (S0 := S0) (D := B.length)
    (fun i acc G' => ∃ E, G' = B ++ .lst acc :: E ∧ acc.length = i ∧ ∀ (j : Nat) (T : List (List Int)), j < i → Ts[j]? = some T → ∃ q, acc[j]? = some (.ref q) ∧ ListsAt (B.length + 1) (B ++ .lst acc :: E) q T)
    (fun _ _ _ ⟨_, h, _⟩ => by rw [h]; exact hst _ _) xs 0 [] (B ++ [.lst []]) ⟨[], rfl, rfl, fun j L hj => absurd hj (Nat.not_lt_zero _)⟩ (by
    rintro j acc G' x hx _ ⟨E, rfl, hacc, hall⟩
    rw [Nat.sub_zero] at hx
    have hjx := (List.getElem?_eq_some_iff.mp hx).1
    have hL := List.getElem?_eq_getElem (show j < Ts.length by omega)
    obtain ⟨S1, q, E', e1, e2, e3⟩ := k j x _ (.lst acc) E hx hL
    have other : ∀ (z o' : VO) (i : Nat) (F : Hv), B.length + 1 ≤ i → (B ++ .lst acc :: F)[i]? = some o' → (B ++ z :: F)[i]? = some o' := fun z o' i F hi h => by
      have e5 : B ++ z :: F = (B ++ .lst acc :: F).set B.length z := by
        rw [List.set_append_right _ _ (Nat.le_refl _), Nat.sub_self]; rfl
      rw [e5, List.getElem?_set_ne (by omega)]
      exact h
    refine ⟨S1, _, e1, .inr ⟨_, .ref q, _, rfl, e2, by simp, by show _ < 16777216; omega, E ++ E', ?_, by simp [hacc], fun j' L' hj' hL' => ?_⟩⟩
    · rw [List.set_append_right _ _ (Nat.le_refl _), Nat.sub_self]
      rfl
    · by_cases hjj : j' = j
      · subst hjj
        rw [hL] at hL'
        cases hL'
        exact ⟨q, by rw [← hacc]; simp, e3.keep fun i o' hi h => other _ _ _ _ hi h⟩
      · obtain ⟨q', h1, h2⟩ := hall j' L' (by omega) hL'
        refine ⟨q', by rw [List.getElem?_append_left (by omega)]; exact h1, ?_⟩
        have h2' : ListsAt (B.length + 1) (B ++ .lst acc :: (E ++ E')) q' L' := by
          have : B ++ .lst acc :: (E ++ E') = (B ++ .lst acc :: E) ++ E' := by simp
          rw [this]
          exact h2.more E'
        exact h2'.keep fun i o' hi h => other _ _ _ _ hi h)
  rw [Nat.zero_add] at hacc hall
  refine ⟨.lst acc :: E, by rw [e1, hG], Nat.le_refl _, acc, by simp, by omega, fun j L hL => ?_⟩
  obtain ⟨q, h1, h2⟩ := hall j L (by have := (List.getElem?_eq_some_iff.mp hL).1; omega) hL
  exact ⟨q, h1, h2.low (by omega)⟩
/-- items that are laid behind those there -/
theorem lcL_app {chk : List (Nat × VO)} {i : Nat} {vs : List Nat} {S0 : Env} (ys acc : List VV) (B : Hv) (hst : ∀ o, stays (B ++ [o]) chk = true) (hv : ∀ x : VV, dVar i (S0.set i (some x)) = fun G => R.ok x G) (hlim : acc.length + ys.length < 16777216) :
    lcL chk (gName i) tYes (dVar i) vs S0 B.length ys (B ++ [.lst acc]) = .ok (.ref B.length) (B ++ [.lst (acc ++ ys)]) := by
  obtain ⟨acc', G', e, hG, ha⟩ := lcL_inv (chk := chk) (g := gName i) (t := tYes) (e := dVar i) (vs := vs) (S0 := S0) (D := B.length)
    (fun j acc' G' => G' = B ++ [.lst acc'] ∧ acc' = acc ++ ys.take j) (fun _ _ _ h => by rw [h.1]; exact hst _) ys 0 acc (B ++ [.lst acc]) ⟨rfl, by simp⟩ (by
    rintro j acc' G' x hx _ ⟨rfl, rfl⟩
    rw [Nat.sub_zero] at hx
    have hjx := (List.getElem?_eq_some_iff.mp hx).1
    refine ⟨_, _, rfl, .inr ⟨_, x, _, rfl, by rw [hv], by simp, ?_, by simp, by rw [List.take_succ, hx]; simp⟩⟩
    rw [List.length_append, List.length_take]
    show _ < 16777216
    omega)
  rw [Nat.zero_add, List.take_length] at ha
  rw [e, hG, ha]
theorem flat_len {n : Nat} {F : List (List Int)} (hF : GoodF n F) : ∀ {zs : List Int}, (zs.flatMap fun z => (F[z.toNat]?).getD []).length ≤ zs.length * n
  | [] => by simp
  | z :: zs => by
    have ih := flat_len hF (zs := zs)
    have h1 : ((F[z.toNat]?).getD []).length ≤ n := by
      cases e : F[z.toNat]? with
      | none => simp
      | some L => exact hF.short (List.mem_of_getElem? e)
    rw [List.flatMap_cons, List.length_append, List.length_cons, Nat.add_mul]
    omega
/-- all that is found at some places -/
theorem flat_run {B : Hv} {f q n : Nat} {F : List (List Int)} {S0 : Env} {S9 : Int → Env} (hF : GoodF n F) (hf : ListsAt 0 B f F) :
    ∀ (zs : List Int) (acc : List Int) (all : List VV), InC n zs → (∀ o, stays (B ++ [o]) [(q, .lst all)] = true) → acc.length + zs.length * n < 16777216 →
    (hS : ∀ z : Int, S0.set 9 (some (.int z)) = S9 z ∧ dVar 5 (S9 z) = (fun G => R.ok (.ref f) G) ∧ dVar 9 (S9 z) = (fun G => R.ok (.int z) G)) → (∀ (z : Int) (x : VV), dVar 10 ((wipe (S9 z) [10]).set 10 (some x)) = fun G => R.ok x G) →
    lc2L [(q, .lst all)] (gName 9) tYes (iSeq (dIx (dVar 5) (dVar 9))) (gName 10) tYes (dVar 10) [9, 10] [10] S0 B.length (zs.map VV.int) (B ++ [.lst (acc.map VV.int)]) = .ok (.ref B.length) (B ++ [.lst ((acc ++ zs.flatMap fun z => (F[z.toNat]?).getD []).map VV.int)])
  | [], acc, all, _, hst, _, _, _ => by simp [lc2L, hst]
  | z :: zs, acc, all, hz, hst, hlim, hS, h10 => by
    have hz0 := hz z (by simp)
    obtain ⟨s1, s2, s3⟩ := hS z
    obtain ⟨_, rs, hr, hrl, hq⟩ := hf
    have hzF : z.toNat < F.length := by rw [hF.len]; omega
    have hL := List.getElem?_eq_getElem hzF
    have hLm := List.getElem_mem hzF
    obtain ⟨qq, hq1, _, hq2⟩ := hq _ _ hL
    have hLn := hF.short hLm
    generalize F[z.toNat] = L at hL hLm hq2 hLn
    have ix : ∀ o : VO, oIx (B ++ [o]) (.ref f) (.int z) = some (.ref qq) := fun o => by
      have := ix_seq (G := B ++ [o]) (keepA [o] hr) hq1
      rwa [Int.toNat_of_nonneg hz0.1] at this
    have sq : ∀ o : VO, seqOf (B ++ [o]) (.ref qq) = some (L.map VV.int, [(qq, .lst (L.map VV.int))]) := fun o => by simp only [seqOf, keepA [o] hq2]
    have hll : (zs.length + 1) * n = zs.length * n + n := by rw [Nat.add_mul, Nat.one_mul]
    rw [List.length_cons, hll] at hlim
    have ap := lcL_app (chk := [(qq, .lst (L.map VV.int))]) (i := 10) (vs := [10]) (S0 := wipe (S9 z) [10]) (L.map VV.int) (acc.map VV.int) B (fun o => by simp [stays, keepA [o] hq2]) (fun x => h10 z x) (by rw [List.length_map, List.length_map]; omega)
    have ih := flat_run (S0 := S0) (S9 := S9) (q := q) hF ⟨Nat.zero_le _, rs, hr, hrl, hq⟩ zs (acc ++ L) all (fun k hk => hz k (List.mem_cons_of_mem _ hk)) hst (by rw [List.length_append]; omega) hS h10
    have it : iSeq (dIx (dVar 5) (dVar 9)) (S9 z) (B ++ [.lst (acc.map VV.int)]) = .ok (L.map VV.int, [(qq, .lst (L.map VV.int))]) (B ++ [.lst (acc.map VV.int)]) := by
      simp [-dVar_ap, s2, s3, ix, sq]
    rw [List.map_cons, lc2L, if_pos (hst _)]
    rw [gName_ap, s1]
    simp only [tYes_ap, it, ap, lcK]
    rw [List.flatMap_cons, hL, ← List.append_assoc]
    simp only [Option.getD_some]
    rw [List.map_append] at ih
    exact ih
end DL
end S_L70
section S_M70
set_option linter.all false
set_option maxRecDepth 1000000
set_option maxHeartbeats 4000000
/-! M70: held_on. -/
namespace DL
theorem allGet {α : Type} {p : α → Prop} {xs : List α} (h : ∀ x ∈ xs, p x) {i : Nat} {x : α} (hx : xs[i]? = some x) : p x := h x (List.mem_of_getElem? hx)
/-- one layer -/
theorem held_step {G : Hv} {f q n : Nat} {S0 : Env} {F T : List (List Int)} (hn : n ≤ 60) (hT : T.length = n) (hin : ∀ zs ∈ T, InC n zs ∧ zs.length ≤ n) (hF : GoodF n F) (hf : ListsAt 0 G f F) (hq : ListsAt 0 G q T) (S1 : VV → Env)
    (hS : ∀ x : VV, (wipe S0 [11]).set 11 (some x) = S1 x ∧ dVar 11 (S1 x) = (fun G => R.ok x G))
    (hS2 : ∀ (x : VV) (z : Int), dVar 5 ((wipe (S1 x) [9, 10]).set 9 (some (.int z))) = (fun G => R.ok (.ref f) G) ∧ dVar 9 ((wipe (S1 x) [9, 10]).set 9 (some (.int z))) = (fun G => R.ok (.int z) G))
    (hS3 : ∀ (x : VV) (z : Int) (y : VV), dVar 10 ((wipe ((wipe (S1 x) [9, 10]).set 9 (some (.int z))) [10]).set 10 (some y)) = fun G => R.ok y G) (h8 : dVar 8 S0 = fun G => R.ok (.ref q) G) :
    ∃ E, dLc [11] (iSeq (dVar 8)) (gName 11) (tYes) (dSortSet (dLc2 [9, 10] [10] (iSeq (dVar 11)) (gName 9) (tYes) (iSeq (dIx (dVar 5) (dVar 9))) (gName 10) (tYes) (dVar 10))) S0 G = .ok (.ref G.length) (G ++ E) ∧ ListsAt G.length (G ++ E) G.length (stepF T F) := by
  obtain ⟨_, rs, hr, hrl, hrs⟩ := hq
  have sl : (stepF T F).length = n := by simp [stepF, hT]
  obtain ⟨E, e, hL⟩ := lcL_lists (chk := [(q, .lst rs)]) (g := gName 11) (e := dSortSet (dLc2 [9, 10] [10] (iSeq (dVar 11)) (gName 9) (tYes) (iSeq (dIx (dVar 5) (dVar 9))) (gName 10) (tYes) (dVar 10))) (vs := [11]) (S0 := wipe S0 [11]) rs (stepF T F) G (by omega) (by omega) (fun o E => by simp [stays, keepA (o :: E) hr]) (by
    intro j x L o E hx hL
    have hjT : j < T.length := by have := (List.getElem?_eq_some_iff.mp hx).1; omega
    have hTj := List.getElem?_eq_getElem hjT
    have hTm := hin _ (List.getElem_mem hjT)
    obtain ⟨qq, hq1, _, hq2⟩ := hrs _ _ hTj
    rw [hx] at hq1
    cases hq1
    generalize T[j] = zs at hTj hTm hq2
    have hLe : L = sortU (zs.flatMap fun z => (F[z.toNat]?).getD []) := by
      have : (stepF T F)[j]? = some (sortU (zs.flatMap fun z => (F[z.toNat]?).getD [])) := by simp [stepF, hTj]
      rw [this] at hL
      exact (Option.some.inj hL).symm
    subst hLe
    obtain ⟨s1, s2⟩ := hS (.ref qq)
    have hfl := flat_len hF (zs := zs)
    have hmul : zs.length * n ≤ 3600 := Nat.le_trans (Nat.mul_le_mul hTm.2 (Nat.le_refl n)) (Nat.le_trans (Nat.mul_le_mul hn hn) (by decide))
    have hq2E := keepA (o :: E) hq2
    have fr := flat_run (B := G ++ o :: E) (q := qq) (S0 := wipe (S1 (.ref qq)) [9, 10]) (S9 := fun z => (wipe (S1 (.ref qq)) [9, 10]).set 9 (some (.int z))) hF (hf.more (o :: E)) zs [] (zs.map VV.int) hTm.1 (fun o' => by simp only [stays, keepA [o'] hq2E, decide_true, Bool.and_true]) (by simp; omega) (fun z => ⟨rfl, hS2 (.ref qq) z⟩) (fun z y => hS3 (.ref qq) z y)
    generalize hfm : (zs.flatMap fun z => (F[z.toNat]?).getD []) = fm at fr hfl
    have srt : GoodF n (stepF T F) := goodF_step hT hF
    have hsl : (sortU fm).length ≤ n := srt.short (by
      rw [← hfm]
      exact List.mem_map_of_mem (f := fun zs => sortU (zs.flatMap fun z => (F[z.toNat]?).getD [])) (List.mem_of_getElem? hTj))
    have sq : seqOf (G ++ o :: E) (.ref qq) = some (zs.map VV.int, [(qq, .lst (zs.map VV.int))]) := by simp only [seqOf, hq2E]
    have ss : oSortSet ((G ++ o :: E) ++ [.lst (fm.map VV.int)]) (.ref (G ++ o :: E).length) = some (.ref ((G ++ o :: E).length + 1), (G ++ o :: E) ++ [.lst (fm.map VV.int), .lst ((sortU fm).map VV.int)]) := by
      unfold oSortSet
      simp only [asList, List.getElem?_concat_length, asInts_map]
      rw [if_pos ⟨by omega, by omega⟩]
      simp [newL]
      omega
    refine ⟨S1 (.ref qq), (G ++ o :: E).length + 1, [.lst (fm.map VV.int), .lst ((sortU fm).map VV.int)], by rw [gName_ap, s1], ?_, ?_, by simp; omega⟩
    · rw [dSortSet_ap, dLc2_ap, iSeq_ap, s2]
      simp only [R.bind_ok, sq, ofP_some]
      simp only [List.map_nil, List.nil_append] at fr
      rw [fr]
      simp only [R.bind_ok, ss, ofO_some]
      simp
    · have : G ++ o :: (E ++ [VO.lst (fm.map VV.int), .lst ((sortU fm).map VV.int)]) = (G ++ o :: E) ++ [VO.lst (fm.map VV.int), .lst ((sortU fm).map VV.int)] := by simp
      rw [this, List.getElem?_append_right (by omega)]
      simp)
  refine ⟨E, ?_, hL⟩
  have sq : seqOf G (.ref q) = some (rs, [(q, .lst rs)]) := by simp only [seqOf, hr]
  rw [dLc_ap, iSeq_ap, h8]
  simp only [R.bind_ok, sq, ofP_some]
  exact e
theorem lcL_start {S0 : Env} {i : Nat} {chk : List (Nat × VO)} (n : Nat) (B : Hv) (hn : n < 1000) (hst : ∀ o E, stays (B ++ o :: E) chk = true) (vs : List Nat) (hv : ∀ x : VV, dVar i (S0.set i (some x)) = fun G => R.ok x G) :
    ∃ E, lcL chk (gName i) tYes (dLst (aCons (dVar i) aNil)) vs S0 B.length (upTo 0 n) (B ++ [.lst []]) = .ok (.ref B.length) (B ++ E) ∧ ListsAt B.length (B ++ E) B.length (startF n) := by
  refine lcL_lists (upTo 0 n) (startF n) B (by rw [upTo_len]; simp [startF]) (by rw [upTo_len]; exact hn) hst ?_
  intro j x L o E hx hL
  have hjn : j < n := by
    have := (List.getElem?_eq_some_iff.mp hx).1
    rwa [upTo_len] at this
  rw [upTo_range, List.getElem?_map, List.getElem?_range hjn] at hx
  simp at hx
  subst hx
  have : (startF n)[j]? = some [(j : Int)] := by simp [startF, hjn]
  rw [this] at hL
  cases hL
  refine ⟨_, (B ++ o :: E).length, [.lst [.int (j : Nat)]], rfl, ?_, ?_, by simp⟩
  · rw [dLst_ap, aCons_ap, hv]
    simp
  · have : B ++ o :: (E ++ [VO.lst [.int (j : Nat)]]) = (B ++ o :: E) ++ [VO.lst [.int (j : Nat)]] := by simp
    rw [this, List.getElem?_concat_length]
    rfl
theorem oMul_by1 {G : Hv} {a : Nat} {rs : List VV} (h : G[a]? = some (.lst rs)) (hl : rs.length < 1000) : oMul (.ref a) (.int 1) G = some (.ref G.length, G ++ [.lst rs]) := by
  unfold oMul
  simp only [h]
  rw [if_pos ⟨by decide, by decide, by show rs.length * 1 ≤ 16777216; omega⟩]
  show some (newL G (repL rs 1)) = _
  simp [repL, newL]
abbrev B_app (G : Hv) (o : VO) (E E' : Hv) : Prop := G ++ o :: (E ++ E') = (G ++ o :: E) ++ E'
theorem held_on_eq {G : Hv} {pr : Nat} {ls rs : List VV} {is : List Int} (hl : ∀ l ∈ ls, l ∈ allLays) (h4 : ls.length ≤ 4) (hp : G[pr]? = some (.lst rs)) (hrs : PartsAt G ls rs) (hlen : is.length < 1000) (h60 : absSum is ≤ 60) :
    ∃ r E, f_held_on [.ref pr, .tup (is.map VV.int), .int 1] G = .ok (.ref r) (G ++ E) ∧ ListsAt G.length (G ++ E) r (heldF ls (cells is 0 0)) := by
  have hCl := cells_len is 0 0
  have tb := fun {G : Hv} {q : Nat} {l : VV} (hl : l ∈ allLays) (hq : G[q]? = some (partV l)) => taken_by_eq hl hq hlen h60
  generalize cells is 0 0 = C at hCl tb
  have hC : C.length ≤ 60 := by omega
  -- the steps
  obtain ⟨E1, e1, hT⟩ := lcL_objs (chk := [(pr, .lst rs)]) (g := gName 4) (e := dCall f_taken_by (aCons (dVar 4) (aCons (dVar 1) (aNil)))) (vs := [4])
    (S0 := [some (.ref pr), some (.tup (is.map VV.int)), some (.int 1), none, none, none, none, none, none, none, none, none]) rs (ls.map fun l => takenL l C) G (by rw [List.length_map, hrs.1]) (by have := hrs.1; omega) (fun o E => by simp [stays, keepA (o :: E) hp]) (by
    intro j x T o E hx hL
    rw [List.getElem?_map] at hL
    cases hlj : ls[j]? with
    | none => rw [hlj] at hL; cases hL
    | some l =>
      rw [hlj] at hL
      cases hL
      obtain ⟨q, hq1, hq2⟩ := hrs.2 j l hlj
      rw [hx] at hq1
      cases hq1
      obtain ⟨r, E', e, hr⟩ := tb (hl l (List.mem_of_getElem? hlj)) (keepA (o :: E) hq2)
      refine ⟨[some (.ref pr), some (.tup (is.map VV.int)), some (.int 1), none, some (.ref q), none, none, none, none, none, none, none], r, E', by simp, ?_, ?_⟩
      · simp [e]
      · have : B_app G o E E' := by unfold B_app; simp
        rw [this]
        exact hr.low (by simp))
  obtain ⟨_, rT, hr1, hr2, hr3⟩ := hT
  rw [List.length_map] at hr2
  -- the numbers of places
  have mu := lcL_map (chk := []) (g := gName 7) (e := dB bAbs (aCons (dVar 7) (aNil))) (vs := [7]) (S0 := [some (.ref pr), some (.tup (is.map VV.int)), some (.int 1), some (.ref G.length), none, none, none, none, none, none, none, none]) (f := absV) (is.map VV.int) (G ++ E1) rfl (fun _ => rfl) (by rw [List.length_map]; show _ < 16777216; omega) (by
    intro x o hx
    obtain ⟨i, _, rfl⟩ := List.mem_map.mp hx
    exact ⟨[some (.ref pr), some (.tup (is.map VV.int)), some (.int 1), some (.ref G.length), none, none, none, some (.int i), none, none, none, none], by simp, by simp [bAbs, absV]⟩)
  have bs : bSum [.ref (G ++ E1).length] ((G ++ E1) ++ [.lst ((is.map VV.int).map absV)]) = some (.int C.length, (G ++ E1) ++ [.lst ((is.map VV.int).map absV)]) := by
    unfold bSum
    simp only [asListR, List.getElem?_concat_length, asInts_abs]
    have : (is.map fun i => if i < 0 then -i else i).sum = (C.length : Int) := by rw [hCl]; rfl
    simp [this]
  generalize hG2 : (G ++ E1) ++ [VO.lst ((is.map VV.int).map absV)] = G2 at mu bs
  have k2 : ∀ i o, (G ++ E1)[i]? = some o → G2[i]? = some o := fun i o h => by rw [← hG2]; exact keepA _ h
  have l2 : G.length ≤ G2.length := by rw [← hG2, List.length_append, List.length_append]; omega
  obtain ⟨E2, e2, hF0⟩ := lcL_start (S0 := [some (.ref pr), some (.tup (is.map VV.int)), some (.int 1), some (.ref G.length), none, none, none, none, none, none, none, none]) (i := 6) (chk := []) C.length G2 (by omega) (fun _ _ => rfl) [6] (fun x => rfl)
  have k3 : ∀ i o, G2[i]? = some o → (G2 ++ E2)[i]? = some o := fun i o h => keepA _ h
  have hst3 := k3 _ _ (k2 _ _ hr1)
  have mul := oMul_by1 hst3 (by omega)
  have hmid : mid (C.length : Int) = true := mid_of (by omega)
  have k4 : ∀ i o, (G2 ++ E2)[i]? = some o → (G2 ++ E2 ++ [VO.lst rT])[i]? = some o := fun i o h => keepA _ h
  -- the loop
  obtain ⟨S', G', e, u, f, E, hS, hk, hG', hf⟩ := forL_invC (chk := [((G2 ++ E2).length, .lst rT)]) (g := gName 8) (b := sSet 5 (dLc [11] (iSeq (dVar 8)) (gName 11) (tYes) (dSortSet (dLc2 [9, 10] [10] (iSeq (dVar 11)) (gName 9) (tYes) (iSeq (dIx (dVar 5) (dVar 9))) (gName 10) (tYes) (dVar 10)))))
    (fun j S G' => ∃ (u : Option VV) (f : Nat) (E : Hv), S = [some (.ref pr), some (.tup (is.map VV.int)), some (.int 1), some (.ref G.length), none, some (.ref f), none, none, u, none, none, none] ∧ (∀ i o, (G2 ++ E2 ++ [VO.lst rT])[i]? = some o → G'[i]? = some o) ∧ G' = G ++ E ∧ ListsAt G.length G' f ((ls.take j).foldl (fun F l => stepF (takenL l C) F) (startF C.length)))
    (fun i S G' h => by
      obtain ⟨_, _, _, _, h, _⟩ := h
      have h1 := h _ _ (List.getElem?_concat_length : (G2 ++ E2 ++ [VO.lst rT])[(G2 ++ E2).length]? = some (.lst rT))
      simp only [stays, h1, decide_true, Bool.and_true]) rT 0 [some (.ref pr), some (.tup (is.map VV.int)), some (.int 1), some (.ref G.length), none, some (.ref G2.length), none, none, none, none, none, none] (G2 ++ E2 ++ [VO.lst rT])
    ⟨none, G2.length, E1 ++ ([VO.lst ((is.map VV.int).map absV)] ++ (E2 ++ [VO.lst rT])), rfl, fun _ _ h => h, by rw [← hG2]; simp, by simpa using (hF0.low l2).more [VO.lst rT]⟩ (by
    rintro j S G' x hx _ ⟨u, f, E, rfl, hk, rfl, hf⟩
    rw [Nat.sub_zero] at hx
    have hjl : j < ls.length := by have := (List.getElem?_eq_some_iff.mp hx).1; omega
    have hlj := List.getElem?_eq_getElem hjl
    obtain ⟨q, hq1, hq2⟩ := hr3 j (takenL ls[j] C) (by rw [List.getElem?_map, hlj]; rfl)
    rw [hx] at hq1
    cases hq1
    have hq3 : ListsAt G.length (G ++ E) q (takenL ls[j] C) := hq2.keep fun i o _ h => hk i o (k4 i o (k3 i o (k2 i o h)))
    have hgF : GoodF C.length ((ls.take j).foldl (fun F l => stepF (takenL l C) F) (startF C.length)) := goodF_held (ls.take j) C
    obtain ⟨E3, e3, h3⟩ := held_step (S0 := [some (.ref pr), some (.tup (is.map VV.int)), some (.int 1), some (.ref G.length), none, some (.ref f), none, none, some (.ref q), none, none, none]) hC (takenL_len ls[j] C) (takenL_in ls[j] C) hgF (hf.low (Nat.zero_le _)) (hq3.low (Nat.zero_le _))
      (fun x => [some (.ref pr), some (.tup (is.map VV.int)), some (.int 1), some (.ref G.length), none, some (.ref f), none, none, some (.ref q), none, none, some x]) (fun x => ⟨rfl, rfl⟩) (fun x z => ⟨rfl, rfl⟩) (fun x z y => rfl) rfl
    refine ⟨[some (.ref pr), some (.tup (is.map VV.int)), some (.int 1), some (.ref G.length), none, some (.ref f), none, none, some (.ref q), none, none, none], G ++ E, [some (.ref pr), some (.tup (is.map VV.int)), some (.int 1), some (.ref G.length), none, some (.ref (G ++ E).length), none, none, some (.ref q), none, none, none], G ++ E ++ E3, by simp, ?_, some (.ref q), (G ++ E).length, E ++ E3, rfl, fun i o h => keepA _ (hk i o h), by simp, ?_⟩
    · unfold sSet
      rw [sAsg_ap, e3, R.st_ok]
      rfl
    · rw [List.take_succ, hlj, List.foldl_append]
      exact h3.low (by simp))
  rw [Nat.zero_add, hr2, List.take_length] at hf
  subst hS hG'
  refine ⟨f, E, ?_, hf⟩
  unfold f_held_on
  rw [dDef_ref (k := 3) rfl (by simp)]
  have run : b_held_on [some (.ref pr), some (.tup (is.map VV.int)), some (.int 1), none, none, none, none, none, none, none, none, none] G = .rt (.ref f) (G ++ E) := by
    have sq1 : seqOf G (.ref pr) = some (rs, [(pr, .lst rs)]) := by simp only [seqOf, hp]
    have sq2 : seqOf (G2 ++ E2 ++ [VO.lst rT]) (.ref (G2 ++ E2).length) = some (rT, [((G2 ++ E2).length, .lst rT)]) := by simp only [seqOf, List.getElem?_concat_length]
    unfold b_held_on
    rw [dSeq_ap]
    have s1 : sSet 3 (dLc [4] (iSeq (dVar 0)) (gName 4) (tYes) (dCall f_taken_by (aCons (dVar 4) (aCons (dVar 1) (aNil))))) [some (.ref pr), some (.tup (is.map VV.int)), some (.int 1), none, none, none, none, none, none, none, none, none] G = .nx [some (.ref pr), some (.tup (is.map VV.int)), some (.int 1), some (.ref G.length), none, none, none, none, none, none, none, none] (G ++ E1) := by
      simp [sq1, wipe, e1]
    have s2 : sSet 5 (dLc [6] (iRange1 (aCons (dB bSum (aCons (dLc [7] (iSeq (dVar 1)) (gName 7) (tYes) (dB bAbs (aCons (dVar 7) (aNil)))) (aNil))) (aNil))) (gName 6) (tYes) (dLst (aCons (dVar 6) (aNil)))) [some (.ref pr), some (.tup (is.map VV.int)), some (.int 1), some (.ref G.length), none, none, none, none, none, none, none, none] (G ++ E1) = .nx [some (.ref pr), some (.tup (is.map VV.int)), some (.int 1), some (.ref G.length), none, some (.ref G2.length), none, none, none, none, none, none] (G2 ++ E2) := by
      have sq3 : ∀ G, seqOf G (.tup (is.map VV.int)) = some (is.map VV.int, []) := fun _ => rfl
      have in1 : dB bSum (aCons (dLc [7] (iSeq (dVar 1)) (gName 7) (tYes) (dB bAbs (aCons (dVar 7) (aNil)))) (aNil)) [some (.ref pr), some (.tup (is.map VV.int)), some (.int 1), some (.ref G.length), none, none, none, none, none, none, none, none] (G ++ E1) = .ok (.int C.length) G2 := by
        rw [dB_ap, aCons_ap, dLc_ap, iSeq_ap]
        simp only [dVar_ap, List.getElem?_cons_succ, List.getElem?_cons_zero, R.bind_ok, sq3, ofP_some]
        show ((lcL [] _ _ _ [7] [some (.ref pr), some (.tup (is.map VV.int)), some (.int 1), some (.ref G.length), none, none, none, none, none, none, none, none] (G ++ E1).length _ _).bind _).bind _ = _
        rw [mu]
        simp only [R.bind_ok, aNil_ap, bs, ofO_some]
      unfold sSet
      rw [sAsg_ap, dLc_ap, iRange1_ap, aCons_ap, in1]
      simp only [R.bind_ok, aNil_ap, rangeOf1, hmid, if_true, ofP_some, Int.toNat_natCast]
      show ((lcL [] _ _ _ [6] [some (.ref pr), some (.tup (is.map VV.int)), some (.int 1), some (.ref G.length), none, none, none, none, none, none, none, none] G2.length _ _).st _ _) = _
      rw [e2]
      rfl
    rw [s1, thn_nx, dSeq_ap, s2, thn_nx, dSeq_ap, sFor_ap]
    have s3 : iSeq (dBin oMul (dVar 3) (dVar 2)) [some (.ref pr), some (.tup (is.map VV.int)), some (.int 1), some (.ref G.length), none, some (.ref G2.length), none, none, none, none, none, none] (G2 ++ E2) = .ok (rT, [((G2 ++ E2).length, .lst rT)]) (G2 ++ E2 ++ [VO.lst rT]) := by
      rw [iSeq_ap, dBin_ap]
      simp only [dVar_ap, List.getElem?_cons_succ, List.getElem?_cons_zero, R.bind_ok, mul, ofO_some, sq2, ofP_some]
    rw [s3, R.st_ok]
    simp only
    rw [e]
    simp
  show gcR G (outR (b_held_on [some (.ref pr), some (.tup (is.map VV.int)), some (.int 1), none, none, none, none, none, none, none, none, none] G)) = _
  rw [run]
  unfold gcR
  have hfg : G.length ≤ f := hf.1
  have : closedV G.length (.ref f) = false := by simp; exact hfg
  simp only [outR_rt, this, Bool.false_and]
  simp
end DL
end S_M70
section S_N70
set_option linter.all false
set_option maxRecDepth 1000000
set_option maxHeartbeats 4000000
/-! N70: what the law holds. -/
namespace DL
theorem or_run {G : Hv} {f qq n : Nat} {M : List Int} {all : List VV} {a0 a2 a3 : Option VV} (hf : G[f]? = some (.lst (M.map VV.int))) (hM : ∀ z : Nat, z < n → 0 ≤ (M[z]?).getD 0) (hl : M.length = n) (hst : stays G [(qq, .lst all)] = true) : ∀ (zs : List Int) (w : Nat) (u : Option VV), InC n zs →
    ∃ u', forL [(qq, .lst all)] (gName 5) (sAsg (dBin oBor (dVar 4) (dIx (dVar 1) (dVar 5))) (gName 4)) (zs.map VV.int) [a0, some (.ref f), a2, a3, some (.int (w : Nat)), u] G = .nx [a0, some (.ref f), a2, a3, some (.int ((orM M zs w : Nat) : Int)), u'] G
  | [], w, u, _ => ⟨u, by simp [forL, hst, orM]⟩
  | z :: zs, w, u, hz => by
    have hz0 := hz z (by simp)
    have hzl : z.toNat < M.length := by omega
    have hm := hM z.toNat (by omega)
    have ix : oIx G (.ref f) (.int z) = some (.int ((M[z.toNat]?).getD 0)) := by
      have := ix_seq (i := z.toNat) (x := .int ((M[z.toNat]?).getD 0)) hf (by rw [List.getElem?_map, List.getElem?_eq_getElem hzl]; rfl)
      rwa [Int.toNat_of_nonneg hz0.1] at this
    have bo : oBor (.int (w : Nat)) (.int ((M[z.toNat]?).getD 0)) G = some (.int ((w ||| ((M[z.toNat]?).getD 0).toNat : Nat) : Int), G) := by
      unfold oBor
      simp only
      rw [if_pos ⟨Int.natCast_nonneg _, hm⟩, Int.toNat_natCast]
    obtain ⟨u', e⟩ := or_run (a0 := a0) (a2 := a2) (a3 := a3) hf hM hl hst zs (w ||| ((M[z.toNat]?).getD 0).toNat) (some (.int z)) (fun k hk => hz k (List.mem_cons_of_mem _ hk))
    refine ⟨u', ?_⟩
    rw [List.map_cons]
    simp only [forL, hst, if_true, gName_ap, gRun_nx, sAsg_ap, dBin_ap, dIx_ap, dVar_ap, List.set_cons_succ, List.set_cons_zero, List.getElem?_cons_succ, List.getElem?_cons_zero, R.bind_ok, ix, ofP_some, bo, ofO_some, R.st_ok]
    exact e
theorem through_eq {G : Hv} {q f n : Nat} {T : List (List Int)} {M : List Int} (hn : n < 1000) (hT : T.length = n) (hin : ∀ zs ∈ T, InC n zs) (hq : ListsAt 0 G q T) (hf : G[f]? = some (.lst (M.map VV.int))) (hM : ∀ z : Nat, z < n → 0 ≤ (M[z]?).getD 0) (hl : M.length = n) :
    f__law_through [.ref q, .ref f] G = .ok (.ref G.length) (G ++ [.lst ((stepM T M).map VV.int)]) := by
  obtain ⟨_, rs, hr, hrl, hrs⟩ := hq
  have keep : ∀ o : VO, (G ++ [o])[q]? = some (.lst rs) := fun o => keepA [o] hr
  obtain ⟨S', G', e, u3, u4, u5, hS, hG⟩ := forL_invC (chk := [(q, .lst rs)]) (g := gName 3) (b := dSeq (sAsg (dC (.int 0)) (gName 4)) (
      dSeq (sFor (iSeq (dVar 3)) (gName 5) (sAsg (dBin oBor (dVar 4) (dIx (dVar 1) (dVar 5))) (gName 4))) (
      dExpr (dM .lst mAppend (dVar 2) (aCons (dVar 4) (aNil))))))
    (fun j S G' => ∃ u3 u4 u5, S = [some (.ref q), some (.ref f), some (.ref G.length), u3, u4, u5] ∧ G' = G ++ [.lst (((stepM T M).take j).map VV.int)]) (fun i S G' h => by
      obtain ⟨_, _, _, _, rfl⟩ := h
      simp only [stays, keep, decide_true, Bool.and_true]) rs 0 [some (.ref q), some (.ref f), some (.ref G.length), none, none, none] (G ++ [.lst []]) ⟨none, none, none, rfl, rfl⟩ (by
    rintro j S G' x hx _ ⟨u3, u4, u5, rfl, rfl⟩
    rw [Nat.sub_zero] at hx
    have hjT : j < T.length := by have := (List.getElem?_eq_some_iff.mp hx).1; omega
    have hTj := List.getElem?_eq_getElem hjT
    have hTm := hin _ (List.getElem_mem hjT)
    obtain ⟨qq, hq1, _, hq2⟩ := hrs _ _ hTj
    rw [hx] at hq1
    cases hq1
    generalize T[j] = zs at hTj hTm hq2
    generalize hacc : ((stepM T M).take j).map VV.int = acc
    have hal : acc.length < 16777216 := by
      rw [← hacc, List.length_map, List.length_take]
      omega
    have hq3 := keepA [VO.lst acc] hq2
    obtain ⟨u', er⟩ := or_run (qq := qq) (all := zs.map VV.int) (a0 := some (.ref q)) (a2 := some (.ref G.length)) (a3 := some (.ref qq)) (keepA [VO.lst acc] hf) hM hl (by simp only [stays, hq3, decide_true, Bool.and_true]) zs 0 u5 hTm
    have sq : seqOf (G ++ [VO.lst acc]) (.ref qq) = some (zs.map VV.int, [(qq, .lst (zs.map VV.int))]) := by simp only [seqOf, hq3]
    refine ⟨[some (.ref q), some (.ref f), some (.ref G.length), some (.ref qq), u4, u5], G ++ [.lst acc], [some (.ref q), some (.ref f), some (.ref G.length), some (.ref qq), some (.int ((orM M zs 0 : Nat) : Int)), u'], G ++ [.lst (acc ++ [.int ((orM M zs 0 : Nat) : Int)])], by simp, ?_, _, _, _, rfl, ?_⟩
    · have er' : forL [(qq, .lst (zs.map VV.int))] (gName 5) (sAsg (dBin oBor (dVar 4) (dIx (dVar 1) (dVar 5))) (gName 4)) (zs.map VV.int) [some (.ref q), some (.ref f), some (.ref G.length), some (.ref qq), some (.int 0), u5] (G ++ [VO.lst acc]) = _ := er
      simp [sq]
      rw [er']
      simp [isRt, mAppend, hal]
    · rw [List.take_succ, show (stepM T M)[j]? = some ((orM M zs 0 : Nat) : Int) by simp [stepM, hTj]]
      rw [List.map_append, hacc]
      rfl)
  have hTl : (stepM T M).length = rs.length := by rw [hrl]; simp [stepM]
  rw [Nat.zero_add, ← hTl, List.take_length] at hG
  subst hS hG
  unfold f__law_through
  rw [dDef_ref (k := 2) rfl (by simp)]
  have run : b__law_through [some (.ref q), some (.ref f), none, none, none, none] G = .rt (.ref G.length) (G ++ [.lst ((stepM T M).map VV.int)]) := by
    have sq : seqOf (G ++ [VO.lst []]) (.ref q) = some (rs, [(q, .lst rs)]) := by simp only [seqOf, keep]
    simp [b__law_through, sq]
    rw [e]
    simp
  show gcR G (outR (b__law_through [some (.ref q), some (.ref f), none, none, none, none] G)) = _
  rw [run]
  unfold gcR
  have : closedV G.length (.ref G.length) = false := by simp
  simp only [outR_rt, this, Bool.false_and]
  simp
theorem law_held_eq {G : Hv} {lr tr : Nat} {ls : List VV} {C : List Cell} (hR : Rows C) (hl : ∀ l ∈ ls, l ∈ allLays) (h4 : ls.length ≤ 4) (hC : C.length < 1000) (hp : G[lr]? = some (.lst ls)) (ht : G[tr]? = some (.lst (C.map cT))) :
    ∃ r E, f__law_held [.ref lr, .ref tr, .int 1] G = .ok (.ref r) (G ++ E) ∧ G.length ≤ r ∧ (G ++ E)[r]? = some (.lst ((heldM ls C).map VV.int)) := by
  have bl : bLen [.ref tr] G = some (.int C.length, G) := by simp [asListR, ht]
  have hmid : mid (C.length : Int) = true := mid_of (by omega)
  -- found
  have m1 := lcL_map (chk := []) (g := gName 4) (e := dBin oShl (dC (.int 1)) (dVar 4)) (vs := [4]) (S0 := [some (.ref lr), some (.ref tr), some (.int 1), none, none, none, none, none]) (f := fun x => match x with | .int i => .int ((2 ^ i.toNat : Nat) : Int) | v => v) (upTo 0 C.length) G rfl (fun _ => rfl) (by rw [upTo_len]; show _ < 16777216; omega) (by
    intro x o hx
    rw [upTo_range] at hx
    obtain ⟨i, hi, rfl⟩ := List.mem_map.mp hx
    have hi' := List.mem_range.mp hi
    refine ⟨[some (.ref lr), some (.ref tr), some (.int 1), none, some (.int (0 + (i : Nat))), none, none, none], by simp, ?_⟩
    have os : oShl (.int 1) (.int (0 + (i : Nat))) (G ++ [o]) = some (.int ((2 ^ i : Nat) : Int), G ++ [o]) := by
      unfold oShl
      simp only
      rw [if_pos ⟨by decide, by omega, Nat.ble_eq_true_of_le (by omega)⟩]
      simp
    simp at os
    simp [os])
  have hm : (upTo 0 C.length).map (fun x => match x with | .int i => VV.int ((2 ^ i.toNat : Nat) : Int) | v => v) = (startM C.length).map VV.int := by
    rw [upTo_range, startM, List.map_map, List.map_map]
    apply List.map_congr_left
    intro k _
    simp
  rw [hm] at m1
  -- steps
  obtain ⟨E1, e1, hT⟩ := lcL_objs (chk := [(lr, .lst ls)]) (g := gName 6) (e := dCall f__law_step (aCons (dVar 6) (aCons (dVar 1) (aNil)))) (vs := [6])
    (S0 := [some (.ref lr), some (.ref tr), some (.int 1), some (.ref G.length), none, none, none, none]) ls (ls.map fun l => takenL l C) (G ++ [.lst ((startM C.length).map VV.int)]) (by rw [List.length_map]) (by omega) (fun o E => by simp only [stays, keepA (o :: E) (keepA [VO.lst ((startM C.length).map VV.int)] hp), decide_true, Bool.and_true]) (by
    intro j x T o E hx hL
    rw [List.getElem?_map, hx] at hL
    cases hL
    obtain ⟨r, E', e, hr⟩ := law_step_eq (hl x (List.mem_of_getElem? hx)) hR hC (keepA (o :: E) (keepA [VO.lst ((startM C.length).map VV.int)] ht))
    refine ⟨[some (.ref lr), some (.ref tr), some (.int 1), some (.ref G.length), none, none, some x, none], r, E', by simp, ?_, ?_⟩
    · simp at e
      simp [e]
    · have : B_app (G ++ [VO.lst ((startM C.length).map VV.int)]) o E E' := by unfold B_app; simp
      rw [this]
      exact hr.low (by simp; omega))
  generalize hG1 : G ++ [VO.lst ((startM C.length).map VV.int)] = G1 at m1 e1 hT
  have kG1 : ∀ i o, G[i]? = some o → G1[i]? = some o := fun i o h => by rw [← hG1]; exact keepA _ h
  have hf0 : (G1 ++ E1)[G.length]? = some (.lst ((startM C.length).map VV.int)) := by rw [← hG1]; exact keepA _ (by simp)
  have lG1 : G1.length = G.length + 1 := by rw [← hG1]; simp
  obtain ⟨_, rT, hr1, hr2, hr3⟩ := hT
  rw [List.length_map] at hr2
  have mul := oMul_by1 hr1 (by omega)
  obtain ⟨S', G', e, u, f, E, hS, hk, hG', hfl, hf⟩ := forL_invC (chk := [((G1 ++ E1).length, .lst rT)]) (g := gName 7) (b := sAsg (dCall f__law_through (aCons (dVar 7) (aCons (dVar 3) (aNil)))) (gName 3))
    (fun j S G' => ∃ (u : Option VV) (f : Nat) (E : Hv), S = [some (.ref lr), some (.ref tr), some (.int 1), some (.ref f), none, some (.ref G1.length), none, u] ∧ (∀ i o, (G1 ++ E1 ++ [VO.lst rT])[i]? = some o → G'[i]? = some o) ∧ G' = G ++ E ∧ G.length ≤ f ∧ G'[f]? = some (.lst (((ls.take j).foldl (fun M l => stepM (takenL l C) M) (startM C.length)).map VV.int)))
    (fun i S G' h => by
      obtain ⟨_, _, _, _, h, _⟩ := h
      have h1 := h _ _ (List.getElem?_concat_length : (G1 ++ E1 ++ [VO.lst rT])[(G1 ++ E1).length]? = some (.lst rT))
      simp only [stays, h1, decide_true, Bool.and_true]) rT 0 [some (.ref lr), some (.ref tr), some (.int 1), some (.ref G.length), none, some (.ref G1.length), none, none] (G1 ++ E1 ++ [VO.lst rT])
    ⟨none, G.length, [VO.lst ((startM C.length).map VV.int)] ++ (E1 ++ [VO.lst rT]), rfl, fun _ _ h => h, by rw [← hG1]; simp, Nat.le_refl _, by simpa using keepA [VO.lst rT] hf0⟩ (by
    rintro j S G' x hx _ ⟨u, f, E, rfl, hk, rfl, hfl, hf⟩
    rw [Nat.sub_zero] at hx
    have hjl : j < ls.length := by have := (List.getElem?_eq_some_iff.mp hx).1; omega
    have hlj := List.getElem?_eq_getElem hjl
    obtain ⟨q, hq1, hq2⟩ := hr3 j (takenL ls[j] C) (by rw [List.getElem?_map, hlj]; rfl)
    rw [hx] at hq1
    cases hq1
    have hq3 : ListsAt G1.length (G ++ E) q (takenL ls[j] C) := hq2.keep fun i o _ h => hk i o (keepA _ h)
    have hgF : Tell C.length _ ((ls.take j).foldl (fun M l => stepM (takenL l C) M) (startM C.length)) := tell_held (ls.take j) C
    have th := through_eq hC (takenL_len ls[j] C) (fun zs hz => (takenL_in ls[j] C zs hz).1) (hq3.low (Nat.zero_le _)) hf (fun z hz => (hgF.ok z hz).1) hgF.lm
    refine ⟨[some (.ref lr), some (.ref tr), some (.int 1), some (.ref f), none, some (.ref G1.length), none, some (.ref q)], G ++ E, [some (.ref lr), some (.ref tr), some (.int 1), some (.ref (G ++ E).length), none, some (.ref G1.length), none, some (.ref q)], G ++ E ++ [.lst ((stepM (takenL ls[j] C) ((ls.take j).foldl (fun M l => stepM (takenL l C) M) (startM C.length))).map VV.int)], by simp, ?_, some (.ref q), (G ++ E).length, E ++ [.lst ((stepM (takenL ls[j] C) ((ls.take j).foldl (fun M l => stepM (takenL l C) M) (startM C.length))).map VV.int)], rfl, fun i o h => keepA _ (hk i o h), by simp, by simp, ?_⟩
    · rw [sAsg_ap, dCall_ap, aCons_ap]
      simp only [dVar_ap, List.getElem?_cons_succ, List.getElem?_cons_zero, R.bind_ok, aCons_ap, aNil_ap, th, R.st_ok, gName_ap, gRun_nx]
      rfl
    · rw [List.take_succ, hlj, List.foldl_append, List.getElem?_concat_length]
      rfl)
  rw [Nat.zero_add, hr2, List.take_length] at hf
  subst hS hG'
  refine ⟨f, E, ?_, hfl, hf⟩
  unfold f__law_held
  rw [dDef_ref (k := 3) rfl (by simp)]
  have run : b__law_held [some (.ref lr), some (.ref tr), some (.int 1), none, none, none, none, none] G = .rt (.ref f) (G ++ E) := by
    have sq1 : seqOf G1 (.ref lr) = some (ls, [(lr, .lst ls)]) := by simp only [seqOf, kG1 _ _ hp]
    have sq2 : seqOf (G1 ++ E1 ++ [VO.lst rT]) (.ref (G1 ++ E1).length) = some (rT, [((G1 ++ E1).length, .lst rT)]) := by simp only [seqOf, List.getElem?_concat_length]
    unfold b__law_held
    rw [dSeq_ap]
    have s1 : sSet 3 (dLc [4] (iRange1 (aCons (dB bLen (aCons (dVar 1) (aNil))) (aNil))) (gName 4) (tYes) (dBin oShl (dC (.int 1)) (dVar 4))) [some (.ref lr), some (.ref tr), some (.int 1), none, none, none, none, none] G = .nx [some (.ref lr), some (.ref tr), some (.int 1), some (.ref G.length), none, none, none, none] G1 := by
      simp [-bLen_ref, bl, rangeOf1, hmid, wipe, m1]
    have s2 : sSet 5 (dLc [6] (iSeq (dVar 0)) (gName 6) (tYes) (dCall f__law_step (aCons (dVar 6) (aCons (dVar 1) (aNil))))) [some (.ref lr), some (.ref tr), some (.int 1), some (.ref G.length), none, none, none, none] G1 = .nx [some (.ref lr), some (.ref tr), some (.int 1), some (.ref G.length), none, some (.ref G1.length), none, none] (G1 ++ E1) := by
      simp [sq1, wipe, e1]
    rw [s1, thn_nx, dSeq_ap, s2, thn_nx, dSeq_ap, sFor_ap]
    have s3 : iSeq (dBin oMul (dVar 5) (dVar 2)) [some (.ref lr), some (.ref tr), some (.int 1), some (.ref G.length), none, some (.ref G1.length), none, none] (G1 ++ E1) = .ok (rT, [((G1 ++ E1).length, .lst rT)]) (G1 ++ E1 ++ [VO.lst rT]) := by
      rw [iSeq_ap, dBin_ap]
      simp only [dVar_ap, List.getElem?_cons_succ, List.getElem?_cons_zero, R.bind_ok, mul, ofO_some, sq2, ofP_some]
    rw [s3, R.st_ok]
    simp only
    rw [e]
    simp
  show gcR G (outR (b__law_held [some (.ref lr), some (.ref tr), some (.int 1), none, none, none, none, none] G)) = _
  rw [run]
  unfold gcR
  have : closedV G.length (.ref f) = false := by simp; exact hfl
  simp only [outR_rt, this, Bool.false_and]
  simp
end DL
end S_N70
section S_O70
set_option linter.all false
set_option maxRecDepth 1000000
set_option maxHeartbeats 4000000
/-! O70: held; letters; rows. -/
namespace DL
/-- a def that only looks and ends without a return -/
theorem pure_anyN {k n : Nat} {b : DS} {vs : List VV} {G : Hv} (h : ∀ G', (closedL 0 vs = false → G' = G) → ∃ S E, b (start n vs) G' = .nx S (G' ++ E)) (hl : vs.length = k := by rfl) : dDef k n b vs G = .ok .non G := by
  by_cases c : closedL 0 vs = true
  · rw [dDef_val hl c]
    obtain ⟨S, E, e⟩ := h [] (fun q => by rw [c] at q; cases q)
    rw [e]
    show reloc G (gcR [] (.ok .non ([] ++ E))) = _
    rw [gc_pure (G := []) (by simp)]
    simp [reloc, shV_closed _]
  · have c' : closedL 0 vs = false := by simpa using c
    rw [dDef_ref hl c']
    obtain ⟨S, E, e⟩ := h G (fun _ => rfl)
    rw [e]
    exact gc_pure (by simp)
theorem check_program_eq {G : Hv} {q : Nat} {ls : List VV} (h : G[q]? = some (progV ls)) : f_check_program [.ref q] G = .ok .non G := by
  refine pure_anyN fun G' hG => ?_
  obtain rfl : G' = G := hG (by simp)
  exact ⟨_, [], by simp [b_check_program, start, isC, h]; rfl⟩
theorem is_line_ints {G : Hv} {is : List Int} (h : lineOk (.tup (is.map VV.int)) = true) (hlen : is.length < 1000) : f_is_line [.tup (is.map VV.int)] G = .ok (.bl true) G := by
  have := is_line_eq (G := G) (n := 1) (tm_ints G 0 is) (by decide) (fun xs hx => by cases hx; simpa using hlen)
  rw [this, h]
theorem check_line_eq {G : Hv} {is : List Int} (h : lineOk (.tup (is.map VV.int)) = true) (hlen : is.length < 1000) : f_check_line [.tup (is.map VV.int)] G = .ok .non G := by
  refine pure_anyN fun G' hG => ?_
  exact ⟨_, [], by simp [b_check_line, start, is_line_ints h hlen]; rfl⟩
theorem within_rounds (G : Hv) : f_is_within [.int 1, .int 1, c_MOST_ROUNDS] G = .ok (.bl true) G := by
  refine loc_val (by decide) ?_ (by simp) G
  rfl
theorem check_held_eq {G : Hv} {q : Nat} {ls : List VV} {is : List Int} (h : G[q]? = some (progV ls)) (hlo : lineOk (.tup (is.map VV.int)) = true) (hlen : is.length < 1000) : f_check_held [.ref q, .tup (is.map VV.int), .int 1] G = .ok .non G := by
  refine pure_anyN fun G' hG => ?_
  obtain rfl : G' = G := hG (by simp)
  exact ⟨_, [], by simp [b_check_held, start, check_program_eq h, check_line_eq hlo hlen, within_rounds]; rfl⟩
def holdV (Fs : List (List Int)) : VV := .tup (Fs.map fun L => .tup (L.map VV.int))
theorem closed_hold (n : Nat) (Fs : List (List Int)) : closedV n (holdV Fs) = true := by
  unfold holdV
  rw [closedV_tup]
  induction Fs with
  | nil => simp
  | cons L Fs ih => rw [List.map_cons, closedL_cons, closedV_tup, closedL_ints, ih]; rfl
theorem held_eq {G : Hv} {q : Nat} {ls : List VV} {is : List Int} (hl : ∀ l ∈ ls, l ∈ allLays) (h4 : ls.length ≤ 4) (h : G[q]? = some (progV ls)) (hlo : lineOk (.tup (is.map VV.int)) = true) (hlen : is.length < 1000) (h60 : absSum is ≤ 60) :
    f_held [.ref q, .tup (is.map VV.int), .int 1] G = .ok (holdV (heldF ls (cells is 0 0))) G := by
  refine pure_any (fun G' hG => ?_) (closed_hold 0 _)
  obtain rfl : G' = G := hG (by simp)
  obtain ⟨E1, rs, e1, hr, hps⟩ := parts_of_eq hl h4 h
  obtain ⟨r, E2, e2, _, rF, h2, h3, h5⟩ := held_on_eq hl h4 hr hps hlen h60
  have hC60 := cells_len is 0 0
  have hgl := (goodF_held ls (cells is 0 0)).len
  generalize heldF ls (cells is 0 0) = Fs at h3 h5 hgl
  generalize hG2 : G' ++ E1 ++ E2 = G2 at h2 h5 e2
  have m := lcL_map (chk := [(r, .lst rF)]) (g := gName 3) (e := dB bTuple (aCons (dVar 3) (aNil))) (vs := [3]) (S0 := [some (.ref q), some (.tup (is.map VV.int)), some (.int 1), none]) (f := fun x => match x with | .ref i => (match G2[i]? with | some (.lst xs) => .tup xs | _ => .non) | v => v) rF G2 rfl (fun o => by simp [stays, keepA [o] h2]) (by show _ < 16777216; omega) (by
    intro x o hx
    obtain ⟨j, hj⟩ := List.mem_iff_getElem?.mp hx
    have hjl := (List.getElem?_eq_some_iff.mp hj).1
    obtain ⟨qq, hq1, _, hq2⟩ := h5 j _ (List.getElem?_eq_getElem (show j < Fs.length by omega))
    rw [hj] at hq1
    cases hq1
    refine ⟨[some (.ref q), some (.tup (is.map VV.int)), some (.int 1), some (.ref qq)], by simp, ?_⟩
    simp [bTuple, asSeq, asListR, keepA [o] hq2, hq2])
  have hmap : rF.map (fun x => match x with | .ref i => (match G2[i]? with | some (.lst xs) => .tup xs | _ => .non) | v => v) = Fs.map fun L => VV.tup (L.map VV.int) := by
    refine List.ext_getElem? fun j => ?_
    rw [List.getElem?_map, List.getElem?_map]
    cases hF : Fs[j]? with
    | none =>
      have : rF[j]? = none := by
        rw [List.getElem?_eq_none_iff] at hF ⊢
        omega
      rw [this]; rfl
    | some L =>
      obtain ⟨qq, hq1, _, hq2⟩ := h5 j L hF
      rw [hq1]
      simp [hq2]
  rw [hmap] at m
  have sq : seqOf G2 (.ref r) = some (rF, [(r, .lst rF)]) := by simp only [seqOf, h2]
  refine ⟨E1 ++ (E2 ++ [.lst (Fs.map fun L => .tup (L.map VV.int))]), ?_⟩
  have hGG : G' ++ (E1 ++ (E2 ++ [VO.lst (Fs.map fun L => .tup (L.map VV.int))])) = G2 ++ [VO.lst (Fs.map fun L => .tup (L.map VV.int))] := by rw [← hG2]; simp
  rw [hGG]
  simp [b_held, start, check_held_eq h hlo hlen, e1, e2, sq, wipe, m, bTuple, asSeq, asListR]
  rfl
/-! letters -/
def lettersP (i : Int) : List Nat := if 0 < i then 98 :: List.replicate (i - 1).toNat 111 else List.replicate (-i).toNat 102
theorem letters_len {i : Int} : (lettersP i).length = i.natAbs := by
  unfold lettersP
  split
  · simp; omega
  · simp; omega
theorem joinS_lenN : ∀ ss : List (List Nat), (joinS [] ss).length = (ss.map List.length).sum
  | [] => rfl
  | [x] => by simp [joinS]
  | x :: y :: r => by rw [joinS, List.length_append, List.length_append, joinS_lenN (y :: r)]; simp
theorem letters_eq {G : Hv} {is : List Int} (hlo : lineOk (.tup (is.map VV.int)) = true) (hlen : is.length < 1000) (h60 : absSum is ≤ 60) : ∃ s : List Nat, (s.length : Int) = absSum is ∧ f_letters [.tup (is.map VV.int)] G = .ok (.str s) G := by
  have small : ∀ i ∈ is, i.natAbs ≤ 60 := fun i hi => by
    obtain ⟨k, hk⟩ := List.mem_iff_getElem?.mp hi
    have c5 := cells_len (is.take k) 0 0
    have c6 := absSum_take is (k + 1)
    have : absSum (is.take (k + 1)) = absSum (is.take k) + ab i := by
      unfold absSum
      rw [List.take_succ, hk]
      simp [ab]
    rw [ab_nat] at this
    omega
  have hsum : ∀ is : List Int, (((is.map lettersP).map List.length).sum : Int) = absSum is := fun is => by
    induction is with
    | nil => simp [absSum]
    | cons x xs ih =>
      rw [absSum_cons, ab_nat, List.map_cons, List.map_cons, List.sum_cons, letters_len]
      push_cast
      rw [ih]
  refine ⟨joinS [] (is.map lettersP), by rw [joinS_lenN]; exact hsum is, ?_⟩
  refine pure_any (fun G' _ => ?_) (by simp)
  have m := lcL_map (chk := []) (g := gName 1) (e := dIf (tV (dCmp cGt (dVar 1) (dC (.int 0)))) (dBin oAdd (dC (.str [98])) (dBin oMulS (dC (.str [111])) (dBin oSub (dVar 1) (dC (.int 1))))) (dBin oMulS (dC (.str [102])) (dUn oNeg (dVar 1)))) (vs := [1]) (S0 := [some (.tup (is.map VV.int)), none]) (f := fun x => match x with | .int i => .str (lettersP i) | v => v) (is.map VV.int) G' rfl (fun _ => rfl) (by rw [List.length_map]; show _ < 16777216; omega) (by
    intro x o hx
    obtain ⟨i, hi, rfl⟩ := List.mem_map.mp hx
    have hs := small i hi
    refine ⟨[some (.tup (is.map VV.int)), some (.int i)], by simp, ?_⟩
    by_cases h0 : 0 < i
    · have o1 : oMulS (.str [111]) (.int (i - 1)) = fun G => some (.str (List.replicate (i - 1).toNat 111), G) := by
        funext G
        unfold oMulS
        simp only
        rw [if_pos (Nat.ble_eq_true_of_le (by omega))]
      have o2 : ∀ G, oAdd (.str [98]) (.str (List.replicate (i - 1).toNat 111)) G = some (.str (98 :: List.replicate (i - 1).toNat 111), G) := fun G => by
        unfold oAdd
        simp only
        rw [if_pos (by rw [List.length_replicate]; show 1 + _ ≤ 16777216; omega)]
        rfl
      have e1 : (i - 1).toNat = i.toNat - 1 := by omega
      rw [e1] at o1 o2
      simp [h0, o1, o2, lettersP]
    · have o1 : oMulS (.str [102]) (.int (-i)) = fun G => some (.str (List.replicate (-i).toNat 102), G) := by
        funext G
        unfold oMulS
        simp only
        rw [if_pos (Nat.ble_eq_true_of_le (by omega))]
      simp [h0, o1, lettersP])
  have hm : (is.map VV.int).map (fun x => match x with | .int i => VV.str (lettersP i) | v => v) = (is.map lettersP).map VV.str := by
    rw [List.map_map, List.map_map]
    apply List.map_congr_left
    intro i _
    rfl
  rw [hm] at m
  have jr : mJoin (.str []) [.ref G'.length] (G' ++ [.lst ((is.map lettersP).map VV.str)]) = some (.str (joinS [] (is.map lettersP)), G' ++ [.lst ((is.map lettersP).map VV.str)]) := by
    unfold mJoin
    simp only [asSeq, asListR, List.getElem?_concat_length, asStrs_map]
    rw [if_pos]
    have := hsum is
    show _ ≤ 16777216
    simp at this ⊢
    omega
  refine ⟨[.lst ((is.map lettersP).map VV.str)], ?_⟩
  simp only [b_letters, start]
  simp [-List.map_map, check_line_eq hlo hlen, seqOf, wipe, m, isRt, jr]
/-! rows -/
def rowsP : List Int → Int → List (Int × Int)
  | [], _ => []
  | x :: xs, b => if 0 < x then (b, b + ab x - 1) :: rowsP xs (b + ab x) else rowsP xs (b + ab x)
def pairV (p : Int × Int) : VV := .tup [.int p.1, .int p.2]
theorem rowsP_take (is : List Int) (b : Int) (k : Nat) (x : Int) (h : is[k]? = some x) : rowsP (is.take (k + 1)) b = rowsP (is.take k) b ++ (if 0 < x then [(begAt is b k, begAt is b k + ab x - 1)] else []) := by
  induction is generalizing b k with
  | nil => simp at h
  | cons y is ih =>
    cases k with
    | zero =>
      simp at h
      subst h
      have e : begAt (y :: is) b 0 = b := by simp [begAt, absSum]
      rw [e]
      by_cases h0 : 0 < y <;> simp [rowsP, h0]
    | succ k =>
      have := ih (b + ab y) k (by simpa using h)
      have e : begAt is (b + ab y) k = begAt (y :: is) b (k + 1) := by
        unfold begAt
        rw [List.take_succ_cons, absSum_cons]
        omega
      rw [List.take_succ_cons, List.take_succ_cons, rowsP, rowsP, this, e]
      by_cases h0 : 0 < y <;> simp [h0]
theorem rowsP_len (is : List Int) (b : Int) : (rowsP is b).length ≤ is.length := by
  induction is generalizing b with
  | nil => simp [rowsP]
  | cons x xs ih =>
    have := ih (b + ab x)
    rw [rowsP]
    split <;> simp <;> omega
theorem rows_eq {G : Hv} {is : List Int} (hlo : lineOk (.tup (is.map VV.int)) = true) (hlen : is.length < 1000) : f_rows [.tup (is.map VV.int)] G = .ok (.tup ((rowsP is 0).map pairV)) G := by
  have hcl : closedV 0 (.tup ((rowsP is 0).map pairV)) = true := by
    rw [closedV_tup]
    generalize rowsP is 0 = L
    induction L with
    | nil => simp
    | cons p L ih => rw [List.map_cons, closedL_cons, ih]; simp [pairV]
  refine pure_any (fun G' _ => ?_) hcl
  have st := stretches_eq hlen G'
  have zl : (zipV (is.map VV.int) (strV is 0)).length = is.length := by
    have : ∀ (xs ys : List VV), xs.length = ys.length → (zipV xs ys).length = xs.length := fun xs => by
      induction xs with
      | nil => intro ys _; simp [zipV]
      | cons x xs ih =>
        intro ys h
        cases ys with
        | nil => simp at h
        | cons y ys => rw [zipV, List.length_cons, List.length_cons, ih ys (by simpa using h)]
    rw [this _ _ (by rw [List.length_map, strV_len]), List.length_map]
  generalize hG1 : G' ++ [VO.lst (strV is 0)] = G1 at st
  have hs : G1[G'.length]? = some (.lst (strV is 0)) := by rw [← hG1]; simp
  obtain ⟨acc, G2, e, hG, ha⟩ := lcL_inv (chk := [(G'.length, .lst (strV is 0))]) (g := gTup [gName 1, gName 2]) (t := tV (dCmp cGt (dVar 1) (dC (.int 0)))) (e := dVar 2) (vs := [1, 2]) (S0 := [some (.tup (is.map VV.int)), none, none]) (D := G1.length)
    (fun j acc G2 => G2 = G1 ++ [.lst acc] ∧ acc = (rowsP (is.take j) 0).map pairV) (fun _ _ _ h => by rw [h.1]; simp [stays, keepA _ hs]) (zipV (is.map VV.int) (strV is 0)) 0 [] (G1 ++ [.lst []]) ⟨rfl, rfl⟩ (by
    rintro j acc G2 x hx _ ⟨rfl, rfl⟩
    rw [Nat.sub_zero, zipG, List.getElem?_map] at hx
    cases hj : is[j]? with
    | none => rw [hj] at hx; cases hx
    | some i =>
      rw [hj, strV_get is 0 j i hj] at hx
      simp at hx
      subst hx
      have hrl := rowsP_len (is.take j) 0
      have hjl := (List.getElem?_eq_some_iff.mp hj).1
      refine ⟨[some (.tup (is.map VV.int)), some (.int i), some (.tup [.int (begAt is 0 j), .int (begAt is 0 j + ab i - 1)])], G1 ++ [.lst ((rowsP (is.take j) 0).map pairV)], by first | (simp; done) | (simp; rfl), ?_⟩
      rw [rowsP_take is 0 j i hj]
      by_cases h0 : 0 < i
      · refine .inr ⟨_, .tup [.int (begAt is 0 j), .int (begAt is 0 j + ab i - 1)], _, by first | (simp [h0]; done) | (simp [h0]; rfl), by first | (simp; done) | (simp; rfl), by simp, ?_, by simp, by simp [h0, pairV]⟩
        rw [List.length_map]
        rw [List.length_take] at hrl
        show _ < 16777216
        omega
      · exact .inl ⟨_, by simp [h0]; rfl, by simp, by simp [h0]⟩)
  rw [zl, Nat.zero_add, List.take_length] at ha
  subst hG ha
  refine ⟨[.lst (strV is 0), .lst ((rowsP is 0).map pairV)], ?_⟩
  have hz : zipOf G1 [.tup (is.map VV.int), .ref G'.length] = some (zipV (is.map VV.int) (strV is 0), [(G'.length, .lst (strV is 0))]) := by
    simp [zipOf, seqOf, hs]
  have hGG : G' ++ [VO.lst (strV is 0), .lst ((rowsP is 0).map pairV)] = G1 ++ [.lst ((rowsP is 0).map pairV)] := by rw [← hG1]; simp
  rw [hGG]
  simp [b_rows, start, check_line_eq hlo hlen, st, hz, wipe]
  rw [e]
  simp [bTuple, asSeq, asListR]
end DL
end S_O70
section S_P70
set_option linter.all false
set_option maxRecDepth 1000000
set_option maxHeartbeats 4000000
/-! P70: alone, the program's. -/
namespace DL
def FnAt (G : Hv) (fr n : Nat) (h : Nat → VV) : Prop := ∃ L : List VV, G[fr]? = some (.lst L) ∧ L.length = n ∧ ∀ p, p < n → L[p]? = some (h p)
theorem FnAt.congr {G : Hv} {fr n : Nat} {h h' : Nat → VV} (k : FnAt G fr n h) (e : ∀ p, p < n → h p = h' p) : FnAt G fr n h' := by
  obtain ⟨L, h1, h2, h3⟩ := k
  exact ⟨L, h1, h2, fun p hp => by rw [h3 p hp, e p hp]⟩
theorem FnAt.eq {G : Hv} {fr n : Nat} {h : Nat → VV} (k : FnAt G fr n h) : G[fr]? = some (.lst ((List.range n).map h)) := by
  obtain ⟨L, h1, h2, h3⟩ := k
  rw [h1]
  congr 2
  refine List.ext_getElem? fun p => ?_
  rw [List.getElem?_map]
  by_cases hp : p < n
  · rw [h3 p hp, List.getElem?_range hp]; rfl
  · rw [List.getElem?_eq_none (by omega), List.getElem?_eq_none (by simp; omega)]; rfl
def Keeps (fr : Nat) (G G' : Hv) : Prop := ∀ (i : Nat) (o : VO), i ≠ fr → G[i]? = some o → G'[i]? = some o
theorem Keeps.refl {fr : Nat} {G : Hv} : Keeps fr G G := fun _ _ _ h => h
theorem Keeps.trans {fr : Nat} {G G1 G2 : Hv} (a : Keeps fr G G1) (b : Keeps fr G1 G2) : Keeps fr G G2 := fun i o hi h => b i o hi (a i o hi h)
theorem Keeps.app {fr : Nat} {G : Hv} (E : Hv) : Keeps fr G (G ++ E) := fun _ _ _ h => keepA E h
theorem Keeps.set {fr : Nat} {G : Hv} (o : VO) : Keeps fr G (G.set fr o) := fun i o' hi h => by rw [List.getElem?_set_ne (Ne.symm hi)]; exact h
theorem Keeps.pre {fr : Nat} {G0 G G' : Hv} (k : Keeps fr G G') (hf : G0.length ≤ fr) (h0 : ∀ (i : Nat) (o : VO), G0[i]? = some o → G[i]? = some o) : ∃ E, G' = G0 ++ E := by
  refine ⟨G'.drop G0.length, ?_⟩
  have : G'.take G0.length = G0 := by
    refine List.ext_getElem? fun i => ?_
    by_cases hi : i < G0.length
    · have e := List.getElem?_eq_getElem hi
      rw [List.getElem?_take, if_pos hi, e]
      exact k i _ (by omega) (h0 i _ e)
    · rw [List.getElem?_eq_none (by rw [List.length_take]; omega), List.getElem?_eq_none (by omega)]
  rw [← this, List.length_take]
  have hl : min G0.length G'.length = G0.length := by
    have := congrArg List.length this
    rw [List.length_take] at this
    exact this
  rw [hl, this]
  conv => lhs; rw [← List.take_append_drop G0.length G', this]
/-- a row's places alone -/
def rowF (Fs : List (List Int)) (b p : Nat) : VV := .tup ((((Fs[p - b]?).getD []).map fun y => (b : Int) + y).map VV.int)
abbrev bIn : DS := sAsg (dB bTuple (aCons (dLc [8] (iSeq (dVar 7)) (gName 8) (tYes) (dBin oAdd (dVar 4) (dVar 8))) (aNil))) (gSub (dVar 3) (dBin oAdd (dVar 4) (dVar 6)))
theorem inner_run {G : Hv} {r fr n b m : Nat} {rF : List VV} {Fs : List (List Int)} {h : Nat → VV} {a0 a1 a2 a5 u6 u7 u8 : Option VV} (hfr : fr < m) (hr : G[r]? = some (.lst rF)) (hrl : rF.length = Fs.length) (hrm : m ≤ r) (hq : ∀ (j : Nat) (L : List Int), Fs[j]? = some L → ∃ q, rF[j]? = some (.ref q) ∧ m ≤ q ∧ G[q]? = some (.lst (L.map VV.int)))
    (hn : n < 1000) (hb : b + Fs.length ≤ n) (hLl : ∀ L ∈ Fs, L.length < 1000) (hf : FnAt G fr n h) :
    ∃ u6' u7' G', forL [(r, .lst rF)] (gTup [gName 6, gName 7]) bIn (num 0 rF) [a0, a1, a2, some (.ref fr), some (.int (b : Nat)), a5, u6, u7, u8] G = .nx [a0, a1, a2, some (.ref fr), some (.int (b : Nat)), a5, u6', u7', u8] G' ∧ Keeps fr G G' ∧ FnAt G' fr n (fun p => if b ≤ p ∧ p < b + Fs.length then rowF Fs b p else h p) := by
  obtain ⟨S', G', e, u6', u7', hS, hk, hF⟩ := forL_invC (chk := [(r, .lst rF)]) (g := gTup [gName 6, gName 7]) (b := bIn)
    (fun j S G' => ∃ u6 u7, S = [a0, a1, a2, some (.ref fr), some (.int (b : Nat)), a5, u6, u7, u8] ∧ Keeps fr G G' ∧ FnAt G' fr n (fun p => if b ≤ p ∧ p < b + j then rowF Fs b p else h p)) (fun i S G' hh => by
      obtain ⟨_, _, _, hk, _⟩ := hh
      simp only [stays, hk r _ (by omega) hr, decide_true, Bool.and_true]) (num 0 rF) 0 [a0, a1, a2, some (.ref fr), some (.int (b : Nat)), a5, u6, u7, u8] G ⟨u6, u7, rfl, .refl, hf.congr fun p _ => by rw [if_neg (by omega)]⟩ (by
    rintro j S G' x hx _ ⟨u6, u7, rfl, hk, L0, hL1, hL2, hL3⟩
    rw [Nat.sub_zero, numG] at hx
    cases hj : rF[j]? with
    | none => rw [hj] at hx; cases hx
    | some y =>
      rw [hj] at hx
      simp at hx
      subst hx
      have hjl : j < Fs.length := by have := (List.getElem?_eq_some_iff.mp hj).1; omega
      have hFj := List.getElem?_eq_getElem hjl
      obtain ⟨q, hq1, hq2, hq3⟩ := hq j _ hFj
      rw [hj] at hq1
      cases hq1
      have hLn := hLl _ (List.getElem_mem hjl)
      have hq4 := hk q _ (by omega) hq3
      generalize Fs[j] = L at hFj hq3 hq4 hLn
      have mm := lcL_map (chk := [(q, .lst (L.map VV.int))]) (g := gName 8) (e := dBin oAdd (dVar 4) (dVar 8)) (vs := [8]) (S0 := [a0, a1, a2, some (.ref fr), some (.int (b : Nat)), a5, some (.int (j : Nat)), some (.ref q), none]) (f := fun x => match x with | .int i => .int ((b : Int) + i) | v => v) (L.map VV.int) G' rfl (fun o => by simp only [stays, keepA [o] hq4, decide_true, Bool.and_true]) (by rw [List.length_map]; show _ < 16777216; omega) (by
        intro x o hx
        obtain ⟨i, _, rfl⟩ := List.mem_map.mp hx
        exact ⟨[a0, a1, a2, some (.ref fr), some (.int (b : Nat)), a5, some (.int (j : Nat)), some (.ref q), some (.int i)], by simp, by simp⟩)
      have hmap : (L.map VV.int).map (fun x => match x with | .int i => VV.int ((b : Int) + i) | v => v) = (L.map fun y => (b : Int) + y).map VV.int := by
        rw [List.map_map, List.map_map]; rfl
      rw [hmap] at mm
      have sq : seqOf G' (.ref q) = some (L.map VV.int, [(q, .lst (L.map VV.int))]) := by simp only [seqOf, hq4]
      have hL1' := keepA [VO.lst ((L.map fun y => (b : Int) + y).map VV.int)] hL1
      have hix : ixN n ((b : Int) + (j : Nat)) = some (b + j) := by
        unfold ixN
        rw [if_pos (by omega), if_pos (by omega)]
        congr 1
      refine ⟨[a0, a1, a2, some (.ref fr), some (.int (b : Nat)), a5, some (.int (j : Nat)), some (.ref q), u8], G', [a0, a1, a2, some (.ref fr), some (.int (b : Nat)), a5, some (.int (j : Nat)), some (.ref q), u8], (G' ++ [VO.lst ((L.map fun y => (b : Int) + y).map VV.int)]).set fr (.lst (L0.set (b + j) (.tup ((L.map fun y => (b : Int) + y).map VV.int)))), by simp, ?_, _, _, rfl, (hk.trans (.app _)).trans (.set _), ?_⟩
      · have bt : bTuple [.ref G'.length] (G' ++ [VO.lst ((L.map fun y => (b : Int) + y).map VV.int)]) = some (.tup ((L.map fun y => (b : Int) + y).map VV.int), G' ++ [VO.lst ((L.map fun y => (b : Int) + y).map VV.int)]) := by simp [bTuple, asSeq, asListR]
        generalize ((L.map fun y => (b : Int) + y).map VV.int) = NL at mm bt hL1'
        rw [← hL2] at hix
        simp [sq, wipe, mm, bt, hL1', hix]
      · refine ⟨_, get_set hL1', by rw [List.length_set]; exact hL2, fun p hp => ?_⟩
        by_cases hpj : p = b + j
        · subst hpj
          rw [List.getElem?_set_self (by omega)]
          simp only
          rw [if_pos ⟨by omega, by omega⟩]
          unfold rowF
          rw [Nat.add_sub_cancel_left, hFj]
          rfl
        · rw [List.getElem?_set_ne (Ne.symm hpj), hL3 p hp]
          simp only
          by_cases c : b ≤ p ∧ p < b + j
          · rw [if_pos c, if_pos ⟨c.1, by omega⟩]
          · rw [if_neg c, if_neg (by omega)])
  have nl : (num 0 rF).length = Fs.length := by
    have : ∀ (xs : List VV) (n : Int), (num n xs).length = xs.length := fun xs => by
      induction xs with
      | nil => intro n; rfl
      | cons x xs ih => intro n; rw [num, List.length_cons, List.length_cons, ih]
    rw [this, hrl]
  rw [nl, Nat.zero_add] at hF
  subst hS
  exact ⟨u6', u7', G', e, hk, hF⟩
end DL
end S_P70
section S_Q70
set_option linter.all false
set_option maxRecDepth 1000000
set_option maxHeartbeats 4000000
/-! Q70: alone, the program's. -/
namespace DL
theorem rowsP_cells : ∀ {is : List Int} {k b : Int} {i : Nat} {k' b' e' : Int}, (cells is k b)[i]? = some (some (k', b', e')) → (b', e') ∈ rowsP is b
  | [], k, b, i, k', b', e', h => by simp [cells] at h
  | x :: xs, k, b, i, k', b', e', h => by
    rcases cells_get h with ⟨hi, h2⟩ | ⟨hi, h2⟩
    · split at h2
      · rename_i hx
        cases h2
        rw [rowsP, if_pos hx]
        exact List.mem_cons_self ..
      · cases h2
    · have := rowsP_cells h2
      rw [rowsP]
      split
      · exact List.mem_cons_of_mem _ this
      · exact this
theorem cells_rowsP : ∀ {is : List Int} {k b b' e' : Int}, (b', e') ∈ rowsP is b → ∃ (i : Nat) (k' : Int), (cells is k b)[i]? = some (some (k', b', e')) ∧ b + i = b'
  | [], k, b, b', e', h => by simp [rowsP] at h
  | x :: xs, k, b, b', e', h => by
    have later : (b', e') ∈ rowsP xs (b + ab x) → ∃ (i : Nat) (k' : Int), (cells (x :: xs) k b)[i]? = some (some (k', b', e')) ∧ b + i = b' := fun h => by
      obtain ⟨i, k', h1, h2⟩ := cells_rowsP (k := k + 1) h
      refine ⟨x.natAbs + i, k', ?_, ?_⟩
      · rw [cells, List.getElem?_append_right (by simp), List.length_replicate, Nat.add_sub_cancel_left]
        exact h1
      · have := ab_nat x
        omega
    rw [rowsP] at h
    split at h
    · rename_i hx
      rcases List.mem_cons.mp h with h | h
      · cases h
        refine ⟨0, k, ?_, by omega⟩
        rw [cells, List.getElem?_append_left (by simp; omega), List.getElem?_replicate, if_pos (by omega), if_pos hx]
      · exact later h
    · exact later h
/-- a row that is the whole line -/
theorem one_len {m : Int} (h : 0 ≤ m) : ((cells [m] 0 0).length : Int) = m := by
  rw [cells_len, absSum_cons, ab_nat]
  simp [absSum]
  omega
/-- what a place holds alone -/
def aF (ls : List VV) (C : List Cell) (p : Nat) : List Int := match cAt C p with
  | none => []
  | some (_, b, e) => (((heldF ls (cells [e - b + 1] 0 0))[p - b.toNat]?).getD []).map fun y => (b.toNat : Int) + y
def inRow (L : List (Int × Int)) (p : Nat) : Bool := L.any fun r => decide (r.1 ≤ p) && decide ((p : Int) ≤ r.2)
theorem ne_fr {fr i : Nat} {G : Hv} {o o' : VO} (h : G[i]? = some o) (hf : G[fr]? = some o') (hne : o ≠ o') : i ≠ fr := by
  rintro rfl
  rw [h] at hf
  exact hne (Option.some.inj hf)
theorem alone_eq {G : Hv} {q : Nat} {ls : List VV} {is : List Int} (hl : ∀ l ∈ ls, l ∈ allLays) (h4 : ls.length ≤ 4) (h : G[q]? = some (progV ls)) (hlo : lineOk (.tup (is.map VV.int)) = true) (hlen : is.length < 1000) (h60 : absSum is ≤ 60) :
    f_alone [.ref q, .tup (is.map VV.int), .int 1] G = .ok (holdV ((List.range (cells is 0 0).length).map (aF ls (cells is 0 0)))) G := by
  refine pure_any (fun G' hG => ?_) (closed_hold 0 _)
  obtain rfl : G' = G := hG (by simp)
  have hCl := cells_len is 0 0
  have hR := rows_cells is
  have rc := fun {i : Nat} {k' b' e' : Int} (h : (cells is 0 0)[i]? = some (some (k', b', e'))) => rowsP_cells h
  have cr := fun {b' e' : Int} (h : (b', e') ∈ rowsP is 0) => cells_rowsP (k := 0) h
  have hrows := rows_eq (G := G' ++ [.lst [.tup []], .lst (List.replicate (cells is 0 0).length (.tup []))]) hlo hlen
  have hrl := rowsP_len is 0
  generalize cells is 0 0 = C at hCl hR rc cr hrows ⊢
  generalize rowsP is 0 = RL at rc cr hrows hrl
  obtain ⟨s, hs, hlet⟩ := letters_eq (G := G' ++ [.lst [.tup []]]) hlo hlen h60
  have hsl : s.length = C.length := by omega
  have mul := oMul_one (G := G' ++ [VO.lst [.tup []]]) (a := G'.length) (x := .tup []) (k := C.length) (by simp) (by omega) (by omega)
  rw [Int.toNat_natCast] at mul
  generalize hG1 : G' ++ [VO.lst [.tup []], .lst (List.replicate C.length (.tup []))] = G1 at hrows
  have hG1' : (G' ++ [VO.lst [.tup []]]) ++ [.lst (List.replicate C.length (.tup []))] = G1 := by rw [← hG1]; simp
  rw [hG1'] at mul
  have hfl : (G' ++ [VO.lst [.tup []]]).length = G'.length + 1 := by simp
  rw [hfl] at mul
  have hf1 : G1[G'.length + 1]? = some (.lst (List.replicate C.length (.tup []))) := by rw [← hG1]; simp [List.getElem?_append_right]
  have k1 : ∀ (i : Nat) (o : VO), G'[i]? = some o → G1[i]? = some o := fun i o h => by rw [← hG1]; exact keepA _ h
  have hq1 := k1 _ _ h
  have hql : q < G'.length := (List.getElem?_eq_some_iff.mp h).1
  have l1 : G'.length + 2 ≤ G1.length := by rw [← hG1]; simp
  -- the rows
  obtain ⟨S', G2, e, u4, u5, u6, u7, u8, hS, hk, hF⟩ := forL_invC (chk := []) (g := gTup [gName 4, gName 5]) (b := sFor (iEnum (aCons (dCall f_held_on (aCons (dCall f_parts_of (aCons (dVar 0) (aNil))) (aCons (dTup (aCons (dBin oAdd (dBin oSub (dVar 5) (dVar 4)) (dC (.int 1))) (aNil))) (aCons (dVar 2) (aNil))))) (aNil))) (gTup [gName 6, gName 7]) bIn)
    (fun j S G2 => ∃ u4 u5 u6 u7 u8, S = [some (.ref q), some (.tup (is.map VV.int)), some (.int 1), some (.ref (G'.length + 1)), u4, u5, u6, u7, u8] ∧ Keeps (G'.length + 1) G1 G2 ∧ FnAt G2 (G'.length + 1) C.length (fun p => if inRow (RL.take j) p = true then .tup ((aF ls C p).map VV.int) else .tup []))
    (fun _ _ _ _ => rfl) (RL.map pairV) 0 [some (.ref q), some (.tup (is.map VV.int)), some (.int 1), some (.ref (G'.length + 1)), none, none, none, none, none] G1
    ⟨none, none, none, none, none, rfl, .refl, _, hf1, by simp, fun p hp => by simp [inRow, hp]⟩ (by
    rintro j S G2 x hx _ ⟨u4, u5, u6, u7, u8, rfl, hk, hF⟩
    rw [Nat.sub_zero, List.getElem?_map] at hx
    cases hj : RL[j]? with
    | none => rw [hj] at hx; cases hx
    | some rr =>
      rw [hj] at hx
      cases hx
      obtain ⟨b, e'⟩ := rr
      obtain ⟨i, k', hc, hib⟩ := cr (List.mem_of_getElem? hj)
      have mm := hR.mem hc
      obtain ⟨bn, rfl⟩ : ∃ bn : Nat, b = (bn : Int) := ⟨b.toNat, by omega⟩
      have hm0 : (0 : Int) ≤ e' - bn + 1 := by omega
      have hone := one_len hm0
      have hqG2 := hk q _ (by omega) hq1
      obtain ⟨E1, rs, pe, pr, pp⟩ := parts_of_eq hl h4 hqG2
      obtain ⟨r, E2, he, hrr⟩ := held_on_eq (is := [e' - bn + 1]) hl h4 pr pp (by simp) (by rw [absSum_cons, ab_nat]; simp [absSum]; omega)
      have gF := goodF_held ls (cells [e' - bn + 1] 0 0)
      have hFeq : ∀ p : Nat, (bn : Int) ≤ p → (p : Int) ≤ e' → VV.tup ((aF ls C p).map VV.int) = rowF (heldF ls (cells [e' - bn + 1] 0 0)) bn p := fun p h1 h2 => by
        have hcp := hR.fill hc h1 h2
        have : cAt C p = some (k', (bn : Int), e') := by
          unfold cAt
          rw [Int.toNat_natCast, hcp]
          rfl
        unfold aF rowF
        rw [this]
        simp
      generalize heldF ls (cells [e' - bn + 1] 0 0) = Fs at hrr gF hFeq
      have hFl : Fs.length = (e' - bn + 1).toNat := by
        have := gF.len
        omega
      obtain ⟨hr0, rF, hr1, hr2, hr3⟩ := hrr
      have kG3 : Keeps (G'.length + 1) G2 (G2 ++ E1 ++ E2) := (Keeps.app E1).trans (Keeps.app E2)
      have hGl : G'.length + 2 ≤ (G2 ++ E1).length := by
        have : G1.length ≤ G2.length := by
          rcases Nat.lt_or_ge G2.length G1.length with hlt | hge
          · have hne : G2.length ≠ G'.length + 1 := by
              intro hh
              obtain ⟨L0, hL0, _⟩ := hF
              have := (List.getElem?_eq_some_iff.mp hL0).1
              omega
            have := hk G2.length _ hne (List.getElem?_eq_getElem hlt)
            have := (List.getElem?_eq_some_iff.mp this).1
            omega
          · exact hge
        rw [List.length_append]
        omega
      obtain ⟨L0, hL0, hL1, hL2⟩ := hF
      have hF3 : FnAt (G2 ++ E1 ++ E2) (G'.length + 1) C.length (fun p => if inRow (RL.take j) p = true then .tup ((aF ls C p).map VV.int) else .tup []) := ⟨L0, keepA _ (keepA _ hL0), hL1, hL2⟩
      obtain ⟨v6, v7, G4, ir, hk4, hF4⟩ := inner_run (m := (G2 ++ E1).length) (a0 := some (.ref q)) (a1 := some (.tup (is.map VV.int))) (a2 := some (.int 1)) (a5 := some (.int e')) (u6 := u6) (u7 := u7) (u8 := u8) (b := bn) (by omega) hr1 hr2 hr0 hr3 (by omega) (by omega) (fun L hL => by have := gF.short hL; have := gF.len; omega) hF3
      refine ⟨[some (.ref q), some (.tup (is.map VV.int)), some (.int 1), some (.ref (G'.length + 1)), some (.int bn), some (.int e'), u6, u7, u8], G2, _, G4, by simp [pairV], ?_, some (.int bn), some (.int e'), v6, v7, u8, rfl, (hk.trans kG3).trans hk4, hF4.congr fun p hp => ?_⟩
      · have en : enumOf (G2 ++ E1 ++ E2) [.ref r] = some (num 0 rF, [(r, .lst rF)]) := by simp only [enumOf, seqOf, hr1]
        have he' : f_held_on [.ref G2.length, .tup [.int (e' - bn + 1)], .int 1] (G2 ++ E1) = .ok (.ref r) (G2 ++ E1 ++ E2) := he
        rw [sFor_ap, iEnum_ap, aCons_ap, dCall_ap]
        have args : aCons (dCall f_parts_of (aCons (dVar 0) (aNil))) (aCons (dTup (aCons (dBin oAdd (dBin oSub (dVar 5) (dVar 4)) (dC (.int 1))) (aNil))) (aCons (dVar 2) (aNil))) [some (.ref q), some (.tup (is.map VV.int)), some (.int 1), some (.ref (G'.length + 1)), some (.int bn), some (.int e'), u6, u7, u8] G2 = .ok [.ref G2.length, .tup [.int (e' - bn + 1)], .int 1] (G2 ++ E1) := by
          simp [pe]
        rw [args]
        simp only [R.bind_ok, he', aNil_ap, en, ofP_some, R.st_ok]
        exact ir
      · have hany : inRow (RL.take (j + 1)) p = (inRow (RL.take j) p || (decide ((bn : Int) ≤ p) && decide ((p : Int) ≤ e'))) := by
          unfold inRow
          rw [List.take_succ, hj]
          simp
        rw [hany]
        by_cases c : bn ≤ p ∧ p < bn + Fs.length
        · have c1 : (bn : Int) ≤ p := by omega
          have c2 : (p : Int) ≤ e' := by omega
          rw [if_pos c, decide_eq_true c1, decide_eq_true c2, Bool.and_self, Bool.or_true, if_pos rfl]
          exact (hFeq p c1 c2).symm
        · have c3 : (decide ((bn : Int) ≤ p) && decide ((p : Int) ≤ e')) = false := by
            rw [Bool.and_eq_false_iff, decide_eq_false_iff_not, decide_eq_false_iff_not]
            omega
          rw [if_neg c, c3, Bool.or_false])
  rw [List.length_map, Nat.zero_add, List.take_length] at hF
  subst hS
  obtain ⟨E, hE⟩ := hk.pre (by omega : G'.length ≤ G'.length + 1) k1
  subst hE
  have hF2 : FnAt (G' ++ E) (G'.length + 1) C.length (fun p => .tup ((aF ls C p).map VV.int)) := hF.congr fun p hp => by
    by_cases c : inRow RL p = true
    · rw [if_pos c]
    · rw [if_neg c]
      have : cAt C p = none := by
        cases cp : cAt C p with
        | none => rfl
        | some t =>
          obtain ⟨k, b, e⟩ := t
          have hc := cAt_get (C := C) (z := (p : Nat)) (by omega) (by omega)
          rw [cp, Int.toNat_natCast] at hc
          have mm := hR.mem hc
          exfalso
          apply c
          unfold inRow
          rw [List.any_eq_true]
          refine ⟨(b, e), rc hc, ?_⟩
          rw [Bool.and_eq_true, decide_eq_true_eq, decide_eq_true_eq]
          exact ⟨mm.2.2.1, mm.2.2.2.1⟩
      unfold aF
      rw [this]
      rfl
  have hfin := hF2.eq
  refine ⟨E, ?_⟩
  have bl : ∀ G, bLen [.str s] G = some (.int C.length, G) := fun G => by
    unfold bLen
    simp only
    rw [if_pos (by show _ ≤ 16777216; omega), hsl]
  have bt : bTuple [.ref (G'.length + 1)] (G' ++ E) = some (holdV ((List.range C.length).map (aF ls C)), G' ++ E) := by
    simp [bTuple, asSeq, asListR, hfin, holdV, List.map_map, Function.comp_def]
  have s2 : sAsg (dBin oMul (dLst (aCons (dTup aNil) (aNil))) (dB bLen (aCons (dCall f_letters (aCons (dVar 1) (aNil))) (aNil)))) (gName 3) [some (.ref q), some (.tup (is.map VV.int)), some (.int 1), none, none, none, none, none, none] G' = .nx [some (.ref q), some (.tup (is.map VV.int)), some (.int 1), some (.ref (G'.length + 1)), none, none, none, none, none] G1 := by
    simp [hlet, bl, mul]
  have sq : ∀ G, seqOf G (.tup (RL.map pairV)) = some (RL.map pairV, []) := fun _ => rfl
  simp only [b_alone, start, List.map_cons, List.map_nil, List.length_cons, List.length_nil, dSeq_ap]
  show ((dExpr _ [some (.ref q), some (.tup (is.map VV.int)), some (.int 1), none, none, none, none, none, none] G').thn _) = _
  have s1 : dExpr (dCall f_check_held (aCons (dVar 0) (aCons (dVar 1) (aCons (dVar 2) (aNil))))) [some (.ref q), some (.tup (is.map VV.int)), some (.int 1), none, none, none, none, none, none] G' = .nx [some (.ref q), some (.tup (is.map VV.int)), some (.int 1), none, none, none, none, none, none] G' := by
    simp [check_held_eq h hlo hlen]
  rw [s1, thn_nx, dSeq_ap, s2, thn_nx, dSeq_ap, sFor_ap]
  have s3 : iSeq (dCall f_rows (aCons (dVar 1) (aNil))) [some (.ref q), some (.tup (is.map VV.int)), some (.int 1), some (.ref (G'.length + 1)), none, none, none, none, none] G1 = .ok (RL.map pairV, []) G1 := by
    simp [hrows, sq]
  rw [s3, R.st_ok]
  simp only
  rw [e]
  simp [bt]
end DL
end S_Q70
section S_R70
set_option linter.all false
set_option maxRecDepth 1000000
set_option maxHeartbeats 4000000
/-! R70: alone, the law's. -/
namespace DL
theorem count_seg {k : Int} {b m : Nat} : ∀ {L : List Int}, b + m ≤ L.length → (∀ i : Nat, i < L.length → (L[i]? = some k ↔ b ≤ i ∧ i < b + m)) → L.count k = m := fun {L} hl h => by
  have e1 : L = L.take b ++ ((L.drop b).take m ++ (L.drop b).drop m) := by rw [List.take_append_drop, List.take_append_drop]
  have c1 : (L.take b).count k = 0 := by
    rw [List.count_eq_zero]
    intro hm
    obtain ⟨i, hi⟩ := List.mem_iff_getElem?.mp hm
    rw [List.getElem?_take] at hi
    split at hi
    · have hil := (List.getElem?_eq_some_iff.mp hi).1
      have := (h i hil).mp hi
      omega
    · cases hi
  have c2 : ((L.drop b).take m).count k = m := by
    have hlen : ((L.drop b).take m).length = m := by rw [List.length_take, List.length_drop]; omega
    have hall : ∀ z ∈ (L.drop b).take m, k = z := fun z hz => by
      obtain ⟨i, hi⟩ := List.mem_iff_getElem?.mp hz
      rw [List.getElem?_take] at hi
      split at hi
      · rename_i him
        rw [List.getElem?_drop] at hi
        have := (h (b + i) (by omega)).mpr ⟨by omega, by omega⟩
        rw [this] at hi
        exact Option.some.inj hi
      · cases hi
    have := List.count_eq_length.mpr hall
    rw [this, hlen]
  have c3 : ((L.drop b).drop m).count k = 0 := by
    rw [List.count_eq_zero]
    intro hm
    obtain ⟨i, hi⟩ := List.mem_iff_getElem?.mp hm
    rw [List.getElem?_drop, List.getElem?_drop] at hi
    have hil := (List.getElem?_eq_some_iff.mp hi).1
    have := (h _ hil).mp hi
    omega
  rw [e1, List.count_append, List.count_append, c1, c2, c3]
  omega
def cI : Cell → Int
  | none => -1
  | some (k, _, _) => k
theorem cT_cI (C : List Cell) : C.map cT = (C.map cI).map VV.int := by
  rw [List.map_map]
  apply List.map_congr_left
  intro c _
  cases c <;> rfl
theorem count_row {C : List Cell} (hR : Rows C) {i : Nat} {k b e : Int} (h : C[i]? = some (some (k, b, e))) : (C.map cI).count k = (e - b + 1).toNat := by
  have m := hR.mem h
  refine count_seg (b := b.toNat) (by rw [List.length_map]; omega) fun j hj => ?_
  rw [List.length_map] at hj
  rw [List.getElem?_map, List.getElem?_eq_getElem hj]
  have hCj := List.getElem?_eq_getElem hj
  cases hc : C[j] with
  | none =>
    rw [hc] at hCj
    simp [cI]
    constructor
    · intro hk
      omega
    · intro hb
      have := hR.fill (j := j) h (by omega) (by omega)
      rw [hCj] at this
      cases this
  | some t =>
    obtain ⟨k', b', e'⟩ := t
    rw [hc] at hCj
    simp [cI]
    constructor
    · rintro rfl
      have u := hR.uniq h hCj
      have mj := hR.mem hCj
      omega
    · intro hb
      have := hR.fill (j := j) h (by omega) (by omega)
      rw [hCj] at this
      cases this
      rfl
theorem one_cT (m : Nat) : (cells [(m : Int)] 0 0).map cT = List.replicate m (.int 0) := by
  rw [cells, cells, List.append_nil, List.map_replicate]
  by_cases h : 0 < (m : Int)
  · rw [if_pos h]; simp [cT]
  · have : m = 0 := by omega
    subst this
    rfl
/-- what a place holds alone, as a sum -/
def aM (ls : List VV) (C : List Cell) (p : Nat) : Int := match cAt C p with
  | none => 0
  | some (_, b, e) => ((heldM ls (cells [e - b + 1] 0 0))[p - b.toNat]?).getD 0 * 2 ^ b.toNat
abbrev bRow : DS := sAsg (dBin oShl (dIx (dVar 5) (dVar 6)) (dVar 3)) (gSub (dVar 2) (dBin oAdd (dVar 3) (dVar 6)))
theorem shift_run {G : Hv} {r fr n b m : Nat} {M : List Int} {h : Nat → VV} {a0 a1 a4 : Option VV} (hne : r ≠ fr) (hr : G[r]? = some (.lst (M.map VV.int))) (hl : M.length = m) (hM : ∀ z : Nat, z < m → 0 ≤ (M[z]?).getD 0 ∧ ((M[z]?).getD 0).toNat < 2 ^ m) (hn : n < 1000) (hb : b + m ≤ n) (hf : FnAt G fr n h) (u6 : Option VV) :
    ∃ u6' G', forL [] (gName 6) bRow (upTo 0 m) [a0, a1, some (.ref fr), some (.int (b : Nat)), a4, some (.ref r), u6] G = .nx [a0, a1, some (.ref fr), some (.int (b : Nat)), a4, some (.ref r), u6'] G' ∧ Keeps fr G G' ∧ FnAt G' fr n (fun p => if b ≤ p ∧ p < b + m then .int ((M[p - b]?).getD 0 * 2 ^ b) else h p) := by
  obtain ⟨S', G', e, u, hS, hk, hF⟩ := forL_invC (chk := []) (g := gName 6) (b := bRow)
    (fun j S G' => ∃ u, S = [a0, a1, some (.ref fr), some (.int (b : Nat)), a4, some (.ref r), u] ∧ Keeps fr G G' ∧ FnAt G' fr n (fun p => if b ≤ p ∧ p < b + j then .int ((M[p - b]?).getD 0 * 2 ^ b) else h p))
    (fun _ _ _ _ => rfl) (upTo 0 m) 0 [a0, a1, some (.ref fr), some (.int (b : Nat)), a4, some (.ref r), u6] G ⟨u6, rfl, .refl, hf.congr fun p _ => by rw [if_neg (by omega)]⟩ (by
    rintro j S G' x hx _ ⟨u, rfl, hk, L0, hL1, hL2, hL3⟩
    rw [Nat.sub_zero] at hx
    have hjm : j < m := by
      have := (List.getElem?_eq_some_iff.mp hx).1
      rwa [upTo_len] at this
    rw [upTo_range, List.getElem?_map, List.getElem?_range hjm] at hx
    simp at hx
    subst hx
    have hr2 := hk r _ hne hr
    have ix : oIx G' (.ref r) (.int (j : Nat)) = some (.int ((M[j]?).getD 0)) := ix_seq (i := j) (x := .int ((M[j]?).getD 0)) hr2 (by rw [List.getElem?_map, List.getElem?_eq_getElem (by omega)]; rfl)
    have hMj := hM j hjm
    have sh : oShl (.int ((M[j]?).getD 0)) (.int (b : Nat)) G' = some (.int ((M[j]?).getD 0 * 2 ^ b), G') := by
      unfold oShl
      simp only
      have hlog : ((M[j]?).getD 0).natAbs.log2 < 100000 := by
        have e1 : ((M[j]?).getD 0).natAbs = ((M[j]?).getD 0).toNat := by omega
        rw [e1]
        have := log2_lt hMj.2 (by omega)
        omega
      rw [if_pos ⟨hlog, by omega, Nat.ble_eq_true_of_le (by omega)⟩, Int.toNat_natCast]
    have hix : ixN n ((b : Int) + (j : Nat)) = some (b + j) := by
      unfold ixN
      rw [if_pos (by omega), if_pos (by omega)]
      congr 1
    refine ⟨[a0, a1, some (.ref fr), some (.int (b : Nat)), a4, some (.ref r), some (.int (j : Nat))], G', [a0, a1, some (.ref fr), some (.int (b : Nat)), a4, some (.ref r), some (.int (j : Nat))], G'.set fr (.lst (L0.set (b + j) (.int ((M[j]?).getD 0 * 2 ^ b)))), by simp, ?_, _, rfl, hk.trans (.set _), _, get_set hL1, by rw [List.length_set]; exact hL2, fun p hp => ?_⟩
    · rw [← hL2] at hix
      show sAsg (dBin oShl (dIx (dVar 5) (dVar 6)) (dVar 3)) (gSub (dVar 2) (dBin oAdd (dVar 3) (dVar 6))) _ _ = _
      rw [sAsg_ap, dBin_ap, dIx_ap]
      simp only [dVar_ap, List.getElem?_cons_succ, List.getElem?_cons_zero, R.bind_ok, ix, ofP_some, sh, ofO_some, R.st_ok]
      simp [hL1, hix]
    · by_cases hpj : p = b + j
      · subst hpj
        rw [List.getElem?_set_self (by omega)]
        simp only
        rw [if_pos ⟨by omega, by omega⟩, Nat.add_sub_cancel_left]
      · rw [List.getElem?_set_ne (Ne.symm hpj), hL3 p hp]
        simp only
        by_cases c : b ≤ p ∧ p < b + j
        · rw [if_pos c, if_pos ⟨c.1, by omega⟩]
        · rw [if_neg c, if_neg (by omega)])
  rw [upTo_len, Nat.zero_add] at hF
  subst hS
  exact ⟨u, G', e, hk, hF⟩
theorem law_alone_eq {G : Hv} {lr tr : Nat} {ls : List VV} {C : List Cell} (hR : Rows C) (hl : ∀ l ∈ ls, l ∈ allLays) (h4 : ls.length ≤ 4) (hC : C.length < 1000) (hp : G[lr]? = some (.lst ls)) (ht : G[tr]? = some (.lst (C.map cT))) :
    ∃ r E, f__law_alone [.ref lr, .ref tr] G = .ok (.ref r) (G ++ E) ∧ G.length ≤ r ∧ (G ++ E)[r]? = some (.lst ((List.range C.length).map fun p => VV.int (aM ls C p))) := by
  have bl : ∀ G, G[tr]? = some (.lst (C.map cT)) → bLen [.ref tr] G = some (.int C.length, G) := fun G ht => by simp [asListR, ht]
  have hmid : mid (C.length : Int) = true := mid_of (by omega)
  have mul := oMul_one (G := G ++ [VO.lst [.int 0]]) (a := G.length) (x := .int 0) (k := C.length) (by simp) (by omega) (by omega)
  rw [Int.toNat_natCast] at mul
  generalize hG1 : (G ++ [VO.lst [.int 0]]) ++ [.lst (List.replicate C.length (.int 0))] = G1 at mul
  have hfl : (G ++ [VO.lst [.int 0]]).length = G.length + 1 := by simp
  rw [hfl] at mul
  have hf1 : G1[G.length + 1]? = some (.lst (List.replicate C.length (.int 0))) := by rw [← hG1, ← hfl]; simp
  have k1 : ∀ (i : Nat) (o : VO), G[i]? = some o → G1[i]? = some o := fun i o h => by rw [← hG1]; exact keepA _ (keepA _ h)
  have hlrl : lr < G.length := (List.getElem?_eq_some_iff.mp hp).1
  have htrl : tr < G.length := (List.getElem?_eq_some_iff.mp ht).1
  obtain ⟨S', G2, e, u3, u4, u5, u6, hS, hk, hF⟩ := forL_invC (chk := []) (g := gName 3) (b := sIf (tAnd (tV (dCmp cGe (dIx (dVar 1) (dVar 3)) (dC (.int 0)))) (tV (dCmp cEq (dM .lst mIndex (dVar 1) (aCons (dIx (dVar 1) (dVar 3)) (aNil))) (dVar 3)))) (dSeq (sAsg (dM .lst mCount (dVar 1) (aCons (dIx (dVar 1) (dVar 3)) (aNil))) (gName 4)) (
      dSeq (sAsg (dCall f__law_held (aCons (dVar 0) (aCons (dBin oMul (dLst (aCons (dC (.int 0)) (aNil))) (dVar 4)) (aCons (dC (.int 1)) (aNil))))) (gName 5)) (
      sFor (iRange1 (aCons (dVar 4) (aNil))) (gName 6) bRow))) (dNext))
    (fun j S G2 => ∃ u3 u4 u5 u6, S = [some (.ref lr), some (.ref tr), some (.ref (G.length + 1)), u3, u4, u5, u6] ∧ Keeps (G.length + 1) G1 G2 ∧ FnAt G2 (G.length + 1) C.length (fun p => match cAt C p with | none => .int 0 | some (_, b, _) => if b < j then .int (aM ls C p) else .int 0))
    (fun _ _ _ _ => rfl) (upTo 0 C.length) 0 [some (.ref lr), some (.ref tr), some (.ref (G.length + 1)), none, none, none, none] G1
    ⟨none, none, none, none, rfl, .refl, _, hf1, by simp, fun p hp => by
      rw [List.getElem?_replicate, if_pos hp]
      cases cp : cAt C p with
      | none => simp only [cp]
      | some t =>
        obtain ⟨k, b, e⟩ := t
        have hc := cAt_get (C := C) (z := (p : Nat)) (by omega) (by omega)
        rw [cp, Int.toNat_natCast] at hc
        have mm := hR.mem hc
        simp only [cp]
        rw [if_neg (show ¬ b < ((0 : Nat) : Int) by omega)]⟩ (by
    rintro j S G2 x hx _ ⟨u3, u4, u5, u6, rfl, hk, hF⟩
    rw [Nat.sub_zero] at hx
    have hjn : j < C.length := by
      have := (List.getElem?_eq_some_iff.mp hx).1
      rwa [upTo_len] at this
    rw [upTo_range, List.getElem?_map, List.getElem?_range hjn] at hx
    simp at hx
    subst hx
    have ht2 := hk tr _ (by omega) (k1 _ _ ht)
    have hp2 := hk lr _ (by omega) (k1 _ _ hp)
    have i1 := ix_cell (z := (j : Nat)) ht2 (by omega) (by omega)
    have ge := fun G => ge_cT hR (x := (j : Nat)) (by omega) (by omega) G
    have hcj := cAt_get (C := C) (z := (j : Nat)) (by omega) (by omega)
    rw [Int.toNat_natCast] at hcj
    have same : (∀ k b e, cAt C (j : Nat) = some (k, b, e) → b ≠ j) → ∀ p, p < C.length → (match cAt C p with | none => VV.int 0 | some (_, b, _) => if b < (j : Nat) then .int (aM ls C p) else .int 0) = (match cAt C p with | none => .int 0 | some (_, b, _) => if b < ((j + 1 : Nat) : Int) then .int (aM ls C p) else .int 0) := fun hno p hp => by
      cases cp : cAt C p with
      | none => rfl
      | some t =>
        obtain ⟨k, b, e⟩ := t
        have hc := cAt_get (C := C) (z := (p : Nat)) (by omega) (by omega)
        rw [cp, Int.toNat_natCast] at hc
        have mm := hR.mem hc
        have : b ≠ (j : Nat) := by
          rintro rfl
          have := hR.fill (j := j) hc (by omega) (by omega)
          rw [this] at hcj
          exact hno k j e (Option.some.inj hcj).symm rfl
        simp only
        by_cases c : b < (j : Nat)
        · rw [if_pos c, if_pos (by omega)]
        · rw [if_neg c, if_neg (by omega)]
    cases cj : cAt C (j : Nat) with
    | none =>
      have g0 : ∀ G, cGe G (cT (cAt C (j : Nat))) (.int 0) = some false := fun G => by rw [ge G, cj]; rfl
      refine ⟨[some (.ref lr), some (.ref tr), some (.ref (G.length + 1)), some (.int (j : Nat)), u4, u5, u6], G2, [some (.ref lr), some (.ref tr), some (.ref (G.length + 1)), some (.int (j : Nat)), u4, u5, u6], G2, by simp, by simp [i1, g0], _, _, _, _, rfl, hk, hF.congr (same fun k b e h => by rw [cj] at h; cases h)⟩
    | some t =>
      obtain ⟨k, b, e⟩ := t
      have hcj2 := hcj
      rw [cj] at hcj2
      have mm := hR.mem hcj2
      have g0 : ∀ G, cGe G (cT (cAt C (j : Nat))) (.int 0) = some true := fun G => by rw [ge G, cj]; rfl
      have ix := idx_cT hR (x := (j : Nat)) (by omega) (by omega) cj
      have flat : (C.map cT).all (fun z => (eqFlat z (.int k)).isSome) = true := by
        rw [List.all_map, List.all_eq_true]
        intro c _
        cases c <;> simp [cT, eqFlat]
      have mi : mIndex (.ref tr) [.int k] G2 = some (.int b, G2) := by
        unfold mIndex
        simp only [asList, ht2, flat, if_true, ix]
        have : ((b.toNat : Nat) : Int) = b := by omega
        simp [this]
      have hct : cT (cAt C (j : Nat)) = .int k := by rw [cj]; rfl
      by_cases hbj : b = (j : Nat)
      · subst hbj
        have mc : mCount (.ref tr) [.int k] G2 = some (.int ((e - (j : Nat) + 1).toNat : Nat), G2) := by
          unfold mCount
          simp only [asList, ht2]
          rw [cT_cI, asInts_map]
          simp only [Option.map_some]
          rw [count_row hR hcj2]
        obtain ⟨m, hm⟩ : ∃ m : Nat, (e - (j : Nat) + 1).toNat = m := ⟨_, rfl⟩
        rw [hm] at mc
        have hme : e - (j : Nat) + 1 = (m : Int) := by omega
        have mul2 := oMul_one (G := G2 ++ [VO.lst [.int 0]]) (a := G2.length) (x := .int 0) (k := m) (by simp) (by omega) (by omega)
        rw [Int.toNat_natCast, ← one_cT m] at mul2
        have hone := one_len (m := (m : Int)) (by omega)
        have hRo := rows_cells [(m : Int)]
        obtain ⟨r, E, he, hrl, hr⟩ := law_held_eq (G := G2 ++ [VO.lst [.int 0]] ++ [.lst ((cells [(m : Int)] 0 0).map cT)]) (tr := (G2 ++ [VO.lst [.int 0]]).length) hRo hl h4 (by omega) (keepA _ (keepA _ hp2)) (by simp)
        have hTl := tell_held ls (cells [(m : Int)] 0 0)
        have hlen1 : (cells [(m : Int)] 0 0).length = m := by omega
        rw [hlen1] at hTl
        have hMp : ∀ p : Nat, j ≤ p → p < j + m → aM ls C p = ((heldM ls (cells [(m : Int)] 0 0))[p - j]?).getD 0 * 2 ^ j := fun p h1 h2 => by
          have hcp := hR.fill (j := p) hcj2 (by omega) (by omega)
          have : cAt C p = some (k, ((j : Nat) : Int), e) := by
            unfold cAt
            rw [Int.toNat_natCast, hcp]
            rfl
          unfold aM
          rw [this]
          simp only [Int.toNat_natCast, hme]
        generalize heldM ls (cells [(m : Int)] 0 0) = M at hr hTl hMp
        obtain ⟨L0, hL0, hL1, hL2⟩ := hF
        have kk : Keeps (G.length + 1) G2 (G2 ++ [VO.lst [.int 0]] ++ [.lst ((cells [(m : Int)] 0 0).map cT)] ++ E) := ((Keeps.app _).trans (Keeps.app _)).trans (Keeps.app _)
        have hG2l : G.length + 2 ≤ G2.length := by
          have h1 := (List.getElem?_eq_some_iff.mp hL0).1
          omega
        obtain ⟨v6, G3, sr, hk3, hF3⟩ := shift_run (a0 := some (.ref lr)) (a1 := some (.ref tr)) (a4 := some (.int m)) (b := j) (m := m) (n := C.length) (fr := G.length + 1) (by simp at hrl; omega) hr hTl.lm (fun z hz => ⟨(hTl.ok z hz).1, (hTl.ok z hz).2.1⟩) hC (by omega) ⟨L0, keepA _ (keepA _ (keepA _ hL0)), hL1, hL2⟩ u6
        have hmid2 : mid (m : Int) = true := mid_of (by omega)
        refine ⟨[some (.ref lr), some (.ref tr), some (.ref (G.length + 1)), some (.int (j : Nat)), u4, u5, u6], G2, [some (.ref lr), some (.ref tr), some (.ref (G.length + 1)), some (.int (j : Nat)), some (.int m), some (.ref r), v6], G3, by simp, ?_, _, _, _, _, rfl, (hk.trans kk).trans hk3, hF3.congr fun p hp => ?_⟩
        · simp only [List.append_assoc, List.cons_append, List.nil_append, List.length_append, List.length_cons, List.length_nil] at he sr mul2
          simp [i1, mm.1, isRt, ht2, hct, mi, mc, mul2, he, rangeOf1, hmid2]
          exact sr
        · by_cases c : j ≤ p ∧ p < j + m
          · rw [if_pos c]
            have hcp := hR.fill (j := p) hcj2 (by omega) (by omega)
            have : cAt C p = some (k, ((j : Nat) : Int), e) := by
              unfold cAt
              rw [Int.toNat_natCast, hcp]
              rfl
            rw [this]
            simp only
            rw [if_pos (by omega), hMp p c.1 c.2]
          · rw [if_neg c]
            cases cp : cAt C p with
            | none => rfl
            | some t =>
              obtain ⟨k', b', e'⟩ := t
              have hc := cAt_get (C := C) (z := (p : Nat)) (by omega) (by omega)
              rw [cp, Int.toNat_natCast] at hc
              have m2 := hR.mem hc
              have : b' ≠ (j : Nat) := by
                rintro rfl
                have := hR.fill (j := j) hc (by omega) (by omega)
                rw [this] at hcj2
                cases hcj2
                omega
              simp only
              by_cases c2 : b' < (j : Nat)
              · rw [if_pos c2, if_pos (by omega)]
              · rw [if_neg c2, if_neg (by omega)]
      · refine ⟨[some (.ref lr), some (.ref tr), some (.ref (G.length + 1)), some (.int (j : Nat)), u4, u5, u6], G2, [some (.ref lr), some (.ref tr), some (.ref (G.length + 1)), some (.int (j : Nat)), u4, u5, u6], G2, by simp, ?_, _, _, _, _, rfl, hk, hF.congr (same fun k' b' e' h => by rw [cj] at h; cases h; exact hbj)⟩
        simp [i1, mm.1, isRt, ht2, hct, mi, hbj])
  rw [upTo_len, Nat.zero_add] at hF
  subst hS
  obtain ⟨E, hE⟩ := hk.pre (by omega : G.length ≤ G.length + 1) k1
  subst hE
  have hF2 : FnAt (G ++ E) (G.length + 1) C.length (fun p => VV.int (aM ls C p)) := hF.congr fun p hp => by
    cases cp : cAt C p with
    | none => simp [aM, cp]
    | some t =>
      obtain ⟨k, b, e⟩ := t
      have hc := cAt_get (C := C) (z := (p : Nat)) (by omega) (by omega)
      rw [cp, Int.toNat_natCast] at hc
      have mm := hR.mem hc
      simp only
      rw [if_pos (by omega)]
  refine ⟨G.length + 1, E, ?_, by omega, hF2.eq⟩
  unfold f__law_alone
  rw [dDef_ref (k := 2) rfl (by simp)]
  have run : b__law_alone [some (.ref lr), some (.ref tr), none, none, none, none, none] G = .rt (.ref (G.length + 1)) (G ++ E) := by
    have s1 : sAsg (dBin oMul (dLst (aCons (dC (.int 0)) (aNil))) (dB bLen (aCons (dVar 1) (aNil)))) (gName 2) [some (.ref lr), some (.ref tr), none, none, none, none, none] G = .nx [some (.ref lr), some (.ref tr), some (.ref (G.length + 1)), none, none, none, none] G1 := by
      simp [-bLen_ref, bl _ (keepA _ ht), mul]
    unfold b__law_alone
    rw [dSeq_ap, s1, thn_nx, dSeq_ap, sFor_ap]
    have s2 : iRange1 (aCons (dB bLen (aCons (dVar 1) (aNil))) (aNil)) [some (.ref lr), some (.ref tr), some (.ref (G.length + 1)), none, none, none, none] G1 = .ok (upTo 0 C.length, []) G1 := by
      simp [-bLen_ref, bl _ (k1 _ _ ht), rangeOf1, hmid]
    rw [s2, R.st_ok]
    simp only
    rw [e]
    simp
  show gcR G (outR (b__law_alone [some (.ref lr), some (.ref tr), none, none, none, none, none] G)) = _
  rw [run]
  unfold gcR
  have : closedV G.length (.ref (G.length + 1)) = false := by simp
  simp only [outR_rt, this, Bool.false_and]
  simp
end DL
end S_R70
section S_S70
set_option linter.all false
set_option maxRecDepth 1000000
set_option maxHeartbeats 4000000
/-! S70: the pairs. -/
namespace DL
/-- what there is: the other program's, or alone -/
def thereF (ls : List VV) (o : Option (List VV)) (C : List Cell) (p : Nat) : List Int := match o with
  | none => aF ls C p
  | some l2 => ((heldF l2 C)[p]?).getD []
def thereM (ls : List VV) (o : Option (List VV)) (C : List Cell) (p : Nat) : Int := match o with
  | none => aM ls C p
  | some l2 => ((heldM l2 C)[p]?).getD 0
def hereF (ls : List VV) (C : List Cell) (p : Nat) : List Int := ((heldF ls C)[p]?).getD []
def hereM (ls : List VV) (C : List Cell) (p : Nat) : Int := ((heldM ls C)[p]?).getD 0
theorem here_tell (ls : List VV) {C : List Cell} {p : Nat} (hp : p < C.length) : 0 ≤ hereM ls C p ∧ ∀ y : Nat, ((y : Int) ∈ hereF ls C p ↔ Nat.testBit (hereM ls C p).toNat y = true) :=
  ⟨((tell_held ls C).ok p hp).1, ((tell_held ls C).ok p hp).2.2⟩
theorem alone_tell (ls : List VV) {C : List Cell} (hR : Rows C) {p : Nat} (hp : p < C.length) : 0 ≤ aM ls C p ∧ ∀ y : Nat, ((y : Int) ∈ aF ls C p ↔ Nat.testBit (aM ls C p).toNat y = true) := by
  cases cp : cAt C p with
  | none => simp [aM, aF, cp]
  | some t =>
    obtain ⟨k, b, e⟩ := t
    have hc := cAt_get (C := C) (z := (p : Nat)) (by omega) (by omega)
    rw [cp, Int.toNat_natCast] at hc
    have mm := hR.mem hc
    have hone := one_len (m := e - b + 1) (by omega)
    have tl := (tell_held ls (cells [e - b + 1] 0 0)).ok (p - b.toNat) (by omega)
    have gF := goodF_held ls (cells [e - b + 1] 0 0)
    have e1 : aM ls C p = ((heldM ls (cells [e - b + 1] 0 0))[p - b.toNat]?).getD 0 * 2 ^ b.toNat := by unfold aM; rw [cp]
    have e2 : aF ls C p = (((heldF ls (cells [e - b + 1] 0 0))[p - b.toNat]?).getD []).map fun y => (b.toNat : Int) + y := by unfold aF; rw [cp]
    have hnn : ∀ z ∈ ((heldF ls (cells [e - b + 1] 0 0))[p - b.toNat]?).getD [], 0 ≤ z := fun z hz => by
      cases q : (heldF ls (cells [e - b + 1] 0 0))[p - b.toNat]? with
      | none => rw [q] at hz; simp at hz
      | some L =>
        rw [q] at hz
        exact ((gF.ok L (List.mem_of_getElem? q)).1 z hz).1
    rw [e1, e2]
    generalize ((heldM ls (cells [e - b + 1] 0 0))[p - b.toNat]?).getD 0 = M at tl
    generalize ((heldF ls (cells [e - b + 1] 0 0))[p - b.toNat]?).getD [] = L at tl hnn
    obtain ⟨mn, rfl⟩ : ∃ mn : Nat, M = (mn : Int) := ⟨M.toNat, by omega⟩
    rw [Int.toNat_natCast] at tl
    have e3 : ((mn : Int) * 2 ^ b.toNat) = ((mn * 2 ^ b.toNat : Nat) : Int) := by push_cast; rfl
    rw [e3, Int.toNat_natCast]
    refine ⟨Int.natCast_nonneg _, fun y => ?_⟩
    rw [Nat.testBit_mul_two_pow, Bool.and_eq_true, decide_eq_true_eq, List.mem_map]
    constructor
    · rintro ⟨z, hz, hy⟩
      have := hnn z hz
      have hz2 : z = ((y - b.toNat : Nat) : Int) := by omega
      refine ⟨by omega, ?_⟩
      rw [hz2] at hz
      exact (tl.2.2 _).mp hz
    · rintro ⟨h1, h2⟩
      exact ⟨((y - b.toNat : Nat) : Int), (tl.2.2 _).mpr h2, by omega⟩
theorem there_tell (ls : List VV) (o : Option (List VV)) {C : List Cell} (hR : Rows C) {p : Nat} (hp : p < C.length) : 0 ≤ thereM ls o C p ∧ ∀ y : Nat, ((y : Int) ∈ thereF ls o C p ↔ Nat.testBit (thereM ls o C p).toNat y = true) := by
  cases o with
  | none => exact alone_tell ls hR hp
  | some l2 => exact here_tell l2 hp
/-- whether a pair shows it -/
def pairB (ls : List VV) (o : Option (List VV)) (C : List Cell) (x y : Nat) : Bool :=
  !noC (cAt C x) && (xor (Nat.testBit (hereM ls C x).toNat y) (Nat.testBit (thereM ls o C x).toNat y) && (o.isSome || Nat.testBit (hereM ls C x).toNat y))
def pV (p : Nat × Nat) : VV := .tup [.int p.1, .int p.2]
def pairs1 (ls : List VV) (o : Option (List VV)) (C : List Cell) (m : Nat) : List (Nat × Nat) := (List.range m).flatMap fun x => if noC (cAt C (x : Nat)) = true then [] else
  ((List.range C.length).filter fun y => Nat.testBit ((hereM ls C x).toNat ^^^ (thereM ls o C x).toNat) y).map fun y => (x, y)
def pairsL (ls : List VV) (o : Option (List VV)) (C : List Cell) : List (Nat × Nat) := match o with
  | none => (pairs1 ls o C C.length).filter fun p => Nat.testBit (hereM ls C p.1).toNat p.2
  | some _ => pairs1 ls o C C.length
theorem mem_pairs {ls : List VV} {o : Option (List VV)} {C : List Cell} {x y : Nat} : (x, y) ∈ pairsL ls o C ↔ x < C.length ∧ y < C.length ∧ pairB ls o C x y = true := by
  have h1 : (x, y) ∈ pairs1 ls o C C.length ↔ x < C.length ∧ y < C.length ∧ noC (cAt C (x : Nat)) = false ∧ Nat.testBit ((hereM ls C x).toNat ^^^ (thereM ls o C x).toNat) y = true := by
    unfold pairs1
    rw [List.mem_flatMap]
    constructor
    · rintro ⟨x', hx', hm⟩
      have := List.mem_range.mp hx'
      split at hm
      · simp at hm
      · rename_i hn
        obtain ⟨y', hy', e⟩ := List.mem_map.mp hm
        cases e
        have hf := List.mem_filter.mp hy'
        exact ⟨this, List.mem_range.mp hf.1, by simpa using hn, hf.2⟩
    · rintro ⟨hx, hy, hn, ht⟩
      refine ⟨x, List.mem_range.mpr hx, ?_⟩
      rw [if_neg (by simp [hn])]
      exact List.mem_map.mpr ⟨y, List.mem_filter.mpr ⟨List.mem_range.mpr hy, ht⟩, rfl⟩
  unfold pairsL pairB
  cases o with
  | none =>
    rw [List.mem_filter, h1, Nat.testBit_xor]
    simp only [Option.isSome_none, Bool.false_or, Bool.and_eq_true, Bool.not_eq_true']
    constructor
    · rintro ⟨⟨a, b, c, d⟩, f⟩; exact ⟨a, b, c, d, f⟩
    · rintro ⟨a, b, c, d, f⟩; exact ⟨⟨a, b, c, d⟩, f⟩
  | some l2 =>
    rw [h1, Nat.testBit_xor]
    simp only [Option.isSome_some, Bool.true_or, Bool.and_true, Bool.and_eq_true, Bool.not_eq_true']
theorem bit_dec (m y : Nat) : decide (((((m : Int) / 2 ^ y).toNat &&& 1 : Nat) : Int) = 1) = Nat.testBit m y := by
  have e : ((m : Int) / 2 ^ y).toNat = m / 2 ^ y := by
    have : (m : Int) / 2 ^ y = ((m / 2 ^ y : Nat) : Int) := by push_cast; rfl
    rw [this, Int.toNat_natCast]
  rw [e, Nat.testBit_eq_decide_div_mod_eq, Nat.and_one_is_mod, Bool.eq_iff_iff, decide_eq_true_eq, decide_eq_true_eq]
  omega
theorem bit_run {G : Hv} {m y : Nat} : (oShr (.int (m : Nat)) (.int (y : Nat)) G) = some (.int ((m : Int) / 2 ^ y), G) ∧ oBand (.int ((m : Int) / 2 ^ y)) (.int 1) G = some (.int ((((m : Int) / 2 ^ y).toNat &&& 1 : Nat) : Int), G) := by
  constructor
  · unfold oShr
    simp only
    rw [if_pos (Int.natCast_nonneg _), Int.toNat_natCast]
  · unfold oBand
    simp only
    have : 0 ≤ (m : Int) / 2 ^ y := Int.ediv_nonneg (Int.natCast_nonneg _) (Int.le_of_lt (Int.pow_pos (by decide)))
    rw [if_pos ⟨this, by decide⟩]
    rfl
theorem pairs_len (ls : List VV) (o : Option (List VV)) (C : List Cell) : ∀ m : Nat, (pairs1 ls o C m).length ≤ m * C.length
  | 0 => by simp [pairs1]
  | m + 1 => by
    have ih := pairs_len ls o C m
    unfold pairs1 at ih ⊢
    rw [List.range_succ, List.flatMap_append, List.length_append, Nat.add_mul, List.flatMap_singleton]
    have : (if noC (cAt C (m : Nat)) = true then ([] : List (Nat × Nat)) else ((List.range C.length).filter fun y => Nat.testBit ((hereM ls C m).toNat ^^^ (thereM ls o C m).toNat) y).map fun y => (m, y)).length ≤ C.length := by
      split
      · simp
      · rw [List.length_map]
        have := List.length_filter_le (fun y => Nat.testBit ((hereM ls C m).toNat ^^^ (thereM ls o C m).toNat) y) (List.range C.length)
        rwa [List.length_range] at this
    omega
end DL
end S_S70
section S_T70
set_option linter.all false
set_option maxRecDepth 1000000
set_option maxHeartbeats 4000000
/-! T70: the pairs, run. -/
namespace DL
/-- what is told of some of the things that are walked, where nothing is laid -/
theorem lcL_some {α : Type} {chk : List (Nat × VO)} {g : DG} {t : DT} {e : DE} {vs : List Nat} {S0 : Env} {inp out : α → VV} {p : α → Bool} (xs : List α) (G : Hv) (hn : xs.length < 16777216) (hst : ∀ o, stays (G ++ [o]) chk = true)
    (k : ∀ (a : α) (o : VO), a ∈ xs → ∃ S1, g (inp a) S0 (G ++ [o]) = .nx S1 (G ++ [o]) ∧ t S1 (G ++ [o]) = .ok (p a) (G ++ [o]) ∧ (p a = true → e S1 (G ++ [o]) = .ok (out a) (G ++ [o]))) :
    lcL chk g t e vs S0 G.length (xs.map inp) (G ++ [.lst []]) = .ok (.ref G.length) (G ++ [.lst ((xs.filter p).map out)]) := by
  obtain ⟨acc, G', e1, hG, ha⟩ := lcL_inv (chk := chk) (g := g) (t := t) (e := e) (vs := vs) (S0 := S0) (D := G.length)
    (fun j acc G' => G' = G ++ [.lst acc] ∧ acc = ((xs.take j).filter p).map out) (fun _ _ _ h => by rw [h.1]; exact hst _) (xs.map inp) 0 [] (G ++ [.lst []]) ⟨rfl, rfl⟩ (by
    rintro j acc G' x hx _ ⟨rfl, rfl⟩
    rw [Nat.sub_zero, List.getElem?_map] at hx
    cases hj : xs[j]? with
    | none => rw [hj] at hx; cases hx
    | some a =>
      rw [hj] at hx
      cases hx
      have hjl := (List.getElem?_eq_some_iff.mp hj).1
      obtain ⟨S1, h1, h2, h3⟩ := k a (.lst (((xs.take j).filter p).map out)) (List.mem_of_getElem? hj)
      refine ⟨S1, _, h1, ?_⟩
      rw [List.take_succ, hj, List.filter_append, List.map_append]
      cases hp : p a with
      | false =>
        rw [hp] at h2
        exact .inl ⟨_, h2, by simp [hp]⟩
      | true =>
        rw [hp] at h2
        refine .inr ⟨_, out a, _, h2, h3 hp, by simp, ?_, by simp [hp]⟩
        have := List.length_filter_le p (xs.take j)
        rw [List.length_take] at this
        rw [List.length_map]
        show _ < 16777216
        omega)
  rw [List.length_map, Nat.zero_add, List.take_length] at ha
  rw [e1, hG, ha]
theorem ix_ints {G : Hv} {r : Nat} {M : List Int} {p : Nat} (h : G[r]? = some (.lst (M.map VV.int))) (hp : p < M.length) : oIx G (.ref r) (.int (p : Nat)) = some (.int ((M[p]?).getD 0)) :=
  ix_seq (i := p) (x := .int ((M[p]?).getD 0)) h (by rw [List.getElem?_map, List.getElem?_eq_getElem hp]; rfl)
theorem bxor_nn {G : Hv} {a b : Int} (ha : 0 ≤ a) (hb : 0 ≤ b) : oBxor (.int a) (.int b) G = some (.int ((a.toNat ^^^ b.toNat : Nat) : Int), G) := by
  unfold oBxor
  simp only
  rw [if_pos ⟨ha, hb⟩]
/-- the other program -/
def OtherAt (G : Hv) (ov : VV) (o : Option (List VV)) : Prop := (ov = .non ∧ o = none) ∨ ∃ or2 l2, ov = .ref or2 ∧ o = some l2 ∧ G[or2]? = some (.lst l2) ∧ l2.length ≤ 4 ∧ ∀ l ∈ l2, l ∈ allLays
theorem OtherAt.more {G : Hv} {ov : VV} {o : Option (List VV)} (h : OtherAt G ov o) (E : Hv) : OtherAt (G ++ E) ov o := by
  rcases h with h | ⟨r, l, h1, h2, h3, h4⟩
  · exact .inl h
  · exact .inr ⟨r, l, h1, h2, keepA E h3, h4⟩
theorem OtherAt.isN {G : Hv} {ov : VV} {o : Option (List VV)} (h : OtherAt G ov o) : isN ov = o.isNone := by
  rcases h with ⟨h1, h2⟩ | ⟨r, l, h1, h2, h3, h4⟩
  · rw [h1, h2]; rfl
  · rw [h1, h2]; rfl
theorem law_pairs_eq {G : Hv} {lr tr : Nat} {ls : List VV} {C : List Cell} {ov : VV} {o : Option (List VV)} (hR : Rows C) (hl : ∀ l ∈ ls, l ∈ allLays) (h4 : ls.length ≤ 4) (hC : C.length < 1000) (hp : G[lr]? = some (.lst ls)) (ht : G[tr]? = some (.lst (C.map cT))) (hov : OtherAt G ov o) :
    ∃ r E, f__law_pairs [.ref lr, ov, .ref tr] G = .ok (.ref r) (G ++ E) ∧ G.length ≤ r ∧ (G ++ E)[r]? = some (.lst ((pairsL ls o C).map pV)) := by
  obtain ⟨r1, E1, e1, hr1, h1⟩ := law_held_eq hR hl h4 hC hp ht
  have hM1 := (tell_held ls C).lm
  have i1 : ∀ (A : Hv) (p : Nat), A[r1]? = some (.lst ((heldM ls C).map VV.int)) → p < C.length → oIx A (.ref r1) (.int (p : Nat)) = some (.int (hereM ls C p)) := fun A p h hp => ix_ints h (by omega)
  -- there
  have there : ∃ (r2 : Nat) (E2 : Hv) (M : List Int), dIf (tV (dIsN (dVar 1))) (dCall f__law_alone (aCons (dVar 0) (aCons (dVar 2) (aNil)))) (dCall f__law_held (aCons (dVar 1) (aCons (dVar 2) (aCons (dC (.int 1)) (aNil))))) [some (.ref lr), some ov, some (.ref tr), some (.ref r1), none, none, none, none, none] (G ++ E1) = .ok (.ref r2) (G ++ E1 ++ E2) ∧ (G ++ E1 ++ E2)[r2]? = some (.lst (M.map VV.int)) ∧ M.length = C.length ∧ ∀ p, p < C.length → (M[p]?).getD 0 = thereM ls o C p := by
    rcases hov with ⟨rfl, rfl⟩ | ⟨or2, l2, rfl, rfl, h5, h6, h7⟩
    · obtain ⟨r2, E2, e2, hr2, h2⟩ := law_alone_eq hR hl h4 hC (keepA E1 hp) (keepA E1 ht)
      refine ⟨r2, E2, (List.range C.length).map fun p => aM ls C p, by simp at e2; simp [e2], ?_, by simp, fun p hp => by simp [hp, thereM]⟩
      rw [h2, List.map_map]
      rfl
    · obtain ⟨r2, E2, e2, hr2, h2⟩ := law_held_eq hR h7 h6 hC (keepA E1 h5) (keepA E1 ht)
      exact ⟨r2, E2, heldM l2 C, by simp at e2; simp [e2], h2, (tell_held l2 C).lm, fun p hp => rfl⟩
  obtain ⟨r2, E2, M, e2, h2, hM2, hMt⟩ := there
  have i2 : ∀ (A : Hv) (p : Nat), A[r2]? = some (.lst (M.map VV.int)) → p < C.length → oIx A (.ref r2) (.int (p : Nat)) = some (.int (thereM ls o C p)) := fun A p h hp => by
    rw [← hMt p hp]
    exact ix_ints h (by omega)
  generalize hG2 : G ++ E1 ++ E2 = G2 at e2 h2
  have k2 : ∀ (i : Nat) (o : VO), G[i]? = some o → G2[i]? = some o := fun i o h => by rw [← hG2]; exact keepA _ (keepA _ h)
  have h1' : G2[r1]? = some (.lst ((heldM ls C).map VV.int)) := by rw [← hG2]; exact keepA _ h1
  have bl : bLen [.ref tr] (G2 ++ [VO.lst []]) = some (.int C.length, G2 ++ [VO.lst []]) := by simp [asListR, keepA [VO.lst []] (k2 _ _ ht)]
  generalize hG3 : G2 ++ [VO.lst [], .lst (upTo 0 C.length)] = G3
  have k3 : ∀ (i : Nat) (o : VO), G2[i]? = some o → G3[i]? = some o := fun i o h => by rw [← hG3]; exact keepA _ h
  have hm3 : G3[G2.length + 1]? = some (.lst (upTo 0 C.length)) := by rw [← hG3]; simp [List.getElem?_append_right]
  have hf3 : G3[G2.length]? = some (.lst []) := by rw [← hG3]; simp
  have l2 : G.length ≤ G2.length := by rw [← hG2, List.length_append, List.length_append]; omega
  have test : ∀ (A : Hv) (x y : Nat) (a0 a1 a2 a5 a6 : Option VV), A[r1]? = some (.lst ((heldM ls C).map VV.int)) → A[r2]? = some (.lst (M.map VV.int)) → x < C.length →
      tV (dCmp cEq (dBin oBand (dBin oShr (dBin oBxor (dIx (dVar 3) (dVar 7)) (dIx (dVar 4) (dVar 7))) (dVar 8)) (dC (.int 1))) (dC (.int 1))) [a0, a1, a2, some (.ref r1), some (.ref r2), a5, a6, some (.int (x : Nat)), some (.int (y : Nat))] A = .ok (Nat.testBit ((hereM ls C x).toNat ^^^ (thereM ls o C x).toNat) y) A := fun A x y a0 a1 a2 a5 a6 ha hb hx => by
    have bx := bxor_nn (G := A) (here_tell ls hx).1 (there_tell ls o hR hx).1
    have br := bit_run (G := A) (m := (hereM ls C x).toNat ^^^ (thereM ls o C x).toNat) (y := y)
    have bd := bit_dec ((hereM ls C x).toNat ^^^ (thereM ls o C x).toNat) y
    generalize (hereM ls C x).toNat ^^^ (thereM ls o C x).toNat = w at bx br bd ⊢
    rw [tV_ap, dCmp_ap, dBin_ap, dBin_ap, dBin_ap, dIx_ap]
    simp only [dIx_ap, dVar_ap, List.getElem?_cons_succ, List.getElem?_cons_zero, R.bind_ok, i1 A x ha hx, i2 A x hb hx, ofP_some, bx, br.1, br.2, ofO_some, dC_ap, cEq_ap, oEq_int, Option.map_some, asB_bl, bd]
  have test2 : ∀ (A : Hv) (x y : Nat) (a0 a1 a2 a4 a5 a6 : Option VV), A[r1]? = some (.lst ((heldM ls C).map VV.int)) → x < C.length →
      tV (dCmp cEq (dBin oBand (dBin oShr (dIx (dVar 3) (dVar 7)) (dVar 8)) (dC (.int 1))) (dC (.int 1))) [a0, a1, a2, some (.ref r1), a4, a5, a6, some (.int (x : Nat)), some (.int (y : Nat))] A = .ok (Nat.testBit (hereM ls C x).toNat y) A := fun A x y a0 a1 a2 a4 a5 a6 ha hx => by
    have hh := (here_tell ls (C := C) hx).1
    have hi := i1 A x ha hx
    obtain ⟨w, hw⟩ : ∃ w : Nat, hereM ls C x = (w : Int) := ⟨(hereM ls C x).toNat, by omega⟩
    rw [hw] at hi ⊢
    have br := bit_run (G := A) (m := w) (y := y)
    have bd := bit_dec w y
    rw [tV_ap, dCmp_ap, dBin_ap, dBin_ap, dIx_ap, Int.toNat_natCast]
    simp only [dVar_ap, List.getElem?_cons_succ, List.getElem?_cons_zero, R.bind_ok, hi, ofP_some, br.1, br.2, ofO_some, dC_ap, cEq_ap, oEq_int, Option.map_some, asB_bl, bd]
  -- the loop
  obtain ⟨S', G4, e, u7, u8, f, E, hS, hG4, hf⟩ := forL_invC (chk := [(G2.length + 1, .lst (upTo 0 C.length))]) (g := gName 7) (b := sIf (tV (dCmp cGe (dIx (dVar 2) (dVar 7)) (dC (.int 0)))) (sAsg (dBin oAdd (dVar 5) (dLc [8] (iSeq (dVar 6)) (gName 8) (tV (dCmp cEq (dBin oBand (dBin oShr (dBin oBxor (dIx (dVar 3) (dVar 7)) (dIx (dVar 4) (dVar 7))) (dVar 8)) (dC (.int 1))) (dC (.int 1)))) (dTup (aCons (dVar 7) (aCons (dVar 8) (aNil)))))) (gName 5)) (dNext))
    (fun j S G4 => ∃ (u7 u8 : Option VV) (f : Nat) (E : Hv), S = [some (.ref lr), some ov, some (.ref tr), some (.ref r1), some (.ref r2), some (.ref f), some (.ref (G2.length + 1)), u7, u8] ∧ G4 = G3 ++ E ∧ G4[f]? = some (.lst ((pairs1 ls o C j).map pV)) ∧ G2.length ≤ f)
    (fun i S G4 h => by
      obtain ⟨_, _, _, _, _, rfl, _⟩ := h
      simp only [stays, keepA _ hm3, decide_true, Bool.and_true]) (upTo 0 C.length) 0 [some (.ref lr), some ov, some (.ref tr), some (.ref r1), some (.ref r2), some (.ref G2.length), some (.ref (G2.length + 1)), none, none] G3 ⟨none, none, G2.length, [], rfl, by simp, by rw [hf3]; rfl, Nat.le_refl _⟩ (by
    rintro j S G4 x hx _ ⟨u7, u8, f, E, rfl, rfl, hf, hfl⟩
    rw [Nat.sub_zero] at hx
    have hjn : j < C.length := by
      have := (List.getElem?_eq_some_iff.mp hx).1
      rwa [upTo_len] at this
    rw [upTo_range, List.getElem?_map, List.getElem?_range hjn] at hx
    simp at hx
    subst hx
    have ht4 := keepA E (k3 _ _ (k2 _ _ ht))
    have hm4 := keepA E hm3
    have ic := ix_cell (z := (j : Nat)) ht4 (by omega) (by omega)
    have ge := ge_cT hR (x := (j : Nat)) (by omega) (by omega) (G3 ++ E)
    have hps : pairs1 ls o C (j + 1) = pairs1 ls o C j ++ (if noC (cAt C (j : Nat)) = true then [] else ((List.range C.length).filter fun y => Nat.testBit ((hereM ls C j).toNat ^^^ (thereM ls o C j).toNat) y).map fun y => (j, y)) := by
      unfold pairs1
      rw [List.range_succ, List.flatMap_append, List.flatMap_singleton]
    have pl := pairs_len ls o C (j + 1)
    have hmul : (j + 1) * C.length ≤ 1000 * 1000 := Nat.mul_le_mul (by omega) (by omega)
    rw [hps, List.length_append] at pl
    cases hno : noC (cAt C (j : Nat)) with
    | true =>
      rw [hno] at ge
      refine ⟨[some (.ref lr), some ov, some (.ref tr), some (.ref r1), some (.ref r2), some (.ref f), some (.ref (G2.length + 1)), some (.int (j : Nat)), u8], G3 ++ E, [some (.ref lr), some ov, some (.ref tr), some (.ref r1), some (.ref r2), some (.ref f), some (.ref (G2.length + 1)), some (.int (j : Nat)), u8], G3 ++ E, by simp, by simp [ic, ge], _, _, f, E, rfl, rfl, ?_, hfl⟩
      rw [hps, hno, hf]
      simp
    | false =>
      rw [hno] at ge pl
      rw [if_neg (by simp)] at pl
      have ls1 := lcL_some (chk := [(G2.length + 1, .lst (upTo 0 C.length))]) (g := gName 8) (t := tV (dCmp cEq (dBin oBand (dBin oShr (dBin oBxor (dIx (dVar 3) (dVar 7)) (dIx (dVar 4) (dVar 7))) (dVar 8)) (dC (.int 1))) (dC (.int 1)))) (e := dTup (aCons (dVar 7) (aCons (dVar 8) (aNil)))) (vs := [8])
        (S0 := [some (.ref lr), some ov, some (.ref tr), some (.ref r1), some (.ref r2), some (.ref f), some (.ref (G2.length + 1)), some (.int (j : Nat)), none]) (inp := fun y : Nat => VV.int (y : Nat)) (out := fun y : Nat => pV (j, y)) (p := fun y => Nat.testBit ((hereM ls C j).toNat ^^^ (thereM ls o C j).toNat) y) (List.range C.length) (G3 ++ E) (by rw [List.length_range]; omega) (fun o' => by simp only [stays, keepA [o'] hm4, decide_true, Bool.and_true]) (fun y o' hy => by
          refine ⟨[some (.ref lr), some ov, some (.ref tr), some (.ref r1), some (.ref r2), some (.ref f), some (.ref (G2.length + 1)), some (.int (j : Nat)), some (.int (y : Nat))], by simp, test _ j y _ _ _ _ _ (keepA _ (keepA E (k3 _ _ h1'))) (keepA _ (keepA E (k3 _ _ h2))) hjn, fun _ => by simp [pV]⟩)
      have hin : (List.range C.length).map (fun y : Nat => VV.int (y : Nat)) = upTo 0 C.length := by
        rw [upTo_range]
        apply List.map_congr_left
        intro k _
        simp
      rw [hin] at ls1
      generalize hnl : ((List.range C.length).filter fun y => Nat.testBit ((hereM ls C j).toNat ^^^ (thereM ls o C j).toNat) y) = nl at ls1 pl hps
      rw [hno, if_neg (by simp)] at hps
      rw [List.length_map] at pl
      have sq : seqOf (G3 ++ E) (.ref (G2.length + 1)) = some (upTo 0 C.length, [(G2.length + 1, .lst (upTo 0 C.length))]) := by simp only [seqOf, hm4]
      have add := oAdd_lst (G := G3 ++ E ++ [VO.lst (nl.map fun y => pV (j, y))]) (a := f) (b := (G3 ++ E).length) (xs := (pairs1 ls o C j).map pV) (ys := nl.map fun y => pV (j, y)) (keepA _ hf) List.getElem?_concat_length (by rw [List.length_map, List.length_map]; omega)
      refine ⟨[some (.ref lr), some ov, some (.ref tr), some (.ref r1), some (.ref r2), some (.ref f), some (.ref (G2.length + 1)), some (.int (j : Nat)), u8], G3 ++ E, [some (.ref lr), some ov, some (.ref tr), some (.ref r1), some (.ref r2), some (.ref (G3 ++ E ++ [VO.lst (nl.map fun y => pV (j, y))]).length), some (.ref (G2.length + 1)), some (.int (j : Nat)), u8], G3 ++ E ++ [VO.lst (nl.map fun y => pV (j, y))] ++ [.lst ((pairs1 ls o C j).map pV ++ nl.map fun y => pV (j, y))], by simp, ?_, _, _, (G3 ++ E ++ [VO.lst (nl.map fun y => pV (j, y))]).length, E ++ ([VO.lst (nl.map fun y => pV (j, y))] ++ [.lst ((pairs1 ls o C j).map pV ++ nl.map fun y => pV (j, y))]), rfl, by simp, ?_, ?_⟩
      · rw [sIf_ap, tV_ap, dCmp_ap, dIx_ap]
        simp only [dVar_ap, List.getElem?_cons_succ, List.getElem?_cons_zero, R.bind_ok, ic, ofP_some, dC_ap, ge, Bool.not_false, Option.map_some, asB_bl, R.st_ok, if_true, sAsg_ap, dBin_ap, dLc_ap, iSeq_ap, sq]
        show (((lcL [(G2.length + 1, VO.lst (upTo 0 C.length))] _ _ _ [8] [some (.ref lr), some ov, some (.ref tr), some (.ref r1), some (.ref r2), some (.ref f), some (.ref (G2.length + 1)), some (.int (j : Nat)), none] (G3 ++ E).length _ _).bind _).st _ _) = _
        rw [ls1]
        simp only [R.bind_ok, add, ofO_some, R.st_ok]
        rfl
      · rw [hps, List.getElem?_concat_length, List.map_append, List.map_map]
        rfl
      · rw [← hG3]
        simp <;> omega)
  rw [upTo_len, Nat.zero_add] at hf
  subst hS hG4
  -- the last
  have last : ∃ (f' : Nat) (E' : Hv), sIf (tV (dIsN (dVar 1))) (sSet 5 (dLc [7, 8] (iSeq (dVar 5)) (gTup [gName 7, gName 8]) (tV (dCmp cEq (dBin oBand (dBin oShr (dIx (dVar 3) (dVar 7)) (dVar 8)) (dC (.int 1))) (dC (.int 1)))) (dTup (aCons (dVar 7) (aCons (dVar 8) (aNil)))))) (dNext)
      [some (.ref lr), some ov, some (.ref tr), some (.ref r1), some (.ref r2), some (.ref f), some (.ref (G2.length + 1)), u7, u8] (G3 ++ E) = .nx [some (.ref lr), some ov, some (.ref tr), some (.ref r1), some (.ref r2), some (.ref f'), some (.ref (G2.length + 1)), u7, u8] (G3 ++ E ++ E') ∧ G2.length ≤ f' ∧ (G3 ++ E ++ E')[f']? = some (.lst ((pairsL ls o C).map pV)) := by
    have hisN := hov.isN
    cases o with
    | some l2' =>
      refine ⟨f, [], ?_, hf.2, by simpa [pairsL] using hf.1⟩
      rw [Option.isNone_some] at hisN
      simp [hisN]
    | none =>
      rw [Option.isNone_none] at hisN
      have sq : seqOf (G3 ++ E) (.ref f) = some ((pairs1 ls none C C.length).map pV, [(f, .lst ((pairs1 ls none C C.length).map pV))]) := by simp only [seqOf, hf.1]
      have pl := pairs_len ls none C C.length
      have hmul : C.length * C.length ≤ 1000 * 1000 := Nat.mul_le_mul (by omega) (by omega)
      have ls2 := lcL_some (chk := [(f, .lst ((pairs1 ls none C C.length).map pV))]) (g := gTup [gName 7, gName 8]) (t := tV (dCmp cEq (dBin oBand (dBin oShr (dIx (dVar 3) (dVar 7)) (dVar 8)) (dC (.int 1))) (dC (.int 1)))) (e := dTup (aCons (dVar 7) (aCons (dVar 8) (aNil)))) (vs := [7, 8])
        (S0 := [some (.ref lr), some ov, some (.ref tr), some (.ref r1), some (.ref r2), some (.ref f), some (.ref (G2.length + 1)), none, none]) (inp := pV) (out := pV) (p := fun q => Nat.testBit (hereM ls C q.1).toNat q.2) (pairs1 ls none C C.length) (G3 ++ E) (by omega) (fun o' => by simp only [stays, keepA [o'] hf.1, decide_true, Bool.and_true]) (fun q o' hq => by
          obtain ⟨x, y⟩ := q
          have hx : x < C.length := by
            unfold pairs1 at hq
            obtain ⟨x', hx', hm⟩ := List.mem_flatMap.mp hq
            split at hm
            · simp at hm
            · obtain ⟨y', _, e⟩ := List.mem_map.mp hm
              cases e
              exact List.mem_range.mp hx'
          exact ⟨[some (.ref lr), some ov, some (.ref tr), some (.ref r1), some (.ref r2), some (.ref f), some (.ref (G2.length + 1)), some (.int (x : Nat)), some (.int (y : Nat))], by simp [pV], test2 _ x y _ _ _ _ _ _ (keepA _ (keepA E (k3 _ _ h1'))) hx, fun _ => by simp [pV]⟩)
      refine ⟨(G3 ++ E).length, [.lst (((pairs1 ls none C C.length).filter fun q => Nat.testBit (hereM ls C q.1).toNat q.2).map pV)], ?_, by rw [← hG3]; simp <;> omega, by rw [List.getElem?_concat_length]; rfl⟩
      rw [sIf_ap, tV_ap, dIsN_ap]
      simp only [dVar_ap, List.getElem?_cons_succ, List.getElem?_cons_zero, R.bind_ok, hisN, ofP_some, asB_bl, R.st_ok, if_true]
      unfold sSet
      rw [sAsg_ap, dLc_ap, iSeq_ap]
      simp only [dVar_ap, List.getElem?_cons_succ, List.getElem?_cons_zero, R.bind_ok, sq, ofP_some]
      show ((lcL _ _ _ _ [7, 8] [some (.ref lr), some ov, some (.ref tr), some (.ref r1), some (.ref r2), some (.ref f), some (.ref (G2.length + 1)), none, none] (G3 ++ E).length _ _).st _ _) = _
      rw [ls2]
      rfl
  obtain ⟨f', E', el, hfl', hfin⟩ := last
  have hGE : G3 ++ E ++ E' = G ++ (E1 ++ (E2 ++ ([VO.lst [], .lst (upTo 0 C.length)] ++ (E ++ E')))) := by rw [← hG3, ← hG2]; simp
  refine ⟨f', E1 ++ (E2 ++ ([VO.lst [], .lst (upTo 0 C.length)] ++ (E ++ E'))), ?_, by omega, by rw [← hGE]; exact hfin⟩
  unfold f__law_pairs
  rw [dDef_ref (k := 3) rfl (by simp)]
  have run : b__law_pairs [some (.ref lr), some ov, some (.ref tr), none, none, none, none, none, none] G = .rt (.ref f') (G3 ++ E ++ E') := by
    have s1 : sAsg (dCall f__law_held (aCons (dVar 0) (aCons (dVar 2) (aCons (dC (.int 1)) (aNil))))) (gName 3) [some (.ref lr), some ov, some (.ref tr), none, none, none, none, none, none] G = .nx [some (.ref lr), some ov, some (.ref tr), some (.ref r1), none, none, none, none, none] (G ++ E1) := by
      simp [e1]
    have s2 : ∀ e : DE, e [some (.ref lr), some ov, some (.ref tr), some (.ref r1), none, none, none, none, none] (G ++ E1) = .ok (.ref r2) G2 → sAsg e (gName 4) [some (.ref lr), some ov, some (.ref tr), some (.ref r1), none, none, none, none, none] (G ++ E1) = .nx [some (.ref lr), some ov, some (.ref tr), some (.ref r1), some (.ref r2), none, none, none, none] G2 := fun e h => by
      rw [sAsg_ap, h]; rfl
    have hble : C.length ≤ 16777216 := by omega
    have s3 : sAsg (dTup (aCons (dLst (aNil)) (aCons (dListRg (dB bLen (aCons (dVar 2) (aNil)))) (aNil)))) (gTup [gName 5, gName 6]) [some (.ref lr), some ov, some (.ref tr), some (.ref r1), some (.ref r2), none, none, none, none] G2 = .nx [some (.ref lr), some ov, some (.ref tr), some (.ref r1), some (.ref r2), some (.ref G2.length), some (.ref (G2.length + 1)), none, none] G3 := by
      simp [-bLen_ref, bl, hble, hG3]
    have sq : seqOf G3 (.ref (G2.length + 1)) = some (upTo 0 C.length, [(G2.length + 1, .lst (upTo 0 C.length))]) := by simp only [seqOf, hm3]
    unfold b__law_pairs
    rw [dSeq_ap, s1, thn_nx, dSeq_ap, s2 _ e2, thn_nx, dSeq_ap, s3, thn_nx, dSeq_ap, sFor_ap]
    have s4 : iSeq (dVar 6) [some (.ref lr), some ov, some (.ref tr), some (.ref r1), some (.ref r2), some (.ref G2.length), some (.ref (G2.length + 1)), none, none] G3 = .ok (upTo 0 C.length, [(G2.length + 1, .lst (upTo 0 C.length))]) G3 := by
      simp [sq]
    rw [s4, R.st_ok]
    simp only
    rw [e, thn_nx, dSeq_ap, el]
    simp
  show gcR G (outR (b__law_pairs [some (.ref lr), some ov, some (.ref tr), none, none, none, none, none, none] G)) = _
  rw [run, hGE]
  unfold gcR
  have : closedV G.length (.ref f') = false := by simp; omega
  simp only [outR_rt, this, Bool.false_and]
  simp
end DL
end S_T70
section S_U70
set_option linter.all false
set_option maxRecDepth 1000000
set_option maxHeartbeats 4000000
/-! U70: what a line and two places show, both sides. -/
namespace DL
/-- a paper: data that can be told, or an empty dict -/
def Pap (G : Hv) (v : VV) : Prop := (Tm G 4 v ∧ (∀ xs, v = .tup xs → ∀ x ∈ xs, ∀ ys, x = .tup ys → ys.length < 1000)) ∨ ∃ i kvs, v = .ref i ∧ G[i]? = some (.dic kvs)
theorem Pap.more {G : Hv} {v : VV} (h : Pap G v) (E : Hv) : Pap (G ++ E) v := by
  rcases h with ⟨h1, h2⟩ | ⟨i, kvs, h1, h2⟩
  · exact .inl ⟨h1.more E, h2⟩
  · exact .inr ⟨i, kvs, h1, keepA E h2⟩
theorem Pap.any {G G' : Hv} {v : VV} (h : Pap G v) (hG : closedV 0 v = false → G' = G) : Pap G' v := by
  by_cases c : closedV 0 v = true
  · rcases h with ⟨⟨d, e⟩, h2⟩ | ⟨i, kvs, rfl, h2⟩
    · exact .inl ⟨⟨d, toPD_closed c e⟩, h2⟩
    · simp at c
  · obtain rfl : G' = G := hG (by simpa using c)
    exact h
def pairVV (ls : List VV) (o : Option (List VV)) (C : List Cell) : VV → VV → Bool
  | .int x, .int y => pairB ls o C x.toNat y.toNat
  | _, _ => false
def showsU (ls : List VV) (o : Option (List VV)) (plan : List Nat) (v : VV) : Bool := match v with
  | .tup [ln, xv, yv] => lineOk ln && match ln with
    | .tup xs => match asInts xs with
      | some is => fitP (signsOf is) plan && ([xv, yv].all (placeOk (cells is 0 0).length) && pairVV ls o (cells is 0 0) xv yv)
      | none => false
    | _ => false
  | _ => false
theorem showsU_len {ls : List VV} {o : Option (List VV)} {plan : List Nat} {xs : List VV} (h : xs.length ≠ 3) : showsU ls o plan (.tup xs) = false := by
  unfold showsU
  split
  · rename_i h2
    cases h2
    exact (h rfl).elim
  · rfl
theorem inL_pairs {G : Hv} {x y : Nat} (PL : List (Nat × Nat)) : inL G (.tup [.int x, .int y]) (PL.map pV) = some (decide ((x, y) ∈ PL)) := by
  have e : mapO (toPD G DEPTH) (PL.map pV) = some (PL.map fun p => PD.tup [.int p.1, .int p.2]) := by
    induction PL with
    | nil => rfl
    | cons a r ih =>
      rw [List.map_cons, mapO_cons, ih]
      rfl
  unfold inL
  rw [e]
  simp only [DEPTH_eq, toPD_tup, mapO_cons, toPD_int, mapO_nil, Option.map_some]
  congr 1
  rw [Bool.eq_iff_iff, decide_eq_true_eq, List.any_map, List.any_eq_true]
  constructor
  · rintro ⟨⟨a, b⟩, hm, he⟩
    simp at he
    have h1 : a = x := by omega
    have h2 : b = y := by omega
    rw [← h1, ← h2]
    exact hm
  · intro hm
    exact ⟨(x, y), hm, by simp⟩
theorem inL_ints {G : Hv} (y : Int) (L : List Int) : inL G (.int y) (L.map VV.int) = some (decide (y ∈ L)) := by
  unfold inL
  rw [DEPTH_eq, mapO_int]
  simp only [toPD_int]
  congr 1
  rw [Bool.eq_iff_iff, decide_eq_true_eq, List.any_map, List.any_eq_true]
  constructor
  · rintro ⟨a, hm, he⟩
    simp at he
    rw [← he]
    exact hm
  · intro hm
    exact ⟨y, hm, by simp⟩
theorem law_shows_eq {G : Hv} {lr : Nat} {ls : List VV} {plan : List Nat} {ov v : VV} {o : Option (List VV)} (h4 : ls.length ≤ 4) (hl : ∀ l ∈ ls, l ∈ allLays) (hp : G[lr]? = some (.lst ls)) (hov : OtherAt G ov o) (hv : Pap G v) :
    f__law_shows [.ref lr, ov, .str plan, v] G = .ok (.bl (showsU ls o plan v)) G := by
  refine pure_any (fun G' hG => ?_) (by simp)
  obtain rfl : G' = G := hG (by simp)
  rcases hv with ⟨hv, hs⟩ | ⟨i, kvs, rfl, hd⟩
  · cases hv.c with
    | ref i xs e => exact ⟨[], by simp [b__law_shows, start, isTy, e, showsU]⟩
    | tup xs =>
      by_cases h2 : xs.length = 3
      · match xs, h2 with
        | [ln, xv, yv], _ =>
          have tln : Tm G' 3 ln := hv.tup ln (by simp)
          have lo := law_is_line_eq tln (by omega) (hs _ rfl ln (by simp))
          have i0 : ∀ G, oIx G (.tup [ln, xv, yv]) (.int 0) = some ln := fun _ => rfl
          have i1 : ∀ G, oIx G (.tup [ln, xv, yv]) (.int 1) = some xv := fun _ => rfl
          have i2 : ∀ G, oIx G (.tup [ln, xv, yv]) (.int 2) = some yv := fun _ => rfl
          have sl : ∀ G, oSlice (.tup [ln, xv, yv]) (some 1) none G = some (.tup [xv, yv], G) := fun _ => rfl
          have tsl : Tm G' 4 (.tup [xv, yv]) := Tm.mkTup fun x hx => hv.tup x (by simp at hx ⊢; rcases hx with h | h <;> simp [h])
          cases hlo : lineOk ln with
          | false =>
            rw [hlo] at lo
            exact ⟨[], by simp [b__law_shows, start, isTy, i0, lo, showsU, hlo]⟩
          | true =>
            obtain ⟨is, rfl, hne, h60⟩ := line_ints hlo
            rw [hlo] at lo
            have hlen := hs _ rfl _ (List.mem_cons_self ..) _ rfl
            rw [List.length_map] at hlen
            obtain ⟨kk, E, er, hp1⟩ := law_rows_eq hlen (by omega) G'
            rw [cellsT_eq is 0 0] at hp1
            have hR := rows_cells is
            have hCl := cells_len is 0 0
            have hsp : showsU ls o plan (.tup [.tup (is.map VV.int), xv, yv]) = (fitP (signsOf is) plan && ([xv, yv].all (placeOk (cells is 0 0).length) && pairVV ls o (cells is 0 0) xv yv)) := by
              simp [showsU, hlo, asInts_map] <;> rfl
            rw [hsp]
            generalize cells is 0 0 = C at hp1 hR hCl
            have hfit := law_fits_eq (G := G' ++ E) (p := plan) hlen hne
            cases hf : fitP (signsOf is) plan with
            | false =>
              rw [hf] at hfit
              exact ⟨E, by simp [b__law_shows, start, isTy, i0, i1, lo, er, hfit]⟩
            | true =>
              rw [hf] at hfit
              have ap := are_places_eq (m := C.length) (tsl.more E)
              have bl0 : bLen [.ref (G'.length + kk)] (G' ++ E) = some (.int C.length, G' ++ E) := by simp [asListR, hp1]
              cases hall : [xv, yv].all (placeOk C.length) with
              | false =>
                rw [hall] at ap
                exact ⟨E, by simp [-bLen_ref, -oSlice_tup, b__law_shows, start, isTy, i0, i1, lo, er, hfit, bl0, sl, ap]⟩
              | true =>
                rw [hall] at ap
                obtain ⟨js, hjs, hj⟩ := places_ints hall
                match js, hjs with
                | [x, y], hjs =>
                  cases hjs
                  have hx := hj x (by simp)
                  have hy := hj y (by simp)
                  obtain ⟨xn, rfl⟩ : ∃ n : Nat, x = (n : Int) := ⟨x.toNat, by omega⟩
                  obtain ⟨yn, rfl⟩ : ∃ n : Nat, y = (n : Int) := ⟨y.toNat, by omega⟩
                  obtain ⟨r, E2, ep, _, hr⟩ := law_pairs_eq hR hl h4 (by omega) (keepA E hp) hp1 (hov.more E)
                  have hin := inL_pairs (G := G' ++ E ++ E2) (x := xn) (y := yn) (pairsL ls o C)
                  have hdec : decide ((xn, yn) ∈ pairsL ls o C) = pairB ls o C xn yn := by
                    rw [Bool.eq_iff_iff, decide_eq_true_eq, mem_pairs]
                    constructor
                    · exact fun h => h.2.2
                    · exact fun h => ⟨by omega, by omega, h⟩
                  rw [hdec] at hin
                  simp only [pairVV, Int.toNat_natCast, Bool.true_and]
                  generalize pairB ls o C xn yn = res at hin
                  refine ⟨E ++ E2, ?_⟩
                  have hGG : G' ++ (E ++ E2) = G' ++ E ++ E2 := by simp
                  rw [hGG]
                  generalize hG1 : G' ++ E = G1 at er hfit bl0 ap ep hr hin hp1
                  simp [-bLen_ref, -oSlice_tup, b__law_shows, start, isTy, i0, i1, i2, lo, er, hfit, bl0, sl, ap, ep, hr, hin]
      · have h2' : ¬ (xs.length : Int) = 3 := by omega
        exact ⟨[], by simp [b__law_shows, start, isTy, h2', showsU_len h2]⟩
    | _ => exact ⟨[], by simp [b__law_shows, start, isTy, showsU]⟩
  · exact ⟨[], by simp [b__law_shows, start, isTy, hd, showsU]⟩
end DL
end S_U70
section S_V70
set_option linter.all false
set_option maxRecDepth 1000000
set_option maxHeartbeats 4000000
/-! V70: the checker. -/
namespace DL
def noVV (C : List Cell) : VV → Bool
  | .int x => noC (cAt C x)
  | _ => true
/-- whether a paper is a line of a plan, a true place and a place -/
def pairOk (plan : List Nat) (v : VV) : Bool := match v with
  | .tup [ln, xv, yv] => lineOk ln && match ln with
    | .tup xs => match asInts xs with
      | some is => fitP (signsOf is) plan && ([xv, yv].all (placeOk (cells is 0 0).length) && !noVV (cells is 0 0) xv)
      | none => false
    | _ => false
  | _ => false
theorem pairOk_len {plan : List Nat} {xs : List VV} (h : xs.length ≠ 3) : pairOk plan (.tup xs) = false := by
  unfold pairOk
  split
  · rename_i h2
    cases h2
    exact (h rfl).elim
  · rfl
theorem place_pair_eq {G : Hv} {plan : List Nat} {v : VV} (hv : Pap G v) : f_is_place_pair [.str plan, v] G = .ok (.bl (pairOk plan v)) G := by
  refine pure_any (fun G' hG => ?_) (by simp)
  have hv := hv.any (G' := G') (fun c => hG (by simp [c]))
  rcases hv with ⟨hv, hs⟩ | ⟨i, kvs, rfl, hd⟩
  · cases hv.c with
    | ref i xs e => exact ⟨[], by simp [b_is_place_pair, start, isTy, e, pairOk]⟩
    | tup xs =>
      by_cases h2 : xs.length = 3
      · match xs, h2 with
        | [ln, xv, yv], _ =>
          have tln : Tm G' 3 ln := hv.tup ln (by simp)
          have lo := line_of_eq (p := plan) tln (by omega) (hs _ rfl ln (by simp))
          have i0 : ∀ G, oIx G (.tup [ln, xv, yv]) (.int 0) = some ln := fun _ => rfl
          have i1 : ∀ G, oIx G (.tup [ln, xv, yv]) (.int 1) = some xv := fun _ => rfl
          have sl : ∀ G, oSlice (.tup [ln, xv, yv]) (some 1) none G = some (.tup [xv, yv], G) := fun _ => rfl
          have tx : ∀ x ∈ [xv, yv], Tm G' 3 x := fun x hx => hv.tup x (by simp at hx ⊢; rcases hx with h | h <;> simp [h])
          cases hlo : lineOk ln with
          | false =>
            rw [hlo] at lo
            exact ⟨[], by simp [b_is_place_pair, start, isTy, i0, lo, pairOk, hlo]⟩
          | true =>
            obtain ⟨is, rfl, hne, h60⟩ := line_ints hlo
            rw [hlo] at lo
            simp only [asInts_map, Bool.true_and] at lo
            have hlen := hs _ rfl _ (List.mem_cons_self ..) _ rfl
            rw [List.length_map] at hlen
            have hsp : pairOk plan (.tup [.tup (is.map VV.int), xv, yv]) = (fitP (signsOf is) plan && ([xv, yv].all (placeOk (cells is 0 0).length) && !noVV (cells is 0 0) xv)) := by
              simp [pairOk, hlo, asInts_map] <;> rfl
            rw [hsp]
            cases hf : fitP (signsOf is) plan with
            | false =>
              rw [hf] at lo
              exact ⟨[], by simp [b_is_place_pair, start, isTy, i0, lo]⟩
            | true =>
              rw [hf] at lo
              obtain ⟨E, er⟩ := rows_by_place_eq hlen (by omega) G'
              rw [cellsP_eq is 0 0] at er
              have hR := rows_cells is
              generalize cells is 0 0 = C at er hR
              have m1 := lcL_map (chk := []) (g := gName 3) (e := dCall f_is_within (aCons (dVar 3) (aCons (dC (.int 0)) (aCons (dBin oSub (dB bLen (aCons (dVar 2) (aNil))) (dC (.int 1))) (aNil))))) (vs := [3])
                (S0 := [some (.str plan), some (.tup [.tup (is.map VV.int), xv, yv]), some (.ref G'.length), none]) (f := fun x => .bl (placeOk C.length x)) [xv, yv] (G' ++ .lst (C.map cP) :: E) rfl (fun _ => rfl) (by show 2 < 16777216; decide) (by
                  intro x o hx
                  have hxt := ((tx x hx).more (.lst (C.map cP) :: E)).more [o]
                  refine ⟨[some (.str plan), some (.tup [.tup (is.map VV.int), xv, yv]), some (.ref G'.length), some x], by simp, ?_⟩
                  have hw := is_within_eq (m := C.length) hxt
                  simp at hw
                  simp [asListR, hw])
              have hb : bAll [.ref (G' ++ VO.lst (C.map cP) :: E).length] (G' ++ .lst (C.map cP) :: E ++ [.lst ([xv, yv].map fun x => .bl (placeOk C.length x))]) = some (.bl ([xv, yv].all (placeOk C.length)), G' ++ .lst (C.map cP) :: E ++ [.lst ([xv, yv].map fun x => .bl (placeOk C.length x))]) := by
                unfold bAll
                simp only [asListR, List.getElem?_concat_length, asBls_map]
                simp
              have hn : (G' ++ VO.lst (C.map cP) :: E).length = G'.length + (E.length + 1) := by simp
              simp only [List.append_assoc, List.cons_append] at m1 hb
              rw [hn] at m1 hb
              refine ⟨.lst (C.map cP) :: (E ++ [.lst ([xv, yv].map fun x => .bl (placeOk C.length x))]), ?_⟩
              have hp2 : (G' ++ .lst (C.map cP) :: (E ++ [.lst ([xv, yv].map fun x => .bl (placeOk C.length x))]))[G'.length]? = some (.lst (C.map cP)) := by simp
              cases hall : [xv, yv].all (placeOk C.length) with
              | false =>
                rw [hall] at hb
                generalize (G' ++ VO.lst (C.map cP) :: (E ++ [VO.lst ([xv, yv].map fun x => .bl (placeOk C.length x))])) = G2 at m1 hb ⊢
                simp [-oSlice_tup, b_is_place_pair, start, isTy, i0, lo, er, sl, seqOf, wipe, m1, hb]
              | true =>
                rw [hall] at hb
                obtain ⟨js, hjs, hj⟩ := places_ints hall
                match js, hjs with
                | [x, y], hjs =>
                  cases hjs
                  have hx := hj x (by simp)
                  have ic := ix_cell (z := x) hp2 hx.1 hx.2
                  have hn0 := isN_cP (cAt C x)
                  simp only [noVV, Bool.true_and]
                  generalize (G' ++ VO.lst (C.map cP) :: (E ++ [VO.lst ([VV.int x, VV.int y].map fun x => .bl (placeOk C.length x))])) = G2 at m1 hb ic ⊢
                  simp [-oSlice_tup, b_is_place_pair, start, isTy, i0, i1, lo, er, sl, seqOf, wipe, m1, hb, ic, hn0]
      · have h2' : ¬ (xs.length : Int) = 3 := by omega
        exact ⟨[], by simp [b_is_place_pair, start, isTy, h2', pairOk_len h2]⟩
    | _ => exact ⟨[], by simp [b_is_place_pair, start, isTy, pairOk]⟩
  · exact ⟨[], by simp [b_is_place_pair, start, isTy, hd, pairOk]⟩
/-- what is behind an accepted paper -/
theorem pairOk_use {plan : List Nat} {v : VV} (h : pairOk plan v = true) (hs : ∀ xs, v = .tup xs → ∀ x ∈ xs, ∀ ys, x = .tup ys → ys.length < 1000) : ∃ (is : List Int) (x y : Nat), v = .tup [.tup (is.map VV.int), .int x, .int y] ∧ lineOk (.tup (is.map VV.int)) = true ∧ is.length < 1000 ∧ absSum is ≤ 60 ∧ x < (cells is 0 0).length ∧ y < (cells is 0 0).length ∧
    ∀ ls o, showsU ls o plan v = (xor (decide ((y : Int) ∈ hereF ls (cells is 0 0) x)) (decide ((y : Int) ∈ thereF ls o (cells is 0 0) x)) && (o.isSome || decide ((y : Int) ∈ hereF ls (cells is 0 0) x))) := by
  unfold pairOk at h
  split at h
  · rename_i ln xv yv
    rw [Bool.and_eq_true] at h
    obtain ⟨is, rfl, hne, h60⟩ := line_ints h.1
    have h2 := h.2
    simp only [asInts_map, Bool.and_eq_true] at h2
    obtain ⟨hf, hall, hno⟩ := h2
    obtain ⟨js, hjs, hj⟩ := places_ints hall
    match js, hjs with
    | [x, y], hjs =>
      cases hjs
      have hx := hj x (by simp)
      have hy := hj y (by simp)
      obtain ⟨xn, rfl⟩ : ∃ n : Nat, x = (n : Int) := ⟨x.toNat, by omega⟩
      obtain ⟨yn, rfl⟩ : ∃ n : Nat, y = (n : Int) := ⟨y.toNat, by omega⟩
      refine ⟨is, xn, yn, rfl, h.1, by have := hs _ rfl _ (List.mem_cons_self ..) _ rfl; simpa using this, h60, by omega, by omega, fun ls o => ?_⟩
      have hxn : xn < (cells is 0 0).length := by omega
      have hsp : showsU ls o plan (.tup [.tup (is.map VV.int), .int xn, .int yn]) = pairB ls o (cells is 0 0) xn yn := by
        simp only [showsU, h.1, asInts_map, hf, hall, Bool.true_and, pairVV, Int.toNat_natCast]
      rw [hsp]
      have hR := rows_cells is
      have t1 := (here_tell ls hxn).2 yn
      have t2 := (there_tell ls o hR hxn).2 yn
      have hno' : noC (cAt (cells is 0 0) (xn : Nat)) = false := by simpa [noVV] using hno
      unfold pairB
      rw [hno']
      have d1 : Nat.testBit (hereM ls (cells is 0 0) xn).toNat yn = decide ((yn : Int) ∈ hereF ls (cells is 0 0) xn) := by
        rw [Bool.eq_iff_iff, decide_eq_true_eq]; exact t1.symm
      have d2 : Nat.testBit (thereM ls o (cells is 0 0) xn).toNat yn = decide ((yn : Int) ∈ thereF ls o (cells is 0 0) xn) := by
        rw [Bool.eq_iff_iff, decide_eq_true_eq]; exact t2.symm
      rw [d1, d2]
      rfl
  · cases h
theorem ix_hold {G : Hv} {Fs : List (List Int)} {x : Nat} (h : x < Fs.length) : oIx G (holdV Fs) (.int (x : Nat)) = some (.tup (((Fs[x]?).getD []).map VV.int)) := by
  unfold oIx holdV
  simp only [asSeq, atI, ixN, List.length_map]
  rw [if_pos (by omega), if_pos (by omega)]
  simp [List.getElem?_eq_getElem h]
theorem cin_ints {G : Hv} (y : Nat) (L : List Int) : cIn G (.int (y : Nat)) (.tup (L.map VV.int)) = some (decide ((y : Int) ∈ L)) := by
  rw [cIn_tup, inL_ints]
/-- the program with these layers -/
structure ProgAt (G : Hv) (q : Nat) (ls : List VV) : Prop where
  at_ : G[q]? = some (progV ls)
  le : ls.length ≤ 4
  ok : ∀ l ∈ ls, l ∈ allLays
theorem not_pair {ls : List VV} {o : Option (List VV)} {plan : List Nat} {v : VV} (h : pairOk plan v = false) : showsU ls o plan v = false := by
  unfold pairOk at h
  unfold showsU
  split at h
  · rename_i ln xv yv
    try simp only
    cases hlo : lineOk ln with
    | false => rfl
    | true =>
      obtain ⟨is, rfl, hne, h60⟩ := line_ints hlo
      rw [hlo] at h
      simp only [asInts_map, Bool.true_and] at h ⊢
      cases hf : fitP (signsOf is) plan with
      | false => rfl
      | true =>
        rw [hf] at h
        simp only [Bool.true_and] at h ⊢
        cases hall : [xv, yv].all (placeOk (cells is 0 0).length) with
        | false => rfl
        | true =>
          rw [hall] at h
          obtain ⟨js, hjs, hj⟩ := places_ints hall
          match js, hjs with
          | [x, y], hjs =>
            cases hjs
            have hx := hj x (by simp)
            simp only [noVV, Bool.true_and, Bool.not_eq_false'] at h
            simp only [pairVV, Bool.true_and]
            unfold pairB
            rw [Int.toNat_of_nonneg hx.1, h]
            rfl
  · rename_i hne
    first
    | rfl
    | (split
       · rename_i ln xv yv
         exact (hne ln xv yv rfl).elim
       · rfl)
theorem shows_more_eq {G : Hv} {q : Nat} {ls : List VV} {plan : List Nat} {v : VV} (hq : ProgAt G q ls) (hv : Pap G v) : f_shows_more [.ref q, .str plan, v] G = .ok (.bl (showsU ls none plan v)) G := by
  refine pure_any (fun G' hG => ?_) (by simp)
  obtain rfl : G' = G := hG (by simp)
  refine ⟨[], ?_⟩
  have pp := place_pair_eq (plan := plan) hv
  cases hpo : pairOk plan v with
  | false =>
    rw [hpo] at pp
    rw [not_pair hpo]
    simp [b_shows_more, start, pp]
  | true =>
    rw [hpo] at pp
    have hs : ∀ xs, v = .tup xs → ∀ x ∈ xs, ∀ ys, x = .tup ys → ys.length < 1000 := by
      rcases hv with h | ⟨i, kvs, rfl, _⟩
      · exact h.2
      · intro xs h; cases h
    obtain ⟨is, x, y, rfl, hlo, hlen, h60, hx, hy, hsh⟩ := pairOk_use hpo hs
    rw [hsh]
    have he := held_eq hq.ok hq.le hq.at_ hlo hlen h60
    have al := alone_eq hq.ok hq.le hq.at_ hlo hlen h60
    have gl := (goodF_held ls (cells is 0 0)).len
    have ih := ix_hold (G := G') (Fs := heldF ls (cells is 0 0)) (x := x) (by omega)
    have ia := ix_hold (G := G') (Fs := (List.range (cells is 0 0).length).map (aF ls (cells is 0 0))) (x := x) (by simpa using hx)
    have ea : (((List.range (cells is 0 0).length).map (aF ls (cells is 0 0)))[x]?).getD [] = aF ls (cells is 0 0) x := by simp [hx]
    rw [ea] at ia
    have ch := cin_ints (G := G') y (((heldF ls (cells is 0 0))[x]?).getD [])
    have ca : cNin G' (.int (y : Nat)) (.tup ((aF ls (cells is 0 0) x).map VV.int)) = some (!decide ((y : Int) ∈ aF ls (cells is 0 0) x)) := by
      show (cIn _ _ _).map not = _
      rw [cin_ints]; rfl
    unfold hereF thereF
    generalize (((heldF ls (cells is 0 0))[x]?).getD []) = L1 at ih ch
    generalize aF ls (cells is 0 0) x = L2 at ia ca
    generalize decide ((y : Int) ∈ L1) = d1 at ch ⊢
    generalize decide ((y : Int) ∈ L2) = d2 at ca ⊢
    cases d1 <;> cases d2 <;> simp [-cIn_tup, b_shows_more, start, pp, he, al, ih, ia, ch, ca]
theorem shows_unlike_eq {G : Hv} {q q2 : Nat} {ls l2 : List VV} {plan : List Nat} {v : VV} (hq : ProgAt G q ls) (hq2 : ProgAt G q2 l2) (hv : Pap G v) : f_shows_unlike [.ref q, .ref q2, .str plan, v] G = .ok (.bl (showsU ls (some l2) plan v)) G := by
  refine pure_any (fun G' hG => ?_) (by simp)
  obtain rfl : G' = G := hG (by simp)
  refine ⟨[], ?_⟩
  have pp := place_pair_eq (plan := plan) hv
  cases hpo : pairOk plan v with
  | false =>
    rw [hpo] at pp
    rw [not_pair hpo]
    simp [b_shows_unlike, start, pp]
  | true =>
    rw [hpo] at pp
    have hs : ∀ xs, v = .tup xs → ∀ x ∈ xs, ∀ ys, x = .tup ys → ys.length < 1000 := by
      rcases hv with h | ⟨i, kvs, rfl, _⟩
      · exact h.2
      · intro xs h; cases h
    obtain ⟨is, x, y, rfl, hlo, hlen, h60, hx, hy, hsh⟩ := pairOk_use hpo hs
    rw [hsh]
    have he := held_eq hq.ok hq.le hq.at_ hlo hlen h60
    have h2 := held_eq hq2.ok hq2.le hq2.at_ hlo hlen h60
    have gl := (goodF_held ls (cells is 0 0)).len
    have gl2 := (goodF_held l2 (cells is 0 0)).len
    have ih := ix_hold (G := G') (Fs := heldF ls (cells is 0 0)) (x := x) (by omega)
    have ia := ix_hold (G := G') (Fs := heldF l2 (cells is 0 0)) (x := x) (by omega)
    have ch := cin_ints (G := G') y (((heldF ls (cells is 0 0))[x]?).getD [])
    have ca := cin_ints (G := G') y (((heldF l2 (cells is 0 0))[x]?).getD [])
    show _ = O.rt (.bl (xor (decide ((y : Int) ∈ ((heldF ls (cells is 0 0))[x]?).getD [])) (decide ((y : Int) ∈ ((heldF l2 (cells is 0 0))[x]?).getD [])) && true)) _
    generalize (((heldF ls (cells is 0 0))[x]?).getD []) = L1 at ih ch
    generalize (((heldF l2 (cells is 0 0))[x]?).getD []) = L2 at ia ca
    generalize decide ((y : Int) ∈ L1) = d1 at ch ⊢
    generalize decide ((y : Int) ∈ L2) = d2 at ca ⊢
    have ob : ∀ a b : Bool, oEq G' (.bl a) (.bl b) = some (a == b) := fun a b => oEq_bl a b G'
    cases d1 <;> cases d2 <;> simp [-cIn_tup, b_shows_unlike, start, pp, he, h2, ih, ia, ch, ca, ob]
end DL
end S_V70
section S_W70
set_option linter.all false
set_option maxRecDepth 1000000
set_option maxHeartbeats 4000000
/-! W70: accepts; the paper that is bent. -/
namespace DL
theorem prog_at {G : Hv} {ls : List VV} (h4 : ls.length ≤ 4) (hl : ∀ l ∈ ls, l ∈ allLays) : ProgAt (G ++ [.lst (texts ls), progV ls]) (G.length + 1) ls := ⟨by simp [List.getElem?_append_right], h4, hl⟩
theorem ProgAt.more {G : Hv} {q : Nat} {ls : List VV} (h : ProgAt G q ls) (E : Hv) : ProgAt (G ++ E) q ls := ⟨keepA E h.at_, h.le, h.ok⟩
theorem accepts_more {G : Hv} {ls : List VV} {plan : List Nat} {v : VV} (hpl : plan ∈ planS) (hls : ls ≠ []) (h4 : ls.length ≤ 4) (hl : ∀ l ∈ ls, l ∈ allLays) (h8 : wsum ls ≤ 8) (hv : Pap G v) :
    f_accepts [.tup [.str [109, 111, 114, 101], .str (wholeText ls), .str plan], v] G = .ok (.bl (showsU ls none plan v)) G := by
  refine pure_any (fun G' hG => ?_) (by simp)
  have h' := hv.any (G' := G') (fun c => hG (by simp [c]))
  have n1 : cNin G' (.str plan) c_PLANS = some false := nin_of (ss := planS) hpl
  have en := eqNil (G := G') (n := 1) (xs := [.str [109, 111, 114, 101], .str (wholeText ls), .str plan]) (Tm.mkTup fun x hx => by simp at hx; rcases hx with rfl | rfl | rfl <;> exact ⟨_, rfl⟩) (by decide)
  have i0 : ∀ G, oIx G (.tup [.str [109, 111, 114, 101], .str (wholeText ls), .str plan]) (.int 0) = some (.str [109, 111, 114, 101]) := fun _ => rfl
  have i1 : ∀ G, oIx G (.tup [.str [109, 111, 114, 101], .str (wholeText ls), .str plan]) (.int 1) = some (.str (wholeText ls)) := fun _ => rfl
  have i3 : ∀ G, oIx G (.tup [.str [109, 111, 114, 101], .str (wholeText ls), .str plan]) (.int (-1)) = some (.str plan) := fun _ => rfl
  have po := program_of_eq hls hl h4 h8 G'
  have sm := shows_more_eq (plan := plan) (prog_at (G := G') h4 hl) (h'.more [.lst (texts ls), progV ls])
  refine ⟨[.lst (texts ls), progV ls], ?_⟩
  simp [b_accepts, start, isTy, en, i0, i1, i3, n1, po, sm, dGetC, c_SIZES, tblGet]
theorem accepts_unlike {G : Hv} {ls l2 : List VV} {plan : List Nat} {v : VV} (hpl : plan ∈ planS) (hls : ls ≠ []) (h4 : ls.length ≤ 4) (hl : ∀ l ∈ ls, l ∈ allLays) (h8 : wsum ls ≤ 8) (hls2 : l2 ≠ []) (h42 : l2.length ≤ 4) (hl2 : ∀ l ∈ l2, l ∈ allLays) (h82 : wsum l2 ≤ 8) (hv : Pap G v) :
    f_accepts [.tup [.str [117, 110, 108, 105, 107, 101], .str (wholeText ls), .str (wholeText l2), .str plan], v] G = .ok (.bl (showsU ls (some l2) plan v)) G := by
  refine pure_any (fun G' hG => ?_) (by simp)
  have h' := hv.any (G' := G') (fun c => hG (by simp [c]))
  have n1 : ∀ G, cNin G (.str plan) c_PLANS = some false := fun _ => nin_of (ss := planS) hpl
  have en := eqNil (G := G') (n := 1) (xs := [.str [117, 110, 108, 105, 107, 101], .str (wholeText ls), .str (wholeText l2), .str plan]) (Tm.mkTup fun x hx => by simp at hx; rcases hx with rfl | rfl | rfl | rfl <;> exact ⟨_, rfl⟩) (by decide)
  have i0 : ∀ G, oIx G (.tup [.str [117, 110, 108, 105, 107, 101], .str (wholeText ls), .str (wholeText l2), .str plan]) (.int 0) = some (.str [117, 110, 108, 105, 107, 101]) := fun _ => rfl
  have i1 : ∀ G, oIx G (.tup [.str [117, 110, 108, 105, 107, 101], .str (wholeText ls), .str (wholeText l2), .str plan]) (.int 1) = some (.str (wholeText ls)) := fun _ => rfl
  have i2 : ∀ G, oIx G (.tup [.str [117, 110, 108, 105, 107, 101], .str (wholeText ls), .str (wholeText l2), .str plan]) (.int 2) = some (.str (wholeText l2)) := fun _ => rfl
  have i3 : ∀ G, oIx G (.tup [.str [117, 110, 108, 105, 107, 101], .str (wholeText ls), .str (wholeText l2), .str plan]) (.int (-1)) = some (.str plan) := fun _ => rfl
  have po := program_of_eq hls hl h4 h8 G'
  have po2 := program_of_eq hls2 hl2 h42 h82 (G' ++ [.lst (texts ls), progV ls])
  have su := shows_unlike_eq (plan := plan) ((prog_at (G := G') h4 hl).more [.lst (texts l2), progV l2]) (prog_at (G := G' ++ [.lst (texts ls), progV ls]) h42 hl2) ((h'.more [.lst (texts ls), progV ls]).more [.lst (texts l2), progV l2])
  refine ⟨[.lst (texts ls), progV ls, .lst (texts l2), progV l2], ?_⟩
  simp only [List.append_assoc, List.cons_append, List.nil_append, List.length_append, List.length_cons, List.length_nil] at po2 su
  simp [b_accepts, start, isTy, en, i0, i1, i2, i3, n1, po, po2, su, dGetC, c_SIZES, tblGet]
/-! the paper -/
theorem bent_fin {G G1 : Hv} {p : Nat} {v : VV} (w : Wd p G G1) (hT : Pap G1 v) (hc : closedV 0 v = true ∨ closedV G.length v = false) : Wp (gcR G (.ok v G1)) fun v G2 => Wd p G G2 ∧ Pap G2 v := by
  rcases hc with hc | hc
  · obtain ⟨G2, n, e⟩ := w.fin (closedV_mono _ hc)
    exact ⟨v, G2, e, n.wd, hT.any fun c => by rw [hc] at c; cases c⟩
  · refine ⟨v, G1, ?_, w, hT⟩
    unfold gcR
    simp [hc]
/-- something odd -/
structure Odd (G G1 : Hv) (x : VV) : Prop where
  tm : Tm G1 3 x
  sz : ∀ ys, x = .tup ys → ys.length < 1000
  cl : closedV 0 x = true ∨ closedV G.length x = false
theorem Odd.int (G G1 : Hv) (i : Int) : Odd G G1 (.int i) := ⟨⟨_, rfl⟩, fun _ h => (by cases h), .inl (by simp)⟩
theorem Odd.ints (G G1 : Hv) {is : List Int} (h : is.length < 1000) : Odd G G1 (.tup (is.map VV.int)) := ⟨tm_ints _ 1 is, fun ys e => (by cases e; simpa using h), .inl (by simp [closedL_ints])⟩
theorem odd_ref {G G1 : Hv} {i : Nat} {is : List Int} (h : G1[i]? = some (.lst (is.map VV.int))) (hi : G.length ≤ i) : Odd G G1 (.ref i) := ⟨tm_lst h fun x hx => by
  obtain ⟨k, _, rfl⟩ := List.mem_map.mp hx
  exact tm_int _ 1 k, fun _ h => (by cases h), .inr (by simp; omega)⟩
theorem odd_tup {G G1 : Hv} : ∀ {xs : List VV}, (∀ x ∈ xs, Odd G G1 x) → closedL 0 xs = true ∨ closedL G.length xs = false
  | [], _ => .inl (by simp)
  | x :: xs, h => by
    have h1 := (h x (by simp)).cl
    have h2 := odd_tup fun y hy => h y (List.mem_cons_of_mem _ hy)
    rcases h1 with h1 | h1
    · rcases h2 with h2 | h2
      · left; simp [h1, h2]
      · right; simp [h2]
    · right; simp [h1]
theorem paper_of {G G1 : Hv} {p : Nat} {xs : List VV} (w : Wd p G G1) (h : ∀ x ∈ xs, Odd G G1 x) : Wp (gcR G (.ok (.tup xs) G1)) fun v G2 => Wd p G G2 ∧ Pap G2 v := by
  refine bent_fin w (.inl ⟨Tm.mkTup fun x hx => (h x hx).tm, fun xs' e x hx ys hy => ?_⟩) ?_
  · cases e
    exact (h x hx).sz ys hy
  · rw [closedV_tup, closedV_tup]
    exact odd_tup h
theorem bent_spec {G : Hv} {p : Nat} {is : List Int} {x y : Int} (h : HasS G p) (hl : Line is 7) :
    Wp (f__law_bent [.ref p, .tup [.tup (is.map VV.int), .int x, .int y]] G) fun v G2 => Wd p G G2 ∧ Pap G2 v := by
  have hp := h.lt
  refine Wp_ref ?_
  have hl7 := hl.le
  have hM0 := absSum_pos hl.ne fun x hx => (hl.ok x hx).1
  have hM1 := absSum_le fun x hx => (hl.ok x hx).2
  have mu := lcL_map (chk := []) (g := gName 8) (e := dB bAbs (aCons (dVar 8) (aNil))) (vs := [8]) (S0 := [some (.ref p), some (.tup [.tup (is.map VV.int), .int x, .int y]), some (.tup (is.map VV.int)), some (.int x), some (.int y), none, none, none, none, none, none]) (f := absV) (is.map VV.int) G rfl (fun _ => rfl) (by rw [List.length_map]; show _ < 16777216; omega) (by
    intro x' o hx
    obtain ⟨i, _, rfl⟩ := List.mem_map.mp hx
    exact ⟨[some (.ref p), some (.tup [.tup (is.map VV.int), .int x, .int y]), some (.tup (is.map VV.int)), some (.int x), some (.int y), none, none, none, some (.int i), none, none], by simp, by simp [bAbs, absV]⟩)
  have bs : bSum [.ref G.length] (G ++ [.lst ((is.map VV.int).map absV)]) = some (.int (absSum is), G ++ [.lst ((is.map VV.int).map absV)]) := by
    unfold bSum
    simp only [asListR, List.getElem?_concat_length, asInts_abs]
    rfl
  obtain ⟨pick, G1, p0, p1, n1, w1, h1, e1⟩ := take_k (m := 9) h [.lst ((is.map VV.int).map absV)] (by decide) (by decide)
  obtain ⟨way, G2, y0, y1, n2, w2, h2, e2⟩ := take_k (m := 6) h1 [] (by decide) (by decide)
  simp at e2
  generalize absSum is = many at bs hM0 hM1
  have wA : Wd p G G2 := w1.wd hp w2
  have hle := wA.len
  have pw : oPow (.int 10) (.int 39) = fun G => some (.int 1000000000000000000000000000000000000000, G) := rfl
  let OD : List VV := [.non, .bl true, .bl false, .int (-1), .int many, .str [48], .tup [.int 0], .ref G2.length, .int 1000000000000000000000000000000000000000]
  have hg3 : (G2 ++ [VO.lst [.int 0], .lst OD])[G2.length + 1]? = some (.lst OD) := by simp [List.getElem?_append_right]
  have hr3 : (G2 ++ [VO.lst [.int 0], .lst OD])[G2.length]? = some (.lst ([0].map VV.int)) := by simp
  obtain ⟨odd, ho, i3⟩ := ix_lit hg3 p0 (by simp [OD]; omega)
  have w3 : Wd p G (G2 ++ [VO.lst [.int 0], .lst OD]) := wA.more _
  have h3 := hasA h2 [VO.lst [.int 0], .lst OD]
  have m1 : sAsg (dTup (aCons (dB bSum (aCons (dLc [8] (iSeq (dVar 2)) (gName 8) (tYes) (dB bAbs (aCons (dVar 8) (aNil)))) (aNil))) (aCons (dCall f__law_take (aCons (dVar 0) (aCons (dC (.int 9)) (aNil)))) (aCons (dCall f__law_take (aCons (dVar 0) (aCons (dC (.int 6)) (aNil)))) (aNil))))) (gTup [gName 5, gName 6, gName 7])
      [some (.ref p), some (.tup [.tup (is.map VV.int), .int x, .int y]), some (.tup (is.map VV.int)), some (.int x), some (.int y), none, none, none, none, none, none] G = .nx [some (.ref p), some (.tup [.tup (is.map VV.int), .int x, .int y]), some (.tup (is.map VV.int)), some (.int x), some (.int y), some (.int many), some (.int pick), some (.int way), none, none, none] G2 := by
    simp [-List.map_map, seqOf, wipe, mu, bs, e1, e2]
  have od : Odd G (G2 ++ [VO.lst [.int 0], .lst OD]) odd := by
    simp [OD] at ho
    rcases ho with rfl | rfl | rfl | rfl | rfl | rfl | rfl | rfl | rfl
    · exact ⟨⟨_, rfl⟩, fun _ h => (by cases h), .inl (by simp)⟩
    · exact ⟨⟨_, rfl⟩, fun _ h => (by cases h), .inl (by simp)⟩
    · exact ⟨⟨_, rfl⟩, fun _ h => (by cases h), .inl (by simp)⟩
    · exact .int ..
    · exact .int ..
    · exact ⟨⟨_, rfl⟩, fun _ h => (by cases h), .inl (by simp)⟩
    · exact .ints G _ (is := [0]) (by decide)
    · exact odd_ref hr3 hle
    · exact .int ..
  have m2 : sAsg (dIx (dLst (aCons (dC .non) (aCons (dC (.bl true)) (aCons (dC (.bl false)) (aCons (dUn oNeg (dC (.int 1))) (aCons (dVar 5) (aCons (dC (.str [48])) (aCons (dTup (aCons (dC (.int 0)) (aNil))) (aCons (dLst (aCons (dC (.int 0)) (aNil))) (aCons (dBin oPow (dC (.int 10)) (dC (.int 39))) (aNil))))))))))) (dVar 6)) (gName 9)
      [some (.ref p), some (.tup [.tup (is.map VV.int), .int x, .int y]), some (.tup (is.map VV.int)), some (.int x), some (.int y), some (.int many), some (.int pick), some (.int way), none, none, none] G2 = .nx [some (.ref p), some (.tup [.tup (is.map VV.int), .int x, .int y]), some (.tup (is.map VV.int)), some (.int x), some (.int y), some (.int many), some (.int pick), some (.int way), none, some odd, none] (G2 ++ [VO.lst [.int 0], .lst OD]) := by
    simp [OD] at i3
    simp [pw, i3, OD]
  have ri : Odd G (G2 ++ [VO.lst [.int 0], .lst OD]) (.tup (is.map VV.int)) := .ints G _ (by omega)
  simp only [b__law_bent, start, List.map_cons, List.map_nil, List.length_cons, List.length_nil, List.replicate, dSeq_ap]
  show Wp (gcR G (outR ((sAsg _ _ [some (.ref p), some (.tup [.tup (is.map VV.int), .int x, .int y]), none, none, none, none, none, none, none, none, none] G).thn _))) _
  have m0 : sAsg (dVar 1) (gTup [gName 2, gName 3, gName 4]) [some (.ref p), some (.tup [.tup (is.map VV.int), .int x, .int y]), none, none, none, none, none, none, none, none, none] G = .nx [some (.ref p), some (.tup [.tup (is.map VV.int), .int x, .int y]), some (.tup (is.map VV.int)), some (.int x), some (.int y), none, none, none, none, none, none] G := by simp
  rw [m0, thn_nx, dSeq_ap, m1, thn_nx, dSeq_ap, m2, thn_nx]
  generalize hG3 : G2 ++ [VO.lst [.int 0], .lst OD] = G3 at w3 h3 od ri
  have hl3 : G2.length ≤ G3.length := by rw [← hG3, List.length_append]; omega
  have three : ∀ {a b c : VV} {A : Hv}, Wd p G A → Odd G A a → Odd G A b → Odd G A c → Wp (gcR G (.ok (.tup [a, b, c]) A)) fun v G2 => Wd p G G2 ∧ Pap G2 v := fun w ha hb hc => paper_of w fun z hz => by
    simp at hz
    rcases hz with rfl | rfl | rfl
    · exact ha
    · exact hb
    · exact hc
  by_cases c0 : way = 0
  · subst c0
    simp
    exact three w3 ri od (.int ..)
  by_cases c1 : way = 1
  · subst c1
    simp
    exact three w3 ri (.int ..) od
  by_cases c2 : way = 2
  · subst c2
    obtain ⟨d, G4, _, _, _, w4, _, e4⟩ := take_k (m := many) h3 [] (by omega) (by omega)
    simp at e4
    simp [e4]
    exact three (w3.wd hp w4) (.ints G _ (by omega)) (.int ..) (.int ..)
  by_cases c3 : way = 3
  · subst c3
    obtain ⟨d, G4, _, _, _, w4, _, e4⟩ := take_k (m := many) h3 [] (by omega) (by omega)
    simp at e4
    simp [e4]
    exact three (w3.wd hp w4) (.ints G _ (by omega)) (.int ..) (.int ..)
  by_cases c4 : way = 4
  · subst c4
    let SH : List VV := [.non, .tup [.tup (is.map VV.int), .int x], .ref G3.length, .tup [.ref (G3.length + 1), .int x, .int y], .tup [.tup (is.map VV.int), .int x, .int y, .int y], .tup [.int x, .int y, .tup (is.map VV.int)], .tup [.tup (is.map VV.int), .tup [.int x, .int y]], .ref (G3.length + 2), .int 0]
    have hg : (G3 ++ [VO.lst [.tup (is.map VV.int), .int x, .int y], .lst (is.map VV.int), .dic [], .lst SH])[G3.length + 3]? = some (.lst SH) := by simp [List.getElem?_append_right]
    obtain ⟨v, hv, iv⟩ := ix_lit hg p0 (by simp [SH]; omega)
    have hh0 : (G3 ++ [VO.lst [.tup (is.map VV.int), .int x, .int y], .lst (is.map VV.int), .dic [], .lst SH])[G3.length]? = some (.lst [.tup (is.map VV.int), .int x, .int y]) := by simp
    have hh1 : (G3 ++ [VO.lst [.tup (is.map VV.int), .int x, .int y], .lst (is.map VV.int), .dic [], .lst SH])[G3.length + 1]? = some (.lst (is.map VV.int)) := by simp [List.getElem?_append_right]
    have hh2 : (G3 ++ [VO.lst [.tup (is.map VV.int), .int x, .int y], .lst (is.map VV.int), .dic [], .lst SH])[G3.length + 2]? = some (.dic []) := by simp [List.getElem?_append_right]
    have fin : Wp (gcR G (.ok v (G3 ++ [VO.lst [.tup (is.map VV.int), .int x, .int y], .lst (is.map VV.int), .dic [], .lst SH]))) fun v G2 => Wd p G G2 ∧ Pap G2 v := by
      have wE := w3.more [VO.lst [.tup (is.map VV.int), .int x, .int y], .lst (is.map VV.int), .dic [], .lst SH]
      generalize (G3 ++ [VO.lst [.tup (is.map VV.int), .int x, .int y], .lst (is.map VV.int), .dic [], .lst SH]) = G6 at hh0 hh1 hh2 wE
      have rI : Odd G G6 (.tup (is.map VV.int)) := .ints G _ (by omega)
      have no : ∀ {x : VV}, (∀ ys, x ≠ .tup ys) → (∀ xs, x = .tup xs → ∀ z ∈ xs, ∀ ys, z = .tup ys → ys.length < 1000) := fun h xs hx => (h xs hx).elim
      simp [SH] at hv
      rcases hv with rfl | rfl | rfl | rfl | rfl | rfl | rfl | rfl | rfl
      · exact bent_fin wE (.inl ⟨⟨_, rfl⟩, no (by simp)⟩) (.inl (by simp))
      · exact paper_of wE fun z hz => by
          simp at hz
          rcases hz with rfl | rfl
          · exact rI
          · exact .int ..
      · refine bent_fin wE (.inl ⟨tm_lst hh0 fun z hz => ?_, no (by simp)⟩) (.inr (by simp; omega))
        simp at hz
        rcases hz with rfl | rfl | rfl
        · exact tm_ints _ 1 _
        · exact tm_int _ 2 _
        · exact tm_int _ 2 _
      · exact three wE (odd_ref hh1 (by omega)) (.int ..) (.int ..)
      · exact paper_of wE fun z hz => by
          simp at hz
          rcases hz with rfl | rfl | rfl
          · exact rI
          · exact .int ..
          · exact .int ..
      · exact three wE (.int ..) (.int ..) rI
      · exact paper_of wE fun z hz => by
          simp at hz
          rcases hz with rfl | rfl
          · exact rI
          · exact .ints G _ (is := [x, y]) (by simp)
      · exact bent_fin wE (.inr ⟨_, _, rfl, hh2⟩) (.inr (by simp; omega))
      · exact bent_fin wE (.inl ⟨⟨_, rfl⟩, no (by simp)⟩) (.inl (by simp))
    simp [SH] at iv fin
    simp [bList, asSeq, newL, iv]
    exact fin
  have cC : cut (is.map VV.int) (some 1) none = (cut is (some 1) none).map VV.int := cut_map _ _ _ _
  have C1 := cut_len is (some 1) none
  generalize cut is (some 1) none = D at C1 cC
  have L6 : is.length ≤ 16777215 := by omega
  let LN : List VV := [.tup [], .tup [.int 0], .tup (is.map VV.int ++ [.int 0]), .tup [.int (-1), .int (-1)], .tup (is.map VV.int ++ [.int (-1)]), .tup [.bl true], .int 3, .tup (is.map VV.int ++ [.int 1]), .tup (D.map VV.int)]
  have hg : (G3 ++ [VO.lst LN])[G3.length]? = some (.lst LN) := by simp
  obtain ⟨v, hv, iv⟩ := ix_lit hg p0 (by simp [LN]; omega)
  have fin : Wp (gcR G (.ok (.tup [v, .int x, .int y]) (G3 ++ [VO.lst LN]))) fun v G2 => Wd p G G2 ∧ Pap G2 v := by
    have wE := w3.more [VO.lst LN]
    generalize (G3 ++ [VO.lst LN]) = G6 at wE
    have app : ∀ k : Int, Odd G G6 (.tup (is.map VV.int ++ [.int k])) := fun k => by
      have := Odd.ints G G6 (is := is ++ [k]) (by simp; omega)
      rw [List.map_append] at this
      exact this
    refine three wE ?_ (.int ..) (.int ..)
    simp [LN] at hv
    rcases hv with rfl | rfl | rfl | rfl | rfl | rfl | rfl | rfl | rfl
    · exact .ints G _ (is := []) (by simp)
    · exact .ints G _ (is := [0]) (by simp)
    · exact app 0
    · exact .ints G _ (is := [-1, -1]) (by simp)
    · exact app (-1)
    · exact ⟨⟨_, rfl⟩, fun ys h => (by cases h; simp), .inl (by simp)⟩
    · exact .int ..
    · exact app 1
    · exact .ints G _ (by omega)
  simp [LN] at iv fin
  simp [c0, c1, c2, c3, c4, cC, L6, iv]
  exact fin
end DL
end S_W70
section S_X70
set_option linter.all false
set_option maxRecDepth 1000000
set_option maxHeartbeats 4000000
/-! X70: _law_judged_right. -/
namespace DL
theorem layers_run {G1 : Hv} {p r : Nat} {rm : List Int} {S0 : Env} (h : HasS G1 p) (hr : G1[r]? = some (.lst (rm.map VV.int))) (hrp : r ≠ p) (hrm : ∀ x ∈ rm, 0 ≤ x ∧ x ≤ 3) (hl : rm.length ≤ 4)
    (hS : ∀ x : Int, S0.set 5 (some (.int x)) = (S0.set 5 none).set 5 (some (.int x)) ∧ dVar 0 (S0.set 5 (some (.int x))) = (fun G => R.ok (.ref p) G) ∧ dVar 5 (S0.set 5 (some (.int x))) = fun G => R.ok (.int x) G) :
    ∃ ls G2, lcL [(r, .lst (rm.map VV.int))] (gName 5) tYes (dCall f__law_layer (aCons (dVar 0) (aCons (dVar 5) (aNil)))) [5] S0 G1.length (rm.map VV.int) (G1 ++ [.lst []]) = .ok (.ref G1.length) G2 ∧ Wd p G1 G2 ∧ G2[G1.length]? = some (.lst ls) ∧ ls.length = rm.length ∧ (∀ l ∈ ls, l ∈ allLays) ∧ wsum ls ≤ rm.sum := by
  have hp := h.lt
  obtain ⟨acc, G', e, w, hD, hr', hlen, hall, hw⟩ := lcL_inv (chk := [(r, .lst (rm.map VV.int))]) (g := gName 5) (t := tYes) (e := dCall f__law_layer (aCons (dVar 0) (aCons (dVar 5) (aNil)))) (vs := [5]) (S0 := S0) (D := G1.length)
    (fun i acc G' => Wd p G1 G' ∧ G'[G1.length]? = some (.lst acc) ∧ G'[r]? = some (.lst (rm.map VV.int)) ∧ acc.length = i ∧ (∀ l ∈ acc, l ∈ allLays) ∧ wsum acc ≤ (rm.take i).sum)
    (fun _ _ _ ⟨_, _, h, _⟩ => by simp [stays, h]) (rm.map VV.int) 0 [] (G1 ++ [.lst []]) ⟨h.wd.more _, by simp, keepA _ hr, rfl, by simp, by simp [wsum]⟩ (by
    rintro j acc G' x hx _ ⟨w, hD, hr', hlen, hall, hw⟩
    rw [Nat.sub_zero, List.getElem?_map] at hx
    cases hj : rm[j]? with
    | none => rw [hj] at hx; cases hx
    | some i =>
      rw [hj] at hx
      cases hx
      have hm := hrm i (List.mem_of_getElem? hj)
      have hjl := (List.getElem?_eq_some_iff.mp hj).1
      obtain ⟨v, G2, e, n, hv, hwv⟩ := layer_spec (w.has hp) hm.1 hm.2
      obtain ⟨_, s1, s2⟩ := hS i
      have hDp : G1.length ≠ p := by omega
      refine ⟨S0.set 5 (some (.int i)), G', by simp, .inr ⟨G', v, G2, by simp, by simp [-dVar_ap, s1, s2, e], by rw [n.get hDp]; exact hD, by show _ < 16777216; omega, (w.nx hp n).setE (Nat.le_refl _), ?_, ?_, by simp [hlen], ?_, ?_⟩⟩
      · have : G2[G1.length]? = some (.lst acc) := by rw [n.get hDp]; exact hD
        rw [get_set this]
      · have hrD : r ≠ G1.length := by have := (List.getElem?_eq_some_iff.mp hr).1; omega
        rw [List.getElem?_set_ne (Ne.symm hrD), n.get hrp]
        exact hr'
      · intro l hl
        rcases List.mem_append.mp hl with h | h
        · exact hall l h
        · rw [List.mem_singleton.mp h]; exact hv
      · rw [List.take_succ, hj]
        unfold wsum at hw ⊢
        simp
        omega)
  rw [List.length_map, Nat.zero_add] at hlen hw
  rw [List.take_length] at hw
  exact ⟨acc, G', e, w, hD, hlen, hall, hw⟩
/-- the rooms -/
def roomsL : List (List Int) := [[3], [2, 2], [3, 2], [2, 0, 2], [1, 2, 3]]
def roomOk (rm : List Int) : Bool := !rm.isEmpty && (decide (rm.length ≤ 4) && (decide (rm.sum ≤ 6) && rm.all fun x => decide (0 ≤ x) && decide (x ≤ 3)))
theorem rooms_ok : roomsL.all roomOk = true := by decide
theorem room_ok {rm : List Int} (h : rm ∈ roomsL) : rm ≠ [] ∧ rm.length ≤ 4 ∧ rm.sum ≤ 6 ∧ ∀ x ∈ rm, 0 ≤ x ∧ x ≤ 3 := by
  have e := List.all_eq_true.mp rooms_ok rm h
  unfold roomOk at e
  simp only [Bool.and_eq_true, decide_eq_true_eq, List.all_eq_true, Bool.not_eq_true', List.isEmpty_eq_false_iff] at e
  exact ⟨e.1, e.2.1, e.2.2.1, e.2.2.2⟩
theorem rooms_k {G : Hv} {p : Nat} (h : HasS G p) : ∃ r rm G2, rm ∈ roomsL ∧ r ≠ p ∧ Wd p G G2 ∧ HasS G2 p ∧ G2[r]? = some (.lst (rm.map VV.int)) ∧
    sAsg (dIx (dLst (aCons (dLst (aCons (dC (.int 3)) (aNil))) (aCons (dLst (aCons (dC (.int 2)) (aCons (dC (.int 2)) (aNil)))) (aCons (dLst (aCons (dC (.int 3)) (aCons (dC (.int 2)) (aNil)))) (aCons (dLst (aCons (dC (.int 2)) (aCons (dC (.int 0)) (aCons (dC (.int 2)) (aNil))))) (aCons (dLst (aCons (dC (.int 1)) (aCons (dC (.int 2)) (aCons (dC (.int 3)) (aNil))))) (aNil))))))) (dCall f__law_take (aCons (dVar 0) (aCons (dC (.int 5)) (aNil))))) (gName 1)
      (some (.ref p) :: List.replicate 15 none) G = .nx (some (.ref p) :: some (.ref r) :: List.replicate 14 none) G2 := by
  have hp := h.lt
  obtain ⟨d, G2, d0, d1, n, w, hs, e⟩ := take_k (m := 5) h ((roomsL.map fun rm => VO.lst (rm.map VV.int)) ++ [.lst ((List.range 5).map fun i => .ref (G.length + i))]) (by decide) (by decide)
  have hg : G2[G.length + 5]? = some (.lst ((List.range 5).map fun i => .ref (G.length + i))) := by
    rw [n.get (by omega)]
    simp [roomsL, List.getElem?_append_right]
  obtain ⟨x, hx, ix⟩ := ix_lit hg d0 (by simp; omega)
  obtain ⟨i, hi, rfl⟩ := List.mem_map.mp hx
  have hi' : i < 5 := by simpa using hi
  have hri : i < roomsL.length := hi'
  refine ⟨G.length + i, roomsL[i], G2, List.getElem_mem hri, by omega, w, hs, ?_, ?_⟩
  · rw [n.get (by omega), List.getElem?_append_right (Nat.le_add_right _ _), Nat.add_sub_cancel_left, List.getElem?_append_left (by rw [List.length_map]; exact hri), List.getElem?_map, List.getElem?_eq_getElem hri]
    rfl
  · simp [roomsL, List.range_succ, List.replicate] at e ix ⊢
    simp [e, ix]
theorem wsum_set : ∀ {ls : List VV} {i : Nat} {l : VV}, (∀ l ∈ ls, l ∈ allLays) → l ∈ allLays → wid l ≤ 2 → wsum (ls.set i l) ≤ wsum ls + 2
  | [], i, l, _, _, _ => by simp [wsum]
  | x :: ls, 0, l, h, hl, hw => by
    have := wid0 (h x (by simp))
    simp [wsum]
    omega
  | x :: ls, i + 1, l, h, hl, hw => by
    have := wsum_set (i := i) (fun y hy => h y (List.mem_cons_of_mem _ hy)) hl hw
    unfold wsum at this ⊢
    simp at this ⊢
    omega
theorem text_run {G : Hv} {D : Nat} {ls : List VV} {S0 : Env} {i : Nat} (hD : G[D]? = some (.lst ls)) (hls : ∀ l ∈ ls, l ∈ allLays) (h4 : ls.length ≤ 4) (hv : ∀ x : VV, dVar i (S0.set i (some x)) = fun G => R.ok x G) :
    lcL [(D, .lst ls)] (gName i) tYes (dCall f__law_text (aCons (dVar i) (aNil))) [i] S0 G.length ls (G ++ [.lst []]) = .ok (.ref G.length) (G ++ [.lst (ls.map fun l => .str (txt l))]) :=
  lcL_map (f := fun l => .str (txt l)) ls G rfl (fun o => by simp [stays, keepA [o] hD]) (by show _ < 16777216; omega) (by
    intro x o hx
    refine ⟨_, rfl, ?_⟩
    have := text_eq (hls x hx) (G ++ [o])
    rw [dCall_ap, aCons_ap, hv]
    simp [this])
theorem eq_nilP {G : Hv} {d e : Nat} {PL : List (Nat × Nat)} (hd : G[d]? = some (.lst (PL.map pV))) (he : G[e]? = some (.lst [])) : oEq G (.ref d) (.ref e) = some (decide (PL = [])) := by
  have em : ∀ n, mapO (toPD G (n + 2)) (PL.map pV) = some (PL.map fun p => PD.tup [.int p.1, .int p.2]) := fun n => by
    clear hd
    induction PL with
    | nil => rfl
    | cons a r ih => rw [List.map_cons, mapO_cons, ih]; rfl
  unfold oEq
  rw [DEPTH_eq, toPD_ref, toPD_ref, hd, he]
  simp only [em, mapO_nil, Option.map_some]
  cases PL <;> simp
theorem Tm.wd {G G' : Hv} {p : Nat} (hs : HasS G p) (w : Wd p G G') : ∀ (n : Nat) (v : VV), Tm G n v → Tm G' n v
  | 0, v, h => h.zero.elim
  | n + 1, v, h => by
    cases v with
    | non => exact ⟨_, rfl⟩
    | bl b => exact ⟨_, rfl⟩
    | int b => exact ⟨_, rfl⟩
    | str b => exact ⟨_, rfl⟩
    | tup xs => exact Tm.mkTup fun x hx => Tm.wd hs w n x (h.tup x hx)
    | ref i =>
      obtain ⟨d, e⟩ := h
      rw [toPD_ref] at e
      cases q : G[i]? with
      | none => rw [q] at e; cases e
      | some o =>
        rw [q] at e
        cases o with
        | lst xs =>
          simp only at e
          cases q2 : mapO (toPD G n) xs with
          | none => rw [q2] at e; cases e
          | some ds =>
            by_cases hi : i = p
            · subst hi
              obtain ⟨a, b, c, _, ha⟩ := hs
              rw [ha] at q
              cases q
              obtain ⟨a', b', c', _, ha'⟩ := w.has (show i < G.length from (List.getElem?_eq_some_iff.mp ha).1)
              cases n with
              | zero => cases q2
              | succ n =>
                refine tm_lst ha' fun x hx => ?_
                simp at hx
                rcases hx with rfl | rfl | rfl <;> exact tm_int _ n _
            · refine tm_lst (keep w hi q) fun x hx => Tm.wd hs w n x ?_
              exact mapO_all q2 x hx
        | _ => cases e
    | exc _ _ => obtain ⟨d, e⟩ := h; cases e
    | clo _ _ => obtain ⟨d, e⟩ := h; cases e
    | cls _ => obtain ⟨d, e⟩ := h; cases e
theorem Pap.wd {G G' : Hv} {p : Nat} {v : VV} (h : Pap G v) (hs : HasS G p) (w : Wd p G G') : Pap G' v := by
  rcases h with ⟨h1, h2⟩ | ⟨i, kvs, rfl, h2⟩
  · exact .inl ⟨Tm.wd hs w 4 v h1, h2⟩
  · refine .inr ⟨i, kvs, rfl, keep w ?_ h2⟩
    rintro rfl
    obtain ⟨a, b, c, _, ha⟩ := hs
    rw [ha] at h2
    cases h2
theorem judged_spec {G : Hv} {p : Nat} (h : HasS G p) : Wp (f__law_judged_right [.ref p] G) fun v G2 => v = .bl true ∧ Nx p G G2 := by
  have hp := h.lt
  refine Wp_ref ?_
  obtain ⟨r, rm, G1, hrm, hrp, w1, h1, hr, e1⟩ := rooms_k h
  obtain ⟨hrm0, hrm4, hrm8, hrm3⟩ := room_ok hrm
  simp only [b__law_judged_right, start, List.map_cons, List.map_nil, List.length_cons, List.length_nil, dSeq_ap]
  show Wp (gcR G (outR ((sAsg _ _ (some (.ref p) :: List.replicate 15 none) G).thn _))) _
  rw [e1, thn_nx]
  simp only [List.replicate]
  -- layers, plan
  obtain ⟨ls, G2, e2, w2, hD, hlen, hls, hws⟩ := layers_run (S0 := [some (.ref p), some (.ref r), none, none, none, none, none, none, none, none, none, none, none, none, none, none]) h1 hr hrp hrm3 hrm4 (fun x => ⟨rfl, rfl, rfl⟩)
  have h2 := w2.has h1.lt
  have hDp : G1.length ≠ p := by have := h1.lt; omega
  obtain ⟨laid, G3, hlaid, w3, h3, e3⟩ := plan_k h2
  simp [seqOf, hr, wipe, e2, e3]
  -- text, line
  have hD3 := keep w3 hDp hD
  have hls0 : ls ≠ [] := fun h => hrm0 (List.length_eq_zero_iff.mp (by rw [← hlen, h]; rfl))
  have tr1 := text_run (i := 8) (S0 := [some (.ref p), some (.ref r), some (.ref G1.length), some (.str laid), some .non, none, none, none, none, none, none, none, none, none, none, none]) hD3 hls (by omega) (fun x => rfl)
  have jr := join_run (G := G3 ++ [VO.lst (ls.map fun l => .str (txt l))]) (D := G3.length) (by simp) (by omega) hls
  obtain ⟨is, G4, hl, w4, h4, e4⟩ := line_k (hasA h3 [VO.lst (ls.map fun l => .str (txt l))]) hlaid
  have hl7 := hl.le
  have w34 : Wd p G3 G4 := (h3.wd.more _).wd h3.lt w4
  have hseq : seqOf G3 (.ref G1.length) = some (ls, [(G1.length, .lst ls)]) := by simp [seqOf, hD3]
  simp [-sIf_ap, hD3, isRt, tr1, jr, e4]
  -- the other program
  have hD4 := keep w34 hDp hD3
  have hr4 := keep w34 hrp (keep w3 hrp (keep w2 hrp hr))
  have otherx : ∃ (ov : VV) (o : Option (List VV)) (G5 : Hv), Wd p G4 G5 ∧ HasS G5 p ∧ ((ov = .non ∧ o = none) ∨ ∃ or2 l2, ov = .ref or2 ∧ or2 ≠ p ∧ o = some l2 ∧ G5[or2]? = some (.lst l2) ∧ l2 ≠ [] ∧ l2.length ≤ 4 ∧ (∀ l ∈ l2, l ∈ allLays) ∧ wsum l2 ≤ 8) ∧
      sIf (tV (dCmp cEq (dCall f__law_take (aCons (dVar 0) (aCons (dC (.int 2)) (aNil)))) (dC (.int 0)))) (dSeq (sAsg (dB bList (aCons (dVar 2) (aNil))) (gName 4)) (
        sAsg (dCall f__law_layer (aCons (dVar 0) (aCons (dC (.int 2)) (aNil)))) (gSub (dVar 4) (dCall f__law_take (aCons (dVar 0) (aCons (dB bLen (aCons (dVar 1) (aNil))) (aNil))))))) (dNext)
      [some (.ref p), some (.ref r), some (.ref G1.length), some (.str laid), some .non, none, some (.str (wholeText ls)), some (.tup (is.map VV.int)), none, none, none, none, none, none, none, none] G4 = .nx [some (.ref p), some (.ref r), some (.ref G1.length), some (.str laid), some ov, none, some (.str (wholeText ls)), some (.tup (is.map VV.int)), none, none, none, none, none, none, none, none] G5 := by
    obtain ⟨d, A1, d0, d1, n1, v1, s1, q1⟩ := take_k (m := 2) h4 [] (by decide) (by decide)
    simp at q1
    by_cases hd : d = 0
    · have hD5 := keep v1 hDp hD4
      have hr5 := keep v1 hrp hr4
      have sA := hasA s1 [VO.lst ls]
      obtain ⟨v, A2, q2, n2, hv, hwv⟩ := layer_spec (room := 2) sA (by decide) (by decide)
      have v2 : Wd p A1 A2 := wdA s1 n2
      have s2 := v2.has s1.lt
      have hA1p : A1.length ≠ p := by have := s1.lt; omega
      have hl5 : A2[A1.length]? = some (.lst ls) := by rw [n2.get hA1p]; simp
      obtain ⟨d', A3, d0', d1', n3, v3, s3, q3⟩ := take_k (m := rm.length) s2 [] (by have := List.length_pos_iff.mpr hrm0; omega) (by omega)
      simp at q3
      have hl6 := keep v3 hA1p hl5
      have hr6 := keep v2 hrp hr5
      have hix : ixN ls.length d' = some d'.toNat := ixN_at d0' (by omega)
      have blr : bLen [.ref r] A2 = some (.int rm.length, A2) := by simp [asListR, hr6]
      have bls : bList [.ref G1.length] A1 = some (.ref A1.length, A1 ++ [.lst ls]) := by simp [bList, asSeq, asListR, hD5, newL]
      refine ⟨.ref A1.length, some (ls.set d'.toNat v), A3.set A1.length (.lst (ls.set d'.toNat v)), (v1.wd h4.lt v2).wd h4.lt v3 |>.setE (by have := v1.len; omega), ?_, .inr ⟨A1.length, _, rfl, hA1p, rfl, get_set hl6, ?_, by rw [List.length_set]; omega, ?_, ?_⟩, ?_⟩
      · obtain ⟨a, b, c, g, e⟩ := s3
        exact ⟨a, b, c, g, by rw [List.getElem?_set_ne hA1p]; exact e⟩
      · intro hh
        have := congrArg List.length hh
        rw [List.length_set] at this
        exact hls0 (List.length_eq_zero_iff.mp this)
      · intro l hl
        rcases List.mem_or_eq_of_mem_set hl with h | h
        · exact hls l h
        · rw [h]; exact hv
      · have := wsum_set (i := d'.toNat) hls hv hwv
        omega
      · simp [-bLen_ref, q1, hd, bls, q2, blr, q3, hl6, hix]
    · exact ⟨.non, none, A1, v1, s1, .inl ⟨rfl, rfl⟩, by simp [q1, hd]⟩
  obtain ⟨ov, o, G5, w5, h5, hov, e5⟩ := otherx
  simp [-sIf_ap, e5]
  -- rows, pairs
  obtain ⟨hab0, hab⟩ := line_abs hl
  obtain ⟨kk, E6, e6, ht⟩ := law_rows_eq (is := is) (by omega) (by omega) G5
  rw [cellsT_eq is 0 0] at ht
  have hR := rows_cells is
  have hCl := cells_len is 0 0
  generalize cells is 0 0 = C at ht hR hCl
  simp [-sIf_ap, e6]
  have hD6 := keepA E6 (keep w5 hDp hD4)
  have hov6 : OtherAt (G5 ++ E6) ov o := by
    rcases hov with h | ⟨or2, l2, q1, q2, q3, q4, q5, q6, q7, q8⟩
    · exact .inl h
    · exact .inr ⟨or2, l2, q1, q3, keepA E6 q4, q6, q7⟩
  generalize hG6 : G5 ++ E6 = G6 at ht hD6 hov6 ⊢
  generalize htr : G5.length + kk = tr at ht ⊢
  have w6 : Wd p G5 G6 := by rw [← hG6]; exact h5.wd.more E6
  have h6 := w6.has h5.lt
  obtain ⟨rp, E7, e7, hrpl, h7p⟩ := law_pairs_eq hR hls (by omega) (by omega) hD6 ht hov6
  simp [-sIf_ap, e7]
  have htp : tr ≠ p := by rw [← htr]; have := h5.lt; omega
  have hrpp : rp ≠ p := by have := h6.lt; omega
  have ht7 := keepA E7 ht
  have h7 := hasA h6 E7
  have w7 : Wd p G6 (G6 ++ E7) := h6.wd.more E7
  generalize hG7 : G6 ++ E7 = G7 at h7 w7 ht7 h7p ⊢
  -- x, y
  have blt : ∀ A : Hv, A[tr]? = some (.lst (C.map cT)) → bLen [.ref tr] A = some (.int C.length, A) := fun A h => by simp [asListR, h]
  obtain ⟨x, G8, x0, x1, n8, w8, h8, e8⟩ := take_k (m := C.length) h7 [] (by omega) (by omega)
  have ht8 := keep w8 htp ht7
  obtain ⟨y, G9, y0, y1, n9, w9, h9, e9⟩ := take_k (m := C.length) h8 [] (by omega) (by omega)
  simp only [List.append_nil] at e8 e9
  have al7 : asListR G7 (.ref tr) = some (C.map cT) := by simp [asListR, ht7]
  simp [-sIf_ap, -bLen_ref, al7, e8, blt _ ht8, e9]
  have h9p := keep w9 hrpp (keep w8 hrpp h7p)
  have pickx : ∃ (x' y' : Int) (G10 : Hv), Wd p G9 G10 ∧ HasS G10 p ∧ sIf (tAnd (tV (dCmp cNe (dVar 10) (dLst (aNil)))) (tV (dCmp cGt (dCall f__law_take (aCons (dVar 0) (aCons (dC (.int 4)) (aNil)))) (dC (.int 0))))) (sAsg (dIx (dVar 10) (dCall f__law_take (aCons (dVar 0) (aCons (dB bLen (aCons (dVar 10) (aNil))) (aNil))))) (gTup [gName 11, gName 12])) (dNext)
      [some (.ref p), some (.ref r), some (.ref G1.length), some (.str laid), some ov, none, some (.str (wholeText ls)), some (.tup (is.map VV.int)), none, some (.ref tr), some (.ref rp), some (.int x), some (.int y), none, none, none] G9 = .nx [some (.ref p), some (.ref r), some (.ref G1.length), some (.str laid), some ov, none, some (.str (wholeText ls)), some (.tup (is.map VV.int)), none, some (.ref tr), some (.ref rp), some (.int x'), some (.int y'), none, none, none] G10 := by
    have eqn : oEq (G9 ++ [.lst []]) (.ref rp) (.ref G9.length) = some (decide (pairsL ls o C = [])) := eq_nilP (keepA _ h9p) (by simp)
    by_cases hP0 : pairsL ls o C = []
    · exact ⟨x, y, G9 ++ [.lst []], h9.wd.more _, hasA h9 _, by simp [eqn, hP0]⟩
    · have eqn' : oEq (G9 ++ [.lst []]) (.ref rp) (.ref G9.length) = some false := by rw [eqn]; simp [hP0]
      obtain ⟨d, A1, d0, d1, n1, v1, s1, q1⟩ := take_k (m := 4) h9 [.lst []] (by decide) (by decide)
      by_cases hd : 0 < d
      · have hpl : 0 < (pairsL ls o C).length := List.length_pos_iff.mpr hP0
        have hpb : (pairsL ls o C).length ≤ 1000 * 1000 := by
          have h1 := pairs_len ls o C C.length
          have h2 : C.length * C.length ≤ 1000 * 1000 := Nat.mul_le_mul (by omega) (by omega)
          have h3 : (pairsL ls o C).length ≤ (pairs1 ls o C C.length).length := by
            unfold pairsL
            cases o with
            | none => exact List.length_filter_le _ _
            | some _ => exact Nat.le_refl _
          omega
        have hp1 := keep v1 hrpp h9p
        obtain ⟨d', A2, d0', d1', n2, v2, s2, q2⟩ := take_k (m := (pairsL ls o C).length) s1 [] (by omega) (by omega)
        simp only [List.append_nil] at q2
        have hp2 := keep v2 hrpp hp1
        obtain ⟨z, hz, iz⟩ := ix_lit hp2 d0' (by simpa using d1')
        obtain ⟨⟨a, b⟩, _, rfl⟩ := List.mem_map.mp hz
        have blp : bLen [.ref rp] A1 = some (.int (pairsL ls o C).length, A1) := by simp [asListR, hp1]
        exact ⟨a, b, A2, v1.wd h9.lt v2, s2, by simp [-bLen_ref, eqn', q1, hd, blp, q2, iz, pV]⟩
      · exact ⟨x, y, A1, v1, s1, by simp [eqn', q1, hd]⟩
  obtain ⟨x', y', G10, w10, h10, e10⟩ := pickx
  simp [-sIf_ap, -dIf_ap, e10]
  -- the paper
  have paperx : ∃ (v : VV) (G12 : Hv), Pap G12 v ∧ Wd p G10 G12 ∧ HasS G12 p ∧ dIf (tV (dCmp cEq (dCall f__law_take (aCons (dVar 0) (aCons (dC (.int 2)) (aNil)))) (dC (.int 0)))) (dTup (aCons (dVar 7) (aCons (dVar 11) (aCons (dVar 12) (aNil))))) (dCall f__law_bent (aCons (dVar 0) (aCons (dTup (aCons (dVar 7) (aCons (dVar 11) (aCons (dVar 12) (aNil))))) (aNil))))
      [some (.ref p), some (.ref r), some (.ref G1.length), some (.str laid), some ov, none, some (.str (wholeText ls)), some (.tup (is.map VV.int)), none, some (.ref tr), some (.ref rp), some (.int x'), some (.int y'), none, none, none] G10 = .ok v G12 := by
    obtain ⟨d, G12, d0, d1, n12, w12, h12, e12⟩ := take_k (m := 2) h10 [] (by decide) (by decide)
    simp at e12
    by_cases hd : d = 0
    · refine ⟨.tup [.tup (is.map VV.int), .int x', .int y'], G12, .inl ⟨Tm.mkTup fun z hz => ?_, fun xs e z hz ys hy => ?_⟩, w12, h12, by simp [e12, hd]⟩
      · simp at hz
        rcases hz with rfl | rfl | rfl
        · exact tm_ints _ 1 is
        · exact tm_int _ 2 _
        · exact tm_int _ 2 _
      · cases e
        simp at hz
        rcases hz with rfl | rfl | rfl
        · cases hy; simp; omega
        · cases hy
        · cases hy
    · obtain ⟨v, G13, e13, w13, pv⟩ := bent_spec (x := x') (y := y') h12 hl
      exact ⟨v, G13, pv, w12.wd h10.lt w13, w13.has h12.lt, by simp [e12, hd, e13]⟩
  obtain ⟨v, G12, pv, w12, h12, e12⟩ := paperx
  simp [-sIf_ap, -dIf_ap, e12]
  -- the plan again
  have planx : ∃ (laid2 : List Nat) (G13 : Hv), laid2 ∈ planS ∧ Wd p G12 G13 ∧ HasS G13 p ∧ Pap G13 v ∧ sIf (tV (dCmp cEq (dCall f__law_take (aCons (dVar 0) (aCons (dC (.int 10)) (aNil)))) (dC (.int 0)))) (sAsg (dCall f__law_plan (aCons (dVar 0) (aNil))) (gName 3)) (dNext)
      [some (.ref p), some (.ref r), some (.ref G1.length), some (.str laid), some ov, none, some (.str (wholeText ls)), some (.tup (is.map VV.int)), none, some (.ref tr), some (.ref rp), some (.int x'), some (.int y'), some v, none, none] G12 = .nx [some (.ref p), some (.ref r), some (.ref G1.length), some (.str laid2), some ov, none, some (.str (wholeText ls)), some (.tup (is.map VV.int)), none, some (.ref tr), some (.ref rp), some (.int x'), some (.int y'), some v, none, none] G13 := by
    obtain ⟨d, A1, d0, d1, n1, v1, s1, q1⟩ := take_k (m := 10) h12 [] (by decide) (by decide)
    simp at q1
    by_cases hd : d = 0
    · obtain ⟨sp, A2, hsp, v2, s2, q2⟩ := plan_k s1
      exact ⟨sp, A2, hsp, v1.wd h12.lt v2, s2, (pv.wd h12 v1).wd s1 v2, by simp [q1, hd, q2]⟩
    · exact ⟨laid, A1, hlaid, v1, s1, pv.wd h12 v1, by simp [q1, hd]⟩
  obtain ⟨laid2, G13, hlaid2, w13, h13, pv13, e13⟩ := planx
  simp [-sIf_ap, e13]
  -- what stays
  have wB : Wd p G5 G13 := (((((w6.wd h5.lt w7).wd h5.lt w8).wd h5.lt w9).wd h5.lt w10).wd h5.lt w12).wd h5.lt w13
  have wAll : Wd p G G13 := ((((w1.wd hp w2).wd hp w3).wd hp w34).wd hp w5).wd hp wB
  have hD13 := keep wB hDp (keep w5 hDp hD4)
  have hisN : isN ov = o.isNone := hov6.isN
  rcases hov with ⟨rfl, rfl⟩ | ⟨or2, l2, rfl, horp, rfl, q4, q5, q6, q7, q8⟩
  · have sh := law_shows_eq (plan := laid2) (by omega) hls hD13 (.inl ⟨rfl, rfl⟩) pv13
    have ac := accepts_more (plan := laid2) hlaid2 hls0 (by omega) hls (by omega) pv13
    generalize showsU ls none laid2 v = res at sh ac
    obtain ⟨rs, hrs⟩ := repr_bl res
    simp [sh, ac, hrs]
    exact wAll.end (by simp) fun G3 n => ⟨rfl, n⟩
  · have hl2 := keep wB horp q4
    have tr2 := text_run (i := 8) (S0 := [some (.ref p), some (.ref r), some (.ref G1.length), some (.str laid2), some (.ref or2), none, some (.str (wholeText ls)), some (.tup (is.map VV.int)), none, some (.ref tr), some (.ref rp), some (.int x'), some (.int y'), some v, some (.tup [.str [109, 111, 114, 101], .str (wholeText ls), .str laid2]), none]) hl2 q7 q6 (fun x => rfl)
    have jr2 := join_run (G := G13 ++ [VO.lst (l2.map fun l => .str (txt l))]) (D := G13.length) (by simp) q6 q7
    have hseq2 : seqOf G13 (.ref or2) = some (l2, [(or2, .lst l2)]) := by simp [seqOf, hl2]
    have sh := law_shows_eq (plan := laid2) (by omega) hls (keepA [VO.lst (l2.map fun l => .str (txt l))] hD13) (OtherAt.more (.inr ⟨or2, l2, rfl, rfl, hl2, q6, q7⟩) [VO.lst (l2.map fun l => .str (txt l))]) (pv13.more [VO.lst (l2.map fun l => .str (txt l))])
    have ac := accepts_unlike (plan := laid2) hlaid2 hls0 (by omega) hls (by omega) q5 q6 q7 q8 (pv13.more [VO.lst (l2.map fun l => .str (txt l))])
    have wC : Wd p G (G13 ++ [VO.lst (l2.map fun l => .str (txt l))]) := wAll.more _
    generalize (G13 ++ [VO.lst (l2.map fun l => .str (txt l))]) = G14 at tr2 jr2 sh ac wC
    generalize showsU ls (some l2) laid2 v = res at sh ac
    obtain ⟨rs, hrs⟩ := repr_bl res
    simp [hseq2, wipe, tr2, isRt, jr2, sh, ac, hrs]
    exact wC.end (by simp) fun G3 n => ⟨rfl, n⟩
end DL
end S_X70
section S_Y70
set_option linter.all false
set_option maxRecDepth 1000000
set_option maxHeartbeats 4000000
/-! Y70: the law. -/
namespace DL
theorem law_plain {ns : List Int} (hl : ns.length ≤ 63) (hb : ∀ z ∈ ns, z.natAbs.log2 ≤ 1048576) : ∃ G, f_law [.ref 0] [.flst (ns.map VV.int)] = .ok (.bl true) G := by
  obtain ⟨m, hm, hm2⟩ : ∃ m : Nat, m ≤ 6 ∧ (if (if (6 : Int) < ns.length then (6 : Int) else ns.length) > 2 then (if (6 : Int) < ns.length then (6 : Int) else ns.length) else 2) = m := by
    refine ⟨((if (if (6 : Int) < ns.length then (6 : Int) else ns.length) > 2 then (if (6 : Int) < ns.length then (6 : Int) else ns.length) else 2) : Int).toNat, ?_, ?_⟩ <;> (split <;> split <;> omega)
  obtain ⟨S', G', e, u1, u2, hS, hz⟩ := forL_inv (g := gName 1) (b := dSeq (sAsg (dCall f__law_spring (aCons (dVar 0) (aCons (dVar 1) (aNil)))) (gName 2)) (
      sIf (tOr (tNot (tV (dCall f__law_judged_right (aCons (dVar 2) (aNil))))) (tNot (tV (dCall f__law_judged_right (aCons (dVar 2) (aNil)))))) (dRet (dC (.bl false))) (dNext)))
    (fun i S G => ∃ u1 u2, S = [some (.ref 0), u1, u2] ∧ G[0]? = some (.flst (ns.map VV.int))) (upTo 0 m) 0 [some (.ref 0), none, none] [.flst (ns.map VV.int)] ⟨none, none, rfl, rfl⟩ (by
    rintro j S G x hx _ hj ⟨u1, u2, rfl, hz⟩
    rw [upTo_range] at hx
    obtain ⟨a, ha, rfl⟩ := List.mem_map.mp hx
    have ha' : a < m := by simpa using ha
    obtain ⟨E, q, es, hq, hs⟩ := spring_spec (a := a) hz hl hb (by omega)
    have hG0 : 0 < G.length := (List.getElem?_eq_some_iff.mp hz).1
    have hq0 : (0 : Nat) ≠ q := by omega
    obtain ⟨v2, G2, e2, rfl, n2⟩ := judged_spec hs
    have hs2 := n2.wd.has hs.lt
    obtain ⟨v3, G3, e3, rfl, n3⟩ := judged_spec hs2
    refine ⟨[some (.ref 0), some (.int a), u2], G, [some (.ref 0), some (.int a), some (.ref q)], G3, by simp, ?_, _, _, rfl, ?_⟩
    · simp [es, e2, e3]
    · rw [n3.get hq0, n2.get hq0]
      exact keepA E hz)
  have bl : bLen [.ref 0] [.flst (ns.map VV.int)] = some (.int ns.length, [.flst (ns.map VV.int)]) := by simp [asListR]
  have bmin : ∀ a b G, bMin2 [.int a, .int b] G = some (.int (if b < a then b else a), G) := fun _ _ _ => rfl
  have bmax : ∀ a b G, bMax2 [.int a, .int b] G = some (.int (if b > a then b else a), G) := fun _ _ _ => rfl
  have hmid : mid (m : Int) = true := mid_of (by omega)
  have fin : ∃ G, gcR [.flst (ns.map VV.int)] (.ok (.bl true) G') = .ok (.bl true) G := by
    unfold gcR
    simp only
    split
    · exact ⟨_, rfl⟩
    · exact ⟨_, rfl⟩
  obtain ⟨G2, e2⟩ := fin
  refine ⟨G2, ?_⟩
  · unfold f_law
    rw [dDef_ref (k := 1) rfl (by simp)]
    subst hS
    have run : b_law [some (.ref 0), none, none] [.flst (ns.map VV.int)] = .rt (.bl true) G' := by
      have first : (iRange1 (aCons (dB bMax2 (aCons (dC (.int 2)) (aCons (dB bMin2 (aCons (dB bLen (aCons (dVar 0) (aNil))) (aCons (dC (.int 6)) (aNil)))) (aNil)))) (aNil))) [some (.ref 0), none, none] [.flst (ns.map VV.int)] = .ok (upTo 0 m, []) [.flst (ns.map VV.int)] := by
        rw [iRange1_ap, aCons_ap, dB_ap, aCons_ap, dC_ap, R.bind_ok, aCons_ap, dB_ap, aCons_ap, dB_ap, aCons_ap]
        simp only [dVar_ap, List.getElem?_cons_zero, R.bind_ok, aNil_ap, bl, ofO_some, aCons_ap, dC_ap, bmin, bmax]
        rw [hm2]
        simp [rangeOf1, hmid]
      unfold b_law
      rw [dSeq_ap, sFor_ap, first, R.st_ok]
      simp only
      rw [e]
      simp
    show gcR _ (outR (b_law [some (.ref 0), none, none] [.flst (ns.map VV.int)])) = _
    rw [run]
    exact e2
end DL
end S_Y70
set_option Elab.async false
set_option linter.all false
set_option maxRecDepth 100000
set_option maxHeartbeats 0
open PySem PySem.W PySem.Calls PyProof.Rows
theorem DL.bits_log {z : Int} (h : PySem.Builtin.Int.intBits z ≤ 1048576) : z.natAbs.log2 ≤ 1048576 := by
  unfold PySem.Builtin.Int.intBits at h
  by_cases e : z = 0
  · subst e; decide
  · have : (z == 0) = false := by simpa using e
    rw [this] at h
    simp only [Bool.false_eq_true, if_false] at h
    omega
theorem PySem.Challenge.cw_filledrows_k70_places_judged_holds : PySem.Challenge.rw_filledrows_k70_places_judged.Holds := by
  w_on; o_law
  refine HandSHeadRun.head_any (r := OpenLaw.row PySem.Challenge.rw_filledrows_k70_places_judged) (q := view (OpenLaw.row PySem.Challenge.rw_filledrows_k70_places_judged).prog [99]) (H := DW.hk) (ob := DW.ob) (M := 6000) (loose := DW.names) (d := HandSHeadRun.topDef (OpenLaw.row PySem.Challenge.rw_filledrows_k70_places_judged).prog 99) (kwd := []) DW.ob_eq
    (by kernel_rfl) (fun s => by kernel_rfl) DW.run (by kernel_rfl) (by kernel_rfl) (by kernel_rfl) (by rfl) (by first | assumption | decide +kernel) (by decide +kernel) ⟨rfl, rfl, rfl, rfl, rfl, by decide +kernel⟩ ?hw ?hc
  case hw => w_witness2
  case hc =>
    refine DL.walk_dl (l := PySem.Challenge.rw_filledrows_k70_places_judged) (n := 63) (k := 11) (x := "script") (fn := DL.f_law) rfl (by decide) (by kernel_rfl) ⟨rfl, by decide, by decide⟩ (fun ns hl hb => DL.law_plain hl fun z hz => DL.bits_log (hb z hz)) ?F
    intro w mg fa h Y G hmg0
    obtain ⟨K, KX, nl, c⟩ := Y
    have hmg : mg ("law" : PySem.Str) = some (.ref fa) := by
      have e : (HandSHeadRun.topDef (OpenLaw.row PySem.Challenge.rw_filledrows_k70_places_judged).prog 99).name = ("law" : PySem.Str) := by kernel_rfl
      rw [← e]
      exact hmg0
    obtain ⟨fd, F⟩ := c.def_ 54 (d := DW.d_law) rfl
    have e := hmg.symm.trans (He.glo_ok KX G (c.fact 86 (f := .glo "law") rfl))
    cases e
    have b := L2.FunD.bindsA (ps := ["script"]) F fun _ _ _ _ _ _ us hl => match us, hl with | [_], _ => rfl
    obtain ⟨oc, od, dV, kV, doc, pm, an, cdv, ct, osl, rfl, lk, _⟩ := F.ex
    refine ⟨K, _, KX, nl, fun s v => b s [v] rfl, fun base hb hG => ?_⟩
    obtain ⟨⟨fd', F1, _, F3⟩, _, _⟩ := DW.G_law (P := (PySem.Challenge.rw_filledrows_k70_places_judged).prog) (base := base) (DW.topOk (w := w) KX G c)
    obtain ⟨_, _, _, lk'⟩ := F3
    have e2 := lk.symm.trans lk'
    cases e2
    exact F1
